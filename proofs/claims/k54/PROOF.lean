import PyProof.Rows.All
import Wide.All
import OpenK.AllK
import Wide.FinOn
import HandS.ForMost
import HandS.Wide
import HandS.WideBits
import HandS.IsInst
import HandS.StrMore
import HandS.TupAny
import HandS.EndBits
import PyProof.StrOps2
import HandS.Style
import HandS.Iter
import HandS.Comp
import HandS.Zip
import HandS.Codes
import KE.GoesMore
import PyProof.EnumMake
import PyProof.Draws
import HandS.Defaults
import HandS.MakeKwOnly
import HandS.ExcInit
import HandS.ExcSuper
import HandS.NestedK
import HandS.ClsMeth
import KE.KSuper
import KE.KExcSuper
import HandS.FStr
import HandS.WordsExc
import HandS.ExcIs
import HandS.ExcField
import HandS.HotCalls
import KE.KExcIs
import KE.KIsAll
import HandS.ExcInitHot
import HandS.TryOnly
import HandS.Star
import HandS.Property
import KE.KTupSum
import HandS.Gcd
import Flt.RightSqrt
import HandS.GenList
import HandS.Replace
import PyProof.Rows.StrStrike
import KE.KMathGC
import HandS.Conv
import HandS.ReplaceDef
import HandS.ReplaceLit
import PySem.Challenge.RW_carrylog_k54_choose_family
set_option Elab.async false
set_option linter.all false
set_option maxRecDepth 100000
set_option maxHeartbeats 2000000
/-! Gx: short words over the hand layer: callable defs by name (Df, Cl), operators by the values' kinds, steps of a reading (g_..), heaps that only grow (Ex, ExB). -/
namespace Gx
open PySem PySem.Spec PyProof.Rows L2

/-- n times the text z -/
def repS (z : Str) (n : Nat) : Str := ⟨((List.replicate n z.cps.toList).flatten).toArray⟩
theorem foldl_app (l : List (Array Nat)) : ∀ a : Array Nat, (l.foldl (· ++ ·) a).toList = a.toList ++ (l.map Array.toList).flatten := by
  induction l with
  | nil => intro a; simp
  | cons x r ih => intro a; rw [List.foldl_cons, ih]; simp
theorem repS_fold (z : Str) (n : Nat) : (⟨(List.replicate n z.cps).foldl (· ++ ·) #[]⟩ : Str) = repS z n := by
  unfold repS
  congr 1
  apply Array.toList_inj.mp
  rw [foldl_app]
  simp
theorem repS_one (z : Str) : repS z 1 = z := by
  unfold repS
  simp
theorem repS_nil (z : Str) (n : Nat) (h : z.length = 0) : repS z n = z := by
  obtain ⟨a⟩ := z
  have h' : a = #[] := Array.size_eq_zero_iff.mp h
  subst h'
  unfold repS
  simp
theorem repS_zero (z : Str) : repS z 0 = Str.empty := by
  unfold repS
  simp
  rfl
theorem repS_length (z : Str) (n : Nat) : (repS z n).length = z.length * n := by
  unfold repS Str.length
  simp [Nat.mul_comm]
section
variable {P : Program} {w : World} {K : PySem.W.Frag} {mg : Str → Option Value} {base : Heap}
/-- the def x of the text st as the top left it -/
structure Df (K : PySem.W.Frag) (mg : Str → Option Value) (x : Str) (st : Stmt) (ps : List Str) : Prop where
  ex : ∃ (f : Addr) (fd : FuncData), mg x = some (.ref f) ∧ Fun K x x st f fd ∧ ∀ us : List Value, us.length = ps.length → bindArgs fd ⟨us, []⟩ = pure (ps.zip us)
/-- the def x may be called -/
structure Cl (P : Program) (w : World) (K : PySem.W.Frag) (mg : Str → Option Value) (base : Heap) (k : Nat) (x : Str) (ps : List Str) (sp : Sp) : Prop where
  ex : ∃ (f : Addr) (fd : FuncData), mg x = some (.ref f) ∧ PySem.W.keepIn K (.ref f) = true ∧ (∀ us : List Value, us.length = ps.length → bindArgs fd ⟨us, []⟩ = pure (ps.zip us)) ∧ FnOk P w K mg base CX0 k f fd ps sp
theorem df_mk {h : Heap} {x : Str} {st : Stmt} {ps : List Str} {f : Addr} {oc : Value} {od an : Option Addr} {osl : Array (Option Value)} {kV doc pm cdv ct : Value} (X : K.In h) (G : h.Ns mainGlobals mg)
    (a : PySem.W.nsIn K mainGlobals x = some (some (.ref f))) (l : K.lookup f = some ⟨oc, od, .func (PySem.W.fnOf x x (defArgs st) (defBody st) (defScope st) .none kV doc pm an cdv ct), osl⟩)
    (c : PySem.W.codeIn K cdv x = true) (k : PySem.W.keepIn K (.ref f) = true)
    (b : ∀ us : List Value, us.length = ps.length → bindArgs (PySem.W.fnOf x x (defArgs st) (defBody st) (defScope st) .none kV doc pm an cdv ct) ⟨us, []⟩ = pure (ps.zip us)) : Df K mg x st ps :=
  ⟨f, _, PySem.W.mg_of X G a, fun_mk l c k, b⟩
theorem Df.ok {x : Str} {st : Stmt} {N ps : List Str} {k : Nat} {sp : Sp} (D : Df K mg x st ps) (S : FnScope N ps (defScope st)) (len : ∀ vs H Q E, sp vs H Q E → vs.length = ps.length)
    (hbody : ∀ (f : Addr) (cdv : Value) (A : Around) (outer : List Env) (s : Shared) (H : Hp) (vs : List V) (Q : VK) (E : XK), Room k (A.deeper (envOfC x (defScope st) s.heap.objs.size f cdv)) → sp vs H Q E →
      ∃ t, PSs (cxOf CX0 P w K mg base N x (defScope st) f cdv A outer s H E).nox (defBody st) t ∧ t { nx := fun _ H' => Q .non H', rt := Q } (start N vs) H) : Cl P w K mg base (k + 1) x ps sp := by
  obtain ⟨f, fd, h1, h2, h3⟩ := D.ex
  exact ⟨f, fd, h1, h2.kp, h3, h2.ok S len fun cdv A outer s H vs Q E hr h => hbody f cdv A outer s H vs Q E hr h⟩
theorem Cl.mono {x : Str} {ps : List Str} {j k : Nat} {sp : Sp} (C : Cl P w K mg base j x ps sp) (h : j ≤ k) : Cl P w K mg base k x ps sp := by
  obtain ⟨f, fd, h1, h2, h3, h4⟩ := C.ex
  exact ⟨f, fd, h1, h2, h3, h4.mono h⟩
end

section
variable {X : Cx} {x : Str} {p pos : Pos} {e a b : Expr} {es : List Expr} {t : TA} {ta tb : TE} {k : Nat} {ps : List Str} {sp : Sp}
theorem pe_cl (C : Cl X.prog X.w X.K X.mg X.base k x ps sp) (hr : Room k X.A) (ha : PA X (e :: es) t) (hg : Gl X x := by rfl) (hdb : (x == ("__debug__" : Str)) = false := by decide)
    (he : starEach (e :: es) X.env = (false, eval e X.env) :: starEach es X.env := by rfl) (hpl : (backTo pos (starEach es X.env)).any (·.1) = false := by rfl) :
    PE X (.Call (.Name x p) (e :: es) [] pos) (tCall sp [] E0 t) := by
  obtain ⟨f, fd, h1, h2, h3, h4⟩ := C.ex
  exact pe_call h4 hr hg h1 h2 (Binds.all h3) .nil pass0 ha hdb he hpl
theorem pe_cl0 (C : Cl X.prog X.w X.K X.mg X.base k x ps sp) (hr : Room k X.A) (hg : Gl X x := by rfl) (hdb : (x == ("__debug__" : Str)) = false := by decide) :
    PE X (.Call (.Name x p) [] [] pos) (tCall sp [] E0 tNil) := by
  obtain ⟨f, fd, h1, h2, h3, h4⟩ := C.ex
  exact pe_call0 h4 hr hg h1 h2 (Binds.all h3) .nil pass0 hdb
end


/-! ### keyword-only parameters -/
section
variable {P : Program} {w : World} {K : PySem.W.Frag} {mg : Str → Option Value} {base : Heap}
structure DfK (K : PySem.W.Frag) (mg : Str → Option Value) (x : Str) (st : Stmt) (kws : List (Str × V)) : Prop where
  ex : ∃ (f : Addr) (fd : FuncData), mg x = some (.ref f) ∧ FunD K x x (defArgs st) (defBody st) (defScope st) [] kws f fd
structure ClK (P : Program) (w : World) (K : PySem.W.Frag) (mg : Str → Option Value) (base : Heap) (k : Nat) (x : Str) (st : Stmt) (ps : List Str) (kws : List (Str × V)) (sp : Sp) : Prop where
  ex : ∃ (f : Addr) (fd : FuncData), mg x = some (.ref f) ∧ FunD K x x (defArgs st) (defBody st) (defScope st) [] kws f fd ∧ FnOk P w K mg base CX0 k f fd ps sp
theorem dfk_mk {h : Heap} {x : Str} {st : Stmt} {f D : Addr} {oc : Value} {od an : Option Addr} {osl : Array (Option Value)} {doc pm cdv ct : Value} {kws : List (Str × V)} (X : K.In h) (G : h.Ns mainGlobals mg)
    (a : PySem.W.nsIn K mainGlobals x = some (some (.ref f))) (l : K.lookup f = some ⟨oc, od, .func (PySem.W.fnOf x x (defArgs st) (defBody st) (defScope st) .none (.ref D) doc pm an cdv ct), osl⟩)
    (c : PySem.W.codeIn K cdv x = true) (k : PySem.W.keepIn K (.ref f) = true) (d : ∀ q ∈ kws, ∃ u, PySem.W.nsIn K D q.1 = some (some u) ∧ RelV q.2 u) : DfK K mg x st kws :=
  ⟨f, _, PySem.W.mg_of X G a, ⟨⟨oc, od, .none, .ref D, doc, pm, an, cdv, ct, osl, rfl, l, c, .inl ⟨rfl, rfl⟩, .inr ⟨D, rfl, d⟩⟩, k⟩⟩
theorem DfK.ok {x : Str} {st : Stmt} {N ps : List Str} {kws : List (Str × V)} {k : Nat} {sp : Sp} (D : DfK K mg x st kws) (S : FnScope N ps (defScope st)) (len : ∀ vs H Q E, sp vs H Q E → vs.length = ps.length)
    (hbody : ∀ (f : Addr) (cdv : Value) (A : Around) (outer : List Env) (s : Shared) (H : Hp) (vs : List V) (Q : VK) (E : XK), Room k (A.deeper (envOfC x (defScope st) s.heap.objs.size f cdv)) → sp vs H Q E →
      ∃ t, PSs (cxOf CX0 P w K mg base N x (defScope st) f cdv A outer s H E).nox (defBody st) t ∧ t { nx := fun _ H' => Q .non H', rt := Q } (start N vs) H) : ClK P w K mg base (k + 1) x st ps kws sp := by
  obtain ⟨f, fd, h1, h2⟩ := D.ex
  exact ⟨f, fd, h1, h2, h2.ok S len fun cdv A outer s H vs Q E hr h => by
    obtain ⟨t, a, b⟩ := hbody f cdv A outer s H vs Q E hr h
    exact ⟨t, a.nox, b⟩⟩
end
section
variable {X : Cx} {x : Str} {p pos : Pos} {e : Expr} {es : List Expr} {kw : List Keyword} {t tk : TA} {k : Nat} {ps : List Str} {sp : Sp} {st : Stmt} {kws : List (Str × V)}
theorem pe_clk0 (C : ClK X.prog X.w X.K X.mg X.base k x st ps kws sp) (hr : Room k X.A) (n : Nat) (hk : kws ≠ []) (hn : n + kws.length = ps.length)
    (h : ∀ (D : Addr) (doc pm : Value) (an : Option Addr) (cdv ct : Value) (us ks : List Value), us.length = n → ks.length = kws.length →
      KwChain D ((kws.map (·.1)).zip ks) (bindArgs (PySem.W.fnOf x x (defArgs st) (defBody st) (defScope st) .none (.ref D) doc pm an cdv ct) ⟨us, []⟩) (ps.zip (us ++ ks)))
    (ha : PA X (e :: es) t) (hg : Gl X x := by rfl) (hdb : (x == ("__debug__" : Str)) = false := by decide)
    (he : starEach (e :: es) X.env = (false, eval e X.env) :: starEach es X.env := by rfl) (hpl : (backTo pos (starEach es X.env)).any (·.1) = false := by rfl) :
    PE X (.Call (.Name x p) (e :: es) [] pos) (tCall sp (kws.map (·.2)) E0 t) := by
  obtain ⟨f, fd, h1, h2, h4⟩ := C.ex
  obtain ⟨ds, r, b⟩ := h2.binds0 n hk hn h
  exact pe_call h4 hr hg h1 h2.kp b r pass0 ha hdb he hpl
theorem pe_clk (C : ClK X.prog X.w X.K X.mg X.base k x st ps kws sp) (hr : Room k X.A) (n : Nat) (ks : List Str) (ms : List (Str × V)) (g : {α : Type} → List α → List α → List α → List α) (hk : kws ≠ []) (hms : ∀ q ∈ ms, q ∈ kws)
    (hrel : ∀ {vs mz zs : List V} {us mv ws : List Value}, Vals vs us → Vals mz mv → Vals zs ws → Vals (g vs mz zs) (g us mv ws))
    (h : ∀ (D : Addr) (doc pm : Value) (an : Option Addr) (cdv ct : Value) (us mv ws : List Value), us.length = n → mv.length = ms.length → ws.length = ks.length →
      KwChain D ((ms.map (·.1)).zip mv) (bindArgs (PySem.W.fnOf x x (defArgs st) (defBody st) (defScope st) .none (.ref D) doc pm an cdv ct) ⟨us, ks.zip ws⟩) (ps.zip (g us mv ws)))
    (ha : PA X (e :: es) t) (hkw : PK X kw tk) (hg : Gl X x := by rfl) (hall : (backToKw pos (keywordEach kw X.env)).all (·.1.isSome) = true := by rfl) (hks : (backToKw pos (keywordEach kw X.env)).filterMap (·.1) = ks := by rfl)
    (hdb : (x == ("__debug__" : Str)) = false := by decide) (he : starEach (e :: es) X.env = (false, eval e X.env) :: starEach es X.env := by rfl)
    (hpl : ((backTo pos (starEach (e :: es) X.env)).any (·.1) || (backToKw pos (keywordEach kw X.env)).any (·.1.isNone)) = false := by rfl) :
    PE X (.Call (.Name x p) (e :: es) kw pos) (tCallN n ks.length sp (fun vs zs => g vs (ms.map (·.2)) zs) E0 t tk) := by
  obtain ⟨f, fd, h1, h2, h4⟩ := C.ex
  obtain ⟨mv, b⟩ := h2.kbinds0 n ks ms g hk hms hrel h
  exact pe_callN h4 hr hg h1 h2.kp b pass0 ha hkw hall hks hdb he hpl
end

/-! ### operators by the kinds of the values -/
section
variable {X : Cx}
def rRepS : R2 := fun x y H Q => ∃ (z : Str) (n : Int), x = .str z ∧ y = .int n ∧ (n < 2 ^ 40 ∧ -(2 ^ 40) ≤ n ∧ z.length * n.toNat ≤ 100000) ∧ Q (.str (repS z n.toNat)) H
theorem op_repS : OpR X (binaryOp .Mult) rRepS := by
  intro pins s σ H x y v u Q I rx ry h
  obtain ⟨z, n, rfl, rfl, ⟨h1, h2, h3⟩, q⟩ := h
  obtain ⟨t, rfl⟩ := rx
  obtain ⟨t', rfl⟩ := ry
  have hs : sizeLine = 16777216 := sizeLine_eq
  have hz : Builtin.Str.tooLong (z.length * n.toNat) = false := by
    unfold Builtin.Str.tooLong
    exact decide_eq_false (by omega)
  refine PySem.P.mul_str ?_ (fun h4 h5 => ?_) (fun _ _ => hz) ?_
  · rw [decide_eq_false (by omega), decide_eq_false (by omega)]; rfl
  · intro h6
    have h7 : 0 < n := by omega
    have h8 : ((z.length : Int)) * n ≤ 100000 := by
      have : ((z.length * n.toNat : Nat) : Int) ≤ 100000 := by omega
      rw [Int.natCast_mul, Int.toNat_of_nonneg (by omega)] at this
      exact this
    have h9 : ((2 ^ 63 - 1 : Int) / n + 1) ≤ (z.length : Int) := by omega
    have ha : ((2 ^ 63 - 1 : Int) / n + 1) * n ≤ (z.length : Int) * n := Int.mul_le_mul_of_nonneg_right h9 (by omega)
    have hb : (2 ^ 63 - 1 : Int) < ((2 ^ 63 - 1 : Int) / n + 1) * n := Int.lt_ediv_add_one_mul_self _ h7
    omega
  · by_cases h4 : n < 1
    · rw [if_pos h4]
      refine ⟨by decide, .str Str.empty, H, I.tok _, ⟨_, rfl⟩, ?_⟩
      have e : n.toNat = 0 := by omega
      rw [e, repS_zero] at q
      exact q
    · rw [if_neg h4]
      by_cases h5 : (n == 1 || z.length == 0) = true
      · rw [if_pos h5]
        refine ⟨.str z, H, I, ⟨_, rfl⟩, ?_⟩
        have e : repS z n.toNat = z := by
          rw [Bool.or_eq_true] at h5
          rcases h5 with h5 | h5
          · have e : n.toNat = 1 := by
              have := beq_iff_eq.mp h5
              omega
            rw [e, repS_one]
          · exact repS_nil _ _ (beq_iff_eq.mp h5)
        rw [e] at q
        exact q
      · rw [if_neg h5, repS_fold]
        refine ⟨by rw [repS_length]; omega, .str _, H, I.tok _, ⟨_, rfl⟩, q⟩
end
def rAdd (K : PySem.W.Frag) : R2 := fun x y H Q => rI0 (fun i j => .int (i + j)) x y H Q ∨ (∃ i j, x = .str i ∧ y = .str j ∧ i.length + j.length ≤ sizeLine ∧ Q (.str (i ++ j)) H) ∨ rCat x y H Q ∨ rCatA K x y H Q
def rMul (K : PySem.W.Frag) : R2 := fun x y H Q => rI CMul (fun i j => .int (i * j)) x y H Q ∨ rI CMulX (fun i j => .int (i * j)) x y H Q ∨ rRepS x y H Q ∨ rRep x y H Q
def rSub : R2 := rI0 fun i j => .int (i - j)
def rMod : R2 := rI (fun _ j => 0 < j) fun i j => .int (i % j)
def rDiv : R2 := rI CDivW fun i j => .int (i / j)
def rPow : R2 := rI CPow fun i j => .int (i ^ j.toNat)
def rEqX (K : PySem.W.Frag) : R2 := fun x y H Q => rEq x y H Q ∨ rEqD K x y H Q
def rNeX (K : PySem.W.Frag) : R2 := fun x y H Q => rNe x y H Q ∨ rNeD K x y H Q
def rLt : R2 := rI0 fun i j => .bl (decide (i < j))
def rLe : R2 := rI0 fun i j => .bl (decide (i ≤ j))
def rGt : R2 := rI0 fun i j => .bl (decide (j < i))
def rGe : R2 := rI0 fun i j => .bl (decide (j ≤ i))
def rIsN : R2 := fun x y H Q => y = .non ∧ Q (.bl (decide (x = .non))) H
def rNotN : R2 := fun x y H Q => y = .non ∧ Q (.bl (!decide (x = .non))) H
section
variable {X : Cx}
theorem opAdd : OpR X (binaryOp .Add) (rAdd X.K) := op_add.or (op_add_str.or (op_cat.or op_catA))
theorem opMul : OpR X (binaryOp .Mult) (rMul X.K) := op_mul.or (op_mulX.or (op_repS.or op_rep))
theorem opSub : OpR X (binaryOp .Sub) rSub := op_sub
theorem opMod : OpR X (binaryOp .Mod) rMod := op_mod
theorem opDiv : OpR X (binaryOp .FloorDiv) rDiv := op_fdivW
theorem opPow : OpR X (binaryOp .Pow) rPow := op_pow
theorem opEq (hu : X.A.units + 64 < cLine) : OpR X (compareOp .Eq) (rEqX X.K) := op_eq.or (op_eqD hu)
theorem opNe (hu : X.A.units + 64 < cLine) : OpR X (compareOp .NotEq) (rNeX X.K) := op_ne.or (op_neD hu)
theorem opLt : OpR X (compareOp .Lt) rLt := op_lt
theorem opLe : OpR X (compareOp .LtE) rLe := op_le
theorem opGt : OpR X (compareOp .Gt) rGt := op_gt
theorem opGe : OpR X (compareOp .GtE) rGe := op_ge
theorem opIsN : OpR X (compareOp .Is) rIsN := op_isN
theorem opNotN : OpR X (compareOp .IsNot) rNotN := op_notN
def rInt : List V → Hp → VK → Prop := fun xs H Q => (∃ i, xs = [.int i] ∧ Q (.int i) H) ∨ ∃ k, xs = [.bl k] ∧ Q (.int (if k then 1 else 0)) H
def rAbs : List V → Hp → VK → Prop := fun xs H Q => ∃ i, xs = [.int i] ∧ Q (.int (if i < 0 then -i else i)) H
def rMax2 : List V → Hp → VK → Prop := fun xs H Q => ∃ i j, xs = [.int i, .int j] ∧ Q (.int (if j > i then j else i)) H
def rMin2 : List V → Hp → VK → Prop := fun xs H Q => ∃ i j, xs = [.int i, .int j] ∧ Q (.int (if j < i then j else i)) H
def rLen (K : PySem.W.Frag) : List V → Hp → VK → Prop := fun xs H Q => ∃ x n, xs = [x] ∧ LenV K x H n ∧ Q (.int n) H
def rListOf (K : PySem.W.Frag) : List V → Hp → VK → Prop := fun xs H Q => ∃ p ys, xs = [.ref p] ∧ (SqL K H p ys ∨ SqT K H p ys) ∧ ∀ l, H l = none → Q (.ref l) (upd H l (.lst ys))
def rStr : List V → Hp → VK → Prop := fun xs H Q => ∃ i, xs = [.int i] ∧ i.natAbs.log2 < 1920 ∧ Q (.str (toString i)) H
theorem callStr : CallR X (.type "str") rStr := call_str_int
theorem callInt : CallR X (.type "int") rInt := call_int1
theorem callAbs : CallR X (.builtin "abs") rAbs := call_abs
theorem callMax2 (hc : X.calm = true) : CallR X (.builtin "max") rMax2 := call_max2 hc
theorem callMin2 (hc : X.calm = true) : CallR X (.builtin "min") rMin2 := call_min2 hc
theorem callLen : CallR X (.builtin "len") (rLen X.K) := call_len
theorem callListOf : CallR X (.type "list") (rListOf X.K) := call_list_of
def rSlX (K : PySem.W.Frag) : V → Option Int → Option Int → Hp → VK → Prop := fun x lo hi H Q => rSlL K x lo hi H Q ∨ rSlS x lo hi H Q ∨ rSlA K x lo hi H Q
theorem slAny : SlR X (rSlX X.K) := sl_list.or (sl_str.or sl_tupA)
theorem hu64 {A : Around} {k : Nat} (hr : Room k A) : A.units + 64 < cLine := by
  have := hr.un
  omega
end

/-- the built-in names are not the module's own -/
structure Bl (mg : Str → Option Value) : Prop where
  abs : mg "abs" = none
  all : mg "all" = none
  any : mg "any" = none
  bool : mg "bool" = none
  dict : mg "dict" = none
  divmod : mg "divmod" = none
  enumerate : mg "enumerate" = none
  int : mg "int" = none
  isinstance : mg "isinstance" = none
  len : mg "len" = none
  list : mg "list" = none
  max : mg "max" = none
  min : mg "min" = none
  range : mg "range" = none
  repr : mg "repr" = none
  reversed : mg "reversed" = none
  sorted : mg "sorted" = none
  str : mg "str" = none
  sum : mg "sum" = none
  tuple : mg "tuple" = none
  zip : mg "zip" = none
  ValueError' : mg "ValueError" = none

/-! ### heaps -/
/-- what stood stands, but for what is in bs -/
def Imm (o : HO) : Prop := (∃ xs, o = .tup xs) ∨ (∃ a, o = .own a) ∨ ∃ C dx t, o = .ins C dx [("_budgets", .ref t)]
theorem Imm.lst {xs : List V} (h : Imm (.lst xs)) : False := by
  rcases h with ⟨_, h⟩ | ⟨_, h⟩ | ⟨_, _, _, h⟩ <;> cases h
class Chg (bs : outParam (List Addr)) (H : outParam Hp) (H' : Hp) : Prop where
  keep : ∀ a o, a ∉ bs → H a = some o → H' a = some o
  live : ∀ a, H' a = none → H a = none
  imm : ∀ a o, Imm o → H a = some o → H' a = some o
abbrev Ex (H : Hp) (H' : Hp) : Prop := Chg [] H H'
abbrev ExB (b : Addr) (H : Hp) (H' : Hp) : Prop := Chg [b] H H'
class Nw (H : outParam Hp) (p : Addr) : Prop where
  eq : H p = none
class At (H : Hp) (p : Addr) (o : outParam HO) : Prop where
  eq : H p = some o
class Live (H : Hp) (p : Addr) : Prop where
  ex : ∃ o, H p = some o
class NeC (p q : Addr) : Prop where
  ne : p ≠ q
class NotIn (p : Addr) (bs : List Addr) : Prop where
  out : p ∉ bs
class Anc (H H' : Hp) : Prop where
  none : ∀ a, H' a = none → H a = none
class Nu (H : Hp) (p : Addr) : Prop where
  eq : H p = none
class InNew (c : Addr) (bs : List Addr) (H : Hp) : Prop where
  or : c ∈ bs ∨ H c = none
class SubC (cs bs : List Addr) (H : Hp) : Prop where
  sub : ∀ c ∈ cs, c ∈ bs ∨ H c = none
class RelC (bs : List Addr) (H H' : Hp) : Prop where
  keep : ∀ a o, a ∉ bs → H a = some o → H' a = some o
  imm : ∀ a o, Imm o → H a = some o → H' a = some o
class SqC (K : PySem.W.Frag) (H : Hp) (p : Addr) (xs : outParam (List V)) : Prop where
  sq : SqL K H p xs
class StC (K : PySem.W.Frag) (H : Hp) (p : Addr) (xs : outParam (List V)) : Prop where
  st : SqT K H p xs
section
variable {H H' H1 H0 : Hp} {p q b c : Addr} {o : HO} {bs cs : List Addr} {K : PySem.W.Frag} {xs : List V}
instance : NotIn p [] := ⟨by simp⟩
instance [h : NeC p b] [k : NotIn p bs] : NotIn p (b :: bs) := ⟨by
  intro e
  rcases List.mem_cons.mp e with e | e
  · exact h.ne e
  · exact k.out e⟩
instance (priority := low) atStep [r : Chg cs H1 H] [n : NotIn p cs] [h : At H1 p o] : At H p o := ⟨r.keep p o n.out h.eq⟩
instance ancRefl : Anc H H := ⟨fun _ h => h⟩
instance (priority := low) ancStep [r : Chg cs H1 H'] [k : Anc H H1] : Anc H H' := ⟨fun a h => k.none a (r.live a h)⟩
instance nuOf [n : Nw H1 p] [k : Anc H H1] : Nu H p := ⟨k.none p n.eq⟩
instance liveAt [h : At H p o] : Live H p := ⟨⟨o, h.eq⟩⟩
instance (priority := low) liveStep [r : Chg cs H1 H] [h : Live H1 p] : Live H p := ⟨by
  cases e : H p with
  | none => obtain ⟨o, h⟩ := h.ex; rw [r.live p e] at h; cases h
  | some o => exact ⟨o, rfl⟩⟩
instance neNew [n : Nw H q] [h : Live H p] : NeC p q := ⟨by
  obtain ⟨o, h⟩ := h.ex
  intro e
  rw [e, n.eq] at h
  cases h⟩
instance neNew' [n : Nw H q] [h : Live H p] : NeC q p := ⟨(neNew (H := H)).ne.symm⟩
instance inHere : InNew c (c :: bs) H := ⟨.inl (List.mem_cons_self ..)⟩
instance (priority := low) inThere [h : InNew c bs H] : InNew c (b :: bs) H := ⟨h.or.imp (List.mem_cons_of_mem _) _root_.id⟩
instance inNew [h : Nu H c] : InNew c bs H := ⟨.inr h.eq⟩
instance : SubC [] bs H := ⟨by simp⟩
instance [h : InNew c bs H] [k : SubC cs bs H] : SubC (c :: cs) bs H := ⟨by
  intro d hd
  rcases List.mem_cons.mp hd with e | e
  · rw [e]; exact h.or
  · exact k.sub d e⟩
instance relRefl : RelC bs H H := ⟨fun _ _ _ h => h, fun _ _ _ h => h⟩
instance (priority := low) relStep [r : Chg cs H1 H'] [s : SubC cs bs H] [k : RelC bs H H1] : RelC bs H H' := ⟨fun a o n h => r.keep a o (fun hc => by
  rcases s.sub a hc with e | e
  · exact n e
  · rw [e] at h; cases h) (k.keep a o n h), fun a o i h => r.imm a o i (k.imm a o i h)⟩
theorem rel [r : RelC bs H H'] [k : Anc H H'] : Chg bs H H' := ⟨r.keep, k.none, r.imm⟩
theorem new [h : Nu H p] : Nw H p := ⟨h.eq⟩
theorem at_ [h : At H p o] : At H p o := h
theorem ne_ [h : NeC p q] : p ≠ q := h.ne
instance sqAt [h : At H p (.lst xs)] : SqC K H p xs := ⟨.inl (.inl h.eq)⟩
instance stAt [h : At H p (.tup xs)] : StC K H p xs := ⟨.inl (.inl h.eq)⟩
theorem Chg.rd {a : Addr} {u : HO} (e : Chg bs H H') (n : a ∉ bs) (h : Rd H a u) : Rd H' a u := by
  rcases h with h | ⟨o, h⟩
  · exact .inl (e.keep a _ n h)
  · exact .inr ⟨o, e.keep a _ n h⟩
theorem Chg.l {a : Addr} (e : Chg bs H H') (n : a ∉ bs) (h : SqL K H a xs) : SqL K H' a xs := by
  rcases h with h | h
  · exact .inl (e.rd n h)
  · exact .inr h
theorem Chg.t {a : Addr} (e : Chg bs H H') (n : a ∉ bs) (h : SqT K H a xs) : SqT K H' a xs := by
  rcases h with h | h
  · exact .inl (e.rd n h)
  · exact .inr h
instance (priority := low) sqStep [r : Chg cs H1 H] [n : NotIn p cs] [h : SqC K H1 p xs] : SqC K H p xs := ⟨r.l n.out h.sq⟩
instance (priority := low) stStep [r : Chg cs H1 H] [n : NotIn p cs] [h : StC K H1 p xs] : StC K H p xs := ⟨r.t n.out h.st⟩
theorem Chg.refl (bs : List Addr) (H : Hp) : Chg bs H H := ⟨fun _ _ _ h => h, fun _ h => h, fun _ _ _ h => h⟩
theorem Ex.refl (H : Hp) : Ex H H := Chg.refl _ H
theorem ExB.refl (b : Addr) (H : Hp) : ExB b H H := Chg.refl _ H
theorem Chg.trans {H1 H2 : Hp} (a : Chg bs H H1) (c : Chg bs H1 H2) : Chg bs H H2 := ⟨fun x o n h => c.keep x o n (a.keep x o n h), fun x h => a.live x (c.live x h), fun x o i h => c.imm x o i (a.imm x o i h)⟩
theorem Ex.l {a : Addr} (e : Ex H H') (h : SqL K H a xs) : SqL K H' a xs := Chg.l e (by simp) h
theorem Ex.t {a : Addr} (e : Ex H H') (h : SqT K H a xs) : SqT K H' a xs := Chg.t e (by simp) h
theorem ExB.l {a b : Addr} (e : ExB b H H') (n : a ≠ b) (h : SqL K H a xs) : SqL K H' a xs := Chg.l e (by simpa using n) h
theorem Ex.mk (h : H p = none) : Ex H (upd H p o) := ⟨fun a u _ e => by
  rw [upd_ne (ne_of_none e h)]
  exact e, fun a e => by
  by_cases z : a = p
  · rw [z]; exact h
  · rw [upd_ne z] at e; exact e, fun a u _ e => by
  rw [upd_ne (ne_of_none e h)]
  exact e⟩
theorem ExB.upd (h : H b = some (.lst xs)) : ExB b H (upd H b o) := ⟨fun a u n e => by
  rw [upd_ne (by simpa using n)]
  exact e, fun a e => by
  by_cases z : a = b
  · rw [z, upd_same] at e; cases e
  · rw [upd_ne z] at e; exact e, fun a u i e => by
  by_cases z : a = b
  · rw [z, h] at e
    cases e
    exact i.lst.elim
  · rw [upd_ne z]; exact e⟩
instance (priority := low) atTup [r : Chg cs H1 H] [h : At H1 p (.tup xs)] : At H p (.tup xs) := ⟨r.imm p _ (.inl ⟨xs, rfl⟩) h.eq⟩
/-- a Round of these budgets at a -/
class RdC (C : outParam Addr) (H : Hp) (a : Addr) (bs : outParam (List Int)) : Prop where
  ex : ∃ dx t, H a = some (.ins C dx [("_budgets", .ref t)]) ∧ H t = some (.tup (bs.map V.int))
instance (priority := low) rdStep {C a : Addr} {bs : List Int} [r : Chg cs H1 H] [h : RdC C H1 a bs] : RdC C H a bs := ⟨by
  obtain ⟨dx, t, h1, h2⟩ := h.ex
  exact ⟨dx, t, r.imm _ _ (.inr (.inr ⟨_, _, _, rfl⟩)) h1, r.imm _ _ (.inl ⟨_, rfl⟩) h2⟩⟩
theorem rd_live {C a : Addr} {bs : List Int} (h : RdC C H a bs) : Live H a := ⟨by
  obtain ⟨dx, t, h1, h2⟩ := h.ex
  exact ⟨_, h1⟩⟩
end

/-! ### steps of a reading -/
section
variable {K : PySem.W.Frag} {σ : L2.St} {H H1 H2 : Hp} {Q : VK} {QB : Bool → Hp → Prop} {QL : List V → Hp → Prop} {v x y : V} {i j : Nat} {te ta tb : TE} {tt tu : TT} {tl tr : TA} {r : R2} {D : Ends} {t u : TS} {b c : Bool} {sp : Sp} {dvs : List V} {E : XK}
theorem g_var (h : σ[i]? = some (some v)) (q : Q v H) : tVar i σ H Q := ⟨v, h, q⟩
theorem g_c (q : Q v H) : tC v σ H Q := q
theorem g_op (q : ta σ H fun x H1 => tb σ H1 fun y H2 => r x y H2 Q) : tOp r ta tb σ H Q := q
theorem g_un {r : V → Hp → VK → Prop} (q : ta σ H fun x H1 => r x H1 Q) : tUn r ta σ H Q := q
theorem g_test (q : te σ H fun x H' => ∃ k, x = .bl k ∧ QB k H') : tTest te σ H QB := q
theorem g_tB (q : te σ H fun x H' => ∃ k, x = .bl k ∧ QB k H') : tB te σ H QB := q
theorem g_not (q : tt σ H fun c H1 => QB (!c) H1) : tNot tt σ H QB := q
theorem g_and (q : tt σ H fun c H1 => if c = true then tu σ H1 QB else QB false H1) : tAnd tt tu σ H QB := q
theorem g_or (q : tt σ H fun c H1 => if c = true then QB true H1 else tu σ H1 QB) : tOr tt tu σ H QB := q
theorem g_notV (q : te σ H fun x H1 => ∃ c, x = .bl c ∧ Q (.bl (!c)) H1) : tNotV te σ H Q := q
theorem g_andV (q : ta σ H fun x H1 => ∃ c, x = .bl c ∧ if c = true then tb σ H1 Q else Q (.bl false) H1) : tAndV ta tb σ H Q := q
theorem g_orV (q : ta σ H fun x H1 => ∃ c, x = .bl c ∧ if c = true then Q (.bl true) H1 else tb σ H1 Q) : tOrV ta tb σ H Q := q
theorem g_if (q : tt σ H fun c H1 => if c = true then ta σ H1 Q else tb σ H1 Q) : tIf tt ta tb σ H Q := q
theorem g_ifs (q : tt σ H fun c H1 => if c = true then t D σ H1 else u D σ H1) : tIfS tt t u D σ H := q
theorem g_ex {R : Bool → Prop} (q : R b) : ∃ k, V.bl b = .bl k ∧ R k := ⟨b, rfl, q⟩
theorem g_seq (q : t { D with nx := u D } σ H) : tSeq t u D σ H := q
theorem g_seqM {a : L2.St → Hp → Prop} {rt : VK} {bk ct : L2.St → Hp → Prop} (q : t (Ends.mk (u (Ends.mk a rt bk ct)) rt bk ct) σ H) : tSeq t u (Ends.mk a rt bk ct) σ H := q
theorem g_asg (q : te σ H fun x H1 => D.nx (σ.set i (some x)) H1) : tAsg te (gName i) D σ H := q
theorem g_asgG {g : TG} (q : te σ H fun x H1 => g x σ H1 D.nx) : tAsg te g D σ H := q
theorem g_ret (q : te σ H D.rt) : tRet te D σ H := q
theorem g_drop (q : te σ H fun _ H1 => D.nx σ H1) : tDrop te D σ H := q
theorem g_next (q : D.nx σ H) : tNext D σ H := q
theorem g_nx {a : L2.St → Hp → Prop} {rt : VK} {bk ct : L2.St → Hp → Prop} (q : a σ H) : (Ends.mk a rt bk ct).nx σ H := q
theorem g_rt {a : L2.St → Hp → Prop} {rt : VK} {bk ct : L2.St → Hp → Prop} (q : rt v H) : (Ends.mk a rt bk ct).rt v H := q
theorem g_call (q : tl σ H fun vs H1 => sp (vs ++ dvs) H1 Q E) : tCall sp dvs E tl σ H Q := q
theorem g_cons (q : te σ H fun x H1 => tl σ H1 fun xs H2 => QL (x :: xs) H2) : tCons te tl σ H QL := q
theorem g_nil (q : QL [] H) : tNil σ H QL := q
theorem g_cb {r : List V → Hp → VK → Prop} (q : tl σ H fun vs H1 => r vs H1 Q) : tCB r tl σ H Q := q
theorem g_lst (q : tl σ H fun xs H1 => xs.length ≤ sizeLine ∧ ∀ p, H1 p = none → Q (.ref p) (upd H1 p (.lst xs))) : tLst tl σ H Q := q
theorem g_tup (q : tl σ H fun xs H1 => xs.length ≤ sizeLine ∧ ∀ p, H1 p = none → Q (.ref p) (upd H1 p (.tup xs))) : tTup tl σ H Q := q
theorem g_sz {n : Nat} {R : Prop} (h : n ≤ 100000) (q : R) : n ≤ sizeLine ∧ R := ⟨Nat.le_trans h (by decide), q⟩
theorem g_len {y : V} {n : Nat} (h : LenV K y H n) (q : Q (.int n) H) : rLen K [y] H Q := ⟨y, n, rfl, h, q⟩
theorem len_l {p : Addr} {xs : List V} [h : SqC K H p xs] : LenV K (.ref p) H xs.length := .inl ⟨xs, h.sq, rfl⟩
theorem len_t {p : Addr} {xs : List V} [h : StC K H p xs] : LenV K (.ref p) H xs.length := .inr ⟨xs, h.st, rfl⟩
theorem len_s {z : Str} (h : z.length ≤ 100000) : LenV K (.str z) H z.length := ⟨Nat.le_trans h (by decide), rfl⟩
theorem g_int {i : Int} (q : Q (.int i) H) : rInt [V.int i] H Q := .inl ⟨i, rfl, q⟩
theorem g_intB {k : Bool} (q : Q (.int (if k then 1 else 0)) H) : rInt [V.bl k] H Q := .inr ⟨k, rfl, q⟩
theorem g_abs {i : Int} (q : Q (.int (if i < 0 then -i else i)) H) : rAbs [V.int i] H Q := ⟨i, rfl, q⟩
theorem g_max2 {i j : Int} (q : Q (.int (if j > i then j else i)) H) : rMax2 [V.int i, .int j] H Q := ⟨i, j, rfl, q⟩
theorem g_min2 {i j : Int} (q : Q (.int (if j < i then j else i)) H) : rMin2 [V.int i, .int j] H Q := ⟨i, j, rfl, q⟩
theorem g_ixL {p : Addr} {xs : List V} {i : Int} [h : SqC K H p xs] (a : atI xs i = some v) (q : Q v H) : rIx K (.ref p) (.int i) H Q := .inl ⟨p, xs, i, v, rfl, rfl, h.sq, a, q⟩
theorem g_ixT {p : Addr} {xs : List V} {i : Int} [h : StC K H p xs] (a : atI xs i = some v) (q : Q v H) : rIx K (.ref p) (.int i) H Q := .inr (.inl ⟨p, xs, i, v, rfl, rfl, h.st, a, q⟩)
theorem g_ixI {p : Addr} {ns : List Int} {i : Int} [h : SqC K H p (ns.map V.int)] (h0 : 0 ≤ i) (h1 : i < (ns.length : Int)) (q : Q (.int (ns.getD i.toNat 0)) H) : rIx K (.ref p) (.int i) H Q := by
  refine g_ixL ?_ q
  obtain ⟨j, rfl⟩ : ∃ j : Nat, i = (j : Int) := ⟨i.toNat, by omega⟩
  refine atI_nat ?_
  have h2 : j < ns.length := by omega
  rw [List.getElem?_map, List.getElem?_eq_getElem h2, Option.map_some, Int.toNat_natCast, List.getD_eq_getElem?_getD, List.getElem?_eq_getElem h2, Option.getD_some]
theorem g_ixS {z : Str} {i : Int} {c : Nat} (h : z.length ≤ 100000) (a : atI z.cps.toList i = some c) (q : Q (.str ⟨#[c]⟩) H) : rIx K (.str z) (.int i) H Q := .inr (.inr ⟨z, i, c, rfl, rfl, Nat.le_trans h (by decide), a, q⟩)
theorem g_gsub {to ti : TE} {ts : TSet} {R : L2.St → Hp → Prop} (q : to σ H fun o H1 => ti σ H1 fun i H2 => ts o i v H2 fun H3 => R σ H3) : gSub to ti ts v σ H R := q
theorem g_set {p : Addr} {xs : List V} {k : Int} {j : Nat} {R : Hp → Prop} [h : At H p (.lst xs)] (hj : ixN xs.length k = some j) (q : ∀ H2, ExB p H H2 → At H2 p (.lst (xs.set j v)) → R H2) : rSetL (.ref p) (.int k) v H R :=
  ⟨p, xs, k, j, rfl, rfl, h.eq, hj, q _ (ExB.upd h.eq) ⟨upd_same⟩⟩
theorem g_sl {r : V → Option Int → Option Int → Hp → VK → Prop} {t1 t2 : TO} (q : te σ H fun x H1 => t1 σ H1 fun l H2 => t2 σ H2 fun u H3 => r x l u H3 Q) : tSl r te t1 t2 σ H Q := q
theorem g_noPart {R : Option Int → Hp → Prop} (q : R none H) : tNoPart σ H R := q
theorem g_part {R : Option Int → Hp → Prop} (q : te σ H fun x H1 => ∃ i, x = .int i ∧ R (some i) H1) : tPart te σ H R := q
theorem g_exI {i : Int} {R : Int → Prop} (q : R i) : ∃ k, V.int i = .int k ∧ R k := ⟨i, rfl, q⟩
theorem g_bm {T : String} {r : V → List V → Hp → VK → Prop} (q : te σ H fun x H1 => tyV K T x H1 ∧ tl σ H1 fun xs H2 => r x xs H2 Q) : tBM K T r te tl σ H Q := q
theorem g_bm0 {T : String} {r : V → List V → Hp → VK → Prop} (q : te σ H fun x H1 => tyV K T x H1 ∧ r x [] H1 Q) : tBM0 K T r te σ H Q := q
theorem g_tyL {p : Addr} {xs : List V} {R : Prop} [h : SqC K H p xs] (q : R) : tyV K "list" (.ref p) H ∧ R := ⟨.inl ⟨rfl, xs, h.sq⟩, q⟩
theorem g_tyS {z : Str} {R : Prop} (q : R) : tyV K "str" (.str z) H ∧ R := ⟨rfl, q⟩
theorem g_app {p : Addr} {xs : List V} [h : At H p (.lst xs)] (hz : xs.length < 100000) (q : ∀ H2, ExB p H H2 → At H2 p (.lst (xs ++ [v])) → Q .non H2) : rAppend (.ref p) [v] H Q :=
  ⟨p, xs, v, rfl, rfl, h.eq, Nat.lt_of_lt_of_le hz (by decide), q _ (ExB.upd h.eq) ⟨upd_same⟩⟩
theorem g_new {o : HO} {R : Addr → Hp → Prop} (q : ∀ p H2, Nw H p → Ex H H2 → At H2 p o → R p H2) : ∀ p, H p = none → R p (upd H p o) := fun p hp => q p _ ⟨hp⟩ (Ex.mk hp) ⟨upd_same⟩

theorem g_I0 {g : Int → Int → V} {i j : Int} (q : Q (g i j) H) : rI0 g (.int i) (.int j) H Q := ⟨i, j, rfl, rfl, q⟩
theorem g_add {i j : Int} (q : Q (.int (i + j)) H) : rAdd K (.int i) (.int j) H Q := .inl ⟨i, j, rfl, rfl, q⟩
theorem g_addS {a b : Str} (h : a.length + b.length ≤ 100000) (q : Q (.str (a ++ b)) H) : rAdd K (.str a) (.str b) H Q := .inr (.inl ⟨a, b, rfl, rfl, Nat.le_trans h (by decide), q⟩)
theorem g_mulL {i j : Int} (h : -(2 ^ 64) < i ∧ i < 2 ^ 64) (q : Q (.int (i * j)) H) : rMul K (.int i) (.int j) H Q := .inl ⟨i, j, rfl, rfl, .inl h, q⟩
theorem g_mulR {i j : Int} (h : -(2 ^ 64) < j ∧ j < 2 ^ 64) (q : Q (.int (i * j)) H) : rMul K (.int i) (.int j) H Q := .inl ⟨i, j, rfl, rfl, .inr h, q⟩
theorem g_mulX {i j : Int} (h : CMulX i j) (q : Q (.int (i * j)) H) : rMul K (.int i) (.int j) H Q := .inr (.inl ⟨i, j, rfl, rfl, h, q⟩)
theorem g_mulS {z : Str} {n : Int} (h : n < 2 ^ 40 ∧ -(2 ^ 40) ≤ n ∧ z.length * n.toNat ≤ 100000) (q : Q (.str (repS z n.toNat)) H) : rMul K (.str z) (.int n) H Q := .inr (.inr (.inl ⟨z, n, rfl, rfl, h, q⟩))
theorem g_sub {i j : Int} (q : Q (.int (i - j)) H) : rSub (.int i) (.int j) H Q := ⟨i, j, rfl, rfl, q⟩
theorem g_mod {i j : Int} (h : 0 < j) (q : Q (.int (i % j)) H) : rMod (.int i) (.int j) H Q := ⟨i, j, rfl, rfl, h, q⟩
theorem g_div {i j : Int} (h : CDivW i j) (q : Q (.int (i / j)) H) : rDiv (.int i) (.int j) H Q := ⟨i, j, rfl, rfl, h, q⟩
theorem cpow_ok {i j : Int} (h1 : 0 ≤ j) (h2 : j ≤ 1000000) (h3 : i.natAbs < 2 ^ 64) : CPow i j := ⟨h1, h2, h3⟩
theorem g_pow {i j k : Int} (h : CPow i j) (e : i ^ j.toNat = k) (q : Q (.int k) H) : rPow (.int i) (.int j) H Q := ⟨i, j, rfl, rfl, h, by show Q (.int (i ^ j.toNat)) H; rw [e]; exact q⟩
theorem g_lt {i j : Int} (q : Q (.bl (decide (i < j))) H) : rLt (.int i) (.int j) H Q := ⟨i, j, rfl, rfl, q⟩
theorem g_le {i j : Int} (q : Q (.bl (decide (i ≤ j))) H) : rLe (.int i) (.int j) H Q := ⟨i, j, rfl, rfl, q⟩
theorem g_gt {i j : Int} (q : Q (.bl (decide (j < i))) H) : rGt (.int i) (.int j) H Q := ⟨i, j, rfl, rfl, q⟩
theorem g_ge {i j : Int} (q : Q (.bl (decide (j ≤ i))) H) : rGe (.int i) (.int j) H Q := ⟨i, j, rfl, rfl, q⟩
theorem dI {i j : Int} : decide (V.int i = V.int j) = decide (i = j) := by
  by_cases h : i = j <;> simp [h]
theorem dB {i j : Bool} : decide (V.bl i = V.bl j) = (i == j) := dec_bl
theorem dS {i j : Str} : decide (V.str i = V.str j) = decide (i = j) := by
  by_cases h : i = j <;> simp [h]
theorem g_eq {i j : Int} (q : Q (.bl (decide (i = j))) H) : rEqX K (.int i) (.int j) H Q := .inl ⟨rfl, by rw [dI]; exact q⟩
theorem g_ne {i j : Int} (q : Q (.bl (!decide (i = j))) H) : rNeX K (.int i) (.int j) H Q := .inl ⟨rfl, by rw [dI]; exact q⟩
theorem g_eqB {i j : Bool} (q : Q (.bl (i == j)) H) : rEqX K (.bl i) (.bl j) H Q := .inl ⟨rfl, by rw [dB]; exact q⟩
theorem g_neB {i j : Bool} (q : Q (.bl (!(i == j))) H) : rNeX K (.bl i) (.bl j) H Q := .inl ⟨rfl, by rw [dB]; exact q⟩
theorem g_eqS {i j : Str} (q : Q (.bl (decide (i = j))) H) : rEqX K (.str i) (.str j) H Q := .inl ⟨rfl, by rw [dS]; exact q⟩
theorem g_neS {i j : Str} (q : Q (.bl (!decide (i = j))) H) : rNeX K (.str i) (.str j) H Q := .inl ⟨rfl, by rw [dS]; exact q⟩
theorem g_isN (q : Q (.bl (decide (x = .non))) H) : rIsN x .non H Q := ⟨rfl, q⟩
theorem g_notN (q : Q (.bl (!decide (x = .non))) H) : rNotN x .non H Q := ⟨rfl, q⟩

theorem g_ite {p : Prop} {_ : Decidable p} {A B : Prop} (h1 : p → A) (h2 : ¬ p → B) : if decide p = true then A else B := by
  by_cases h : p
  · rw [if_pos (decide_eq_true h)]; exact h1 h
  · rw [if_neg (by rw [decide_eq_false h]; exact Bool.false_ne_true)]; exact h2 h
theorem g_iteN {p : Prop} {_ : Decidable p} {A B : Prop} (h1 : ¬ p → A) (h2 : p → B) : if (!decide p) = true then A else B := by
  by_cases h : p
  · rw [if_neg (by rw [decide_eq_true h]; exact Bool.false_ne_true)]; exact h2 h
  · rw [if_pos (by rw [decide_eq_false h]; rfl)]; exact h1 h
theorem iteNT {A B : Prop} (h : A) : if (!false) = true then A else B := iteT h
theorem iteNF {A B : Prop} (h : B) : if (!true) = true then A else B := iteF h
theorem g_itB {A B : Prop} (h1 : b = true → A) (h2 : b = false → B) : if b = true then A else B := by
  cases b
  · rw [if_neg Bool.false_ne_true]; exact h2 rfl
  · rw [if_pos rfl]; exact h1 rfl
theorem g_itNB {A B : Prop} (h1 : b = false → A) (h2 : b = true → B) : if (!b) = true then A else B := by
  cases b
  · exact iteT (h1 rfl)
  · exact iteF (h2 rfl)
end


/-! ### steps found by their head -/
/-- G follows from G' -/
class Step (G : Prop) (G' : outParam Prop) : Prop where
  run : G' → G
class Look (σ : L2.St) (i : Nat) (v : outParam V) : Prop where
  at_ : σ[i]? = some (some v)
instance {v : V} {σ : L2.St} : Look (some v :: σ) 0 v := ⟨rfl⟩
instance {a : Option V} {σ : L2.St} {i : Nat} {v : V} [h : Look σ i v] : Look (a :: σ) (i + 1) v := ⟨by simpa using h.at_⟩
class SetL (σ : L2.St) (i : Nat) (x : Option V) (τ : outParam L2.St) : Prop where
  eq : σ.set i x = τ
instance {a x : Option V} {σ : L2.St} : SetL (a :: σ) 0 x (x :: σ) := ⟨rfl⟩
instance {a x : Option V} {σ τ : L2.St} {i : Nat} [h : SetL σ i x τ] : SetL (a :: σ) (i + 1) x (a :: τ) := ⟨by rw [← h.eq]; rfl⟩
section
variable {K : PySem.W.Frag} {σ τ : L2.St} {H H1 H2 : Hp} {Q : VK} {QB : Bool → Hp → Prop} {QL : List V → Hp → Prop} {v x y : V} {i j : Nat} {te ta tb : TE} {tt tu : TT} {tl tr : TA} {r : R2} {D : Ends} {t u : TS} {b c : Bool} {sp : Sp} {dvs : List V} {E : XK}
instance [h : Look σ i v] : Step (tVar i σ H Q) (Q v H) := ⟨g_var h.at_⟩
instance : Step (tC v σ H Q) (Q v H) := ⟨g_c⟩
instance : Step (tOp r ta tb σ H Q) (ta σ H fun x H1 => tb σ H1 fun y H2 => r x y H2 Q) := ⟨g_op⟩
instance {r : V → Hp → VK → Prop} : Step (tUn r ta σ H Q) (ta σ H fun x H1 => r x H1 Q) := ⟨g_un⟩
instance : Step (tTest te σ H QB) (te σ H fun x H' => ∃ k, x = .bl k ∧ QB k H') := ⟨g_test⟩
instance : Step (tB te σ H QB) (te σ H fun x H' => ∃ k, x = .bl k ∧ QB k H') := ⟨g_tB⟩
instance : Step (tNot tt σ H QB) (tt σ H fun c H1 => QB (!c) H1) := ⟨g_not⟩
instance : Step (tAnd tt tu σ H QB) (tt σ H fun c H1 => if c = true then tu σ H1 QB else QB false H1) := ⟨g_and⟩
instance : Step (tOr tt tu σ H QB) (tt σ H fun c H1 => if c = true then QB true H1 else tu σ H1 QB) := ⟨g_or⟩
instance : Step (tNotV te σ H Q) (te σ H fun x H1 => ∃ c, x = .bl c ∧ Q (.bl (!c)) H1) := ⟨g_notV⟩
instance : Step (tAndV ta tb σ H Q) (ta σ H fun x H1 => ∃ c, x = .bl c ∧ if c = true then tb σ H1 Q else Q (.bl false) H1) := ⟨g_andV⟩
instance : Step (tOrV ta tb σ H Q) (ta σ H fun x H1 => ∃ c, x = .bl c ∧ if c = true then Q (.bl true) H1 else tb σ H1 Q) := ⟨g_orV⟩
instance : Step (tIf tt ta tb σ H Q) (tt σ H fun c H1 => if c = true then ta σ H1 Q else tb σ H1 Q) := ⟨g_if⟩
instance : Step (tIfS tt t u D σ H) (tt σ H fun c H1 => if c = true then t D σ H1 else u D σ H1) := ⟨g_ifs⟩
instance {R : Bool → Prop} : Step (∃ k, V.bl b = .bl k ∧ R k) (R b) := ⟨g_ex⟩
instance {i : Int} {R : Int → Prop} : Step (∃ k, V.int i = .int k ∧ R k) (R i) := ⟨g_exI⟩
instance : Step (tSeq t u D σ H) (t { D with nx := u D } σ H) := ⟨g_seq⟩
instance (priority := high) {a : L2.St → Hp → Prop} {rt : VK} {bk ct : L2.St → Hp → Prop} : Step (tSeq t u (Ends.mk a rt bk ct) σ H) (t (Ends.mk (u (Ends.mk a rt bk ct)) rt bk ct) σ H) := ⟨g_seqM⟩
instance : Step (tAsg te (gName i) D σ H) (te σ H fun x H1 => gName i x σ H1 D.nx) := ⟨fun q => q⟩
instance {R : L2.St → Hp → Prop} [h : SetL σ i (some v) τ] : Step (gName i v σ H R) (R τ H) := ⟨fun q => by show R _ H; rw [h.eq]; exact q⟩
instance : Step (tRet te D σ H) (te σ H D.rt) := ⟨g_ret⟩
instance : Step (tRetN D σ H) (D.rt .non H) := ⟨fun q => q⟩
instance : Step (tDrop te D σ H) (te σ H fun _ H1 => D.nx σ H1) := ⟨g_drop⟩
instance : Step (tNext D σ H) (D.nx σ H) := ⟨g_next⟩
instance : Step (tBreak D σ H) (D.bk σ H) := ⟨fun q => q⟩
instance : Step (tCont D σ H) (D.ct σ H) := ⟨fun q => q⟩
instance {a : L2.St → Hp → Prop} {rt : VK} {bk ct : L2.St → Hp → Prop} : Step ((Ends.mk a rt bk ct).nx σ H) (a σ H) := ⟨g_nx⟩
instance {a : L2.St → Hp → Prop} {rt : VK} {bk ct : L2.St → Hp → Prop} : Step ((Ends.mk a rt bk ct).rt v H) (rt v H) := ⟨g_rt⟩
instance {a : L2.St → Hp → Prop} {rt : VK} {bk ct : L2.St → Hp → Prop} : Step ((Ends.mk a rt bk ct).bk σ H) (bk σ H) := ⟨fun q => q⟩
instance {a : L2.St → Hp → Prop} {rt : VK} {bk ct : L2.St → Hp → Prop} : Step ((Ends.mk a rt bk ct).ct σ H) (ct σ H) := ⟨fun q => q⟩
instance : Step (tCall sp dvs E tl σ H Q) (tl σ H fun vs H1 => sp (vs ++ dvs) H1 Q E) := ⟨g_call⟩
instance : Step (tCons te tl σ H QL) (te σ H fun x H1 => tl σ H1 fun xs H2 => QL (x :: xs) H2) := ⟨g_cons⟩
instance : Step (tNil σ H QL) (QL [] H) := ⟨g_nil⟩
instance {n m : Nat} {gV : List V → List V → List V} : Step (tCallN n m sp gV E tl tr σ H Q) (tl σ H fun vs H1 => tr σ H1 fun zs H2 => vs.length = n ∧ zs.length = m ∧ sp (gV vs zs) H2 Q E) := ⟨fun q => q⟩
instance {r : List V → Hp → VK → Prop} : Step (tCB r tl σ H Q) (tl σ H fun vs H1 => r vs H1 Q) := ⟨g_cb⟩
def rNewL (xs : List V) (H1 : Hp) (Q : VK) : Prop := xs.length ≤ sizeLine ∧ ∀ p, H1 p = none → Q (.ref p) (upd H1 p (.lst xs))
def rNewT (xs : List V) (H1 : Hp) (Q : VK) : Prop := xs.length ≤ sizeLine ∧ ∀ p, H1 p = none → Q (.ref p) (upd H1 p (.tup xs))
theorem g_newL {xs : List V} (hz : xs.length ≤ 100000) (q : ∀ p H2, Nw H p → Ex H H2 → At H2 p (.lst xs) → Q (.ref p) H2) : rNewL xs H Q := ⟨Nat.le_trans hz (by decide), fun p hp => q p _ ⟨hp⟩ (Ex.mk hp) ⟨upd_same⟩⟩
theorem g_newT {xs : List V} (hz : xs.length ≤ 100000) (q : ∀ p H2, Nw H p → Ex H H2 → At H2 p (.tup xs) → Q (.ref p) H2) : rNewT xs H Q := ⟨Nat.le_trans hz (by decide), fun p hp => q p _ ⟨hp⟩ (Ex.mk hp) ⟨upd_same⟩⟩
instance : Step (tLst tl σ H Q) (tl σ H fun xs H1 => rNewL xs H1 Q) := ⟨g_lst⟩
instance : Step (tTup tl σ H Q) (tl σ H fun xs H1 => rNewT xs H1 Q) := ⟨g_tup⟩
instance {i j : Int} : Step (rAdd K (.int i) (.int j) H Q) (Q (.int (i + j)) H) := ⟨g_add⟩
instance {i j : Int} : Step (rSub (.int i) (.int j) H Q) (Q (.int (i - j)) H) := ⟨g_sub⟩
instance {i j : Int} : Step (rLt (.int i) (.int j) H Q) (Q (.bl (decide (i < j))) H) := ⟨g_lt⟩
instance {i j : Int} : Step (rLe (.int i) (.int j) H Q) (Q (.bl (decide (i ≤ j))) H) := ⟨g_le⟩
instance {i j : Int} : Step (rGt (.int i) (.int j) H Q) (Q (.bl (decide (j < i))) H) := ⟨g_gt⟩
instance {i j : Int} : Step (rGe (.int i) (.int j) H Q) (Q (.bl (decide (j ≤ i))) H) := ⟨g_ge⟩
instance {i j : Int} : Step (rEqX K (.int i) (.int j) H Q) (Q (.bl (decide (i = j))) H) := ⟨g_eq⟩
instance {i j : Int} : Step (rNeX K (.int i) (.int j) H Q) (Q (.bl (!decide (i = j))) H) := ⟨g_ne⟩
instance {i j : Bool} : Step (rEqX K (.bl i) (.bl j) H Q) (Q (.bl (i == j)) H) := ⟨g_eqB⟩
instance {i j : Bool} : Step (rNeX K (.bl i) (.bl j) H Q) (Q (.bl (!(i == j))) H) := ⟨g_neB⟩
instance {i j : Str} : Step (rEqX K (.str i) (.str j) H Q) (Q (.bl (decide (i = j))) H) := ⟨g_eqS⟩
instance {i j : Str} : Step (rNeX K (.str i) (.str j) H Q) (Q (.bl (!decide (i = j))) H) := ⟨g_neS⟩
theorem g_isNn (q : Q (.bl true) H) : rIsN .non .non H Q := ⟨rfl, q⟩
theorem g_notNn (q : Q (.bl false) H) : rNotN .non .non H Q := ⟨rfl, q⟩
instance : Step (rIsN .non .non H Q) (Q (.bl true) H) := ⟨g_isNn⟩
instance : Step (rNotN .non .non H Q) (Q (.bl false) H) := ⟨g_notNn⟩
instance {i : Int} : Step (rIsN (.int i) .non H Q) (Q (.bl false) H) := ⟨fun q => ⟨rfl, q⟩⟩
instance {i : Int} : Step (rNotN (.int i) .non H Q) (Q (.bl true) H) := ⟨fun q => ⟨rfl, q⟩⟩
instance {p : Addr} : Step (rIsN (.ref p) .non H Q) (Q (.bl false) H) := ⟨fun q => ⟨rfl, q⟩⟩
instance {p : Addr} : Step (rNotN (.ref p) .non H Q) (Q (.bl true) H) := ⟨fun q => ⟨rfl, q⟩⟩
instance {z : Str} : Step (rIsN (.str z) .non H Q) (Q (.bl false) H) := ⟨fun q => ⟨rfl, q⟩⟩
instance {z : Str} : Step (rNotN (.str z) .non H Q) (Q (.bl true) H) := ⟨fun q => ⟨rfl, q⟩⟩
instance {i : Int} : Step (rInt [V.int i] H Q) (Q (.int i) H) := ⟨g_int⟩
instance {k : Bool} : Step (rInt [V.bl k] H Q) (Q (.int (if k then 1 else 0)) H) := ⟨g_intB⟩
instance {i : Int} : Step (rAbs [V.int i] H Q) (Q (.int (if i < 0 then -i else i)) H) := ⟨g_abs⟩
instance {i j : Int} : Step (rMax2 [V.int i, .int j] H Q) (Q (.int (if j > i then j else i)) H) := ⟨g_max2⟩
instance {i j : Int} : Step (rMin2 [V.int i, .int j] H Q) (Q (.int (if j < i then j else i)) H) := ⟨g_min2⟩
instance {g : Int → V} {i : Int} : Step (rU g (.int i) H Q) (Q (g i) H) := ⟨fun q => ⟨i, rfl, q⟩⟩
instance {to ti : TE} {ts : TSet} {R : L2.St → Hp → Prop} : Step (gSub to ti ts v σ H R) (to σ H fun o H1 => ti σ H1 fun i H2 => ts o i v H2 fun H3 => R σ H3) := ⟨g_gsub⟩
instance (priority := low) {g : TG} : Step (tAsg te g D σ H) (te σ H fun x H1 => g x σ H1 D.nx) := ⟨g_asgG⟩
instance {r : V → Option Int → Option Int → Hp → VK → Prop} {t1 t2 : TO} : Step (tSl r te t1 t2 σ H Q) (te σ H fun x H1 => t1 σ H1 fun l H2 => t2 σ H2 fun u H3 => r x l u H3 Q) := ⟨g_sl⟩
instance {R : Option Int → Hp → Prop} : Step (tNoPart σ H R) (R none H) := ⟨g_noPart⟩
instance {R : Option Int → Hp → Prop} : Step (tPart te σ H R) (te σ H fun x H1 => ∃ i, x = .int i ∧ R (some i) H1) := ⟨g_part⟩
instance {T : String} {r : V → List V → Hp → VK → Prop} : Step (tBM K T r te tl σ H Q) (te σ H fun x H1 => tyV K T x H1 ∧ tl σ H1 fun xs H2 => r x xs H2 Q) := ⟨g_bm⟩
instance {T : String} {r : V → List V → Hp → VK → Prop} : Step (tBM0 K T r te σ H Q) (te σ H fun x H1 => tyV K T x H1 ∧ r x [] H1 Q) := ⟨g_bm0⟩
instance {z : Str} {R : Prop} : Step (tyV K "str" (.str z) H ∧ R) R := ⟨g_tyS⟩
instance {A B : Prop} : Step (if true = true then A else B) A := ⟨iteT⟩
instance {A B : Prop} : Step (if false = true then A else B) B := ⟨iteF⟩
instance {A B : Prop} : Step (if (!false) = true then A else B) A := ⟨iteNT⟩
instance {A B : Prop} : Step (if (!true) = true then A else B) B := ⟨iteNF⟩
end

/-! ### enumerate(text) -/
def Itse (x : Str) : It :=
  ⟨fun i _ => i < x.cps.size, fun i H v H' => ∃ T c, v = .ref T ∧ H T = none ∧ H' = upd H T (.tup [.int (i : Nat), .str ⟨#[c]⟩]) ∧ x.cps[i]? = some c, fun i _ => x.cps.size ≤ i⟩
theorem turn_enumS {P : Program} {w : World} {K : PySem.W.Frag} {elts : List Expr} {kk : Nat} {tpos : Pos} (x : Str) (t : Tok) (e it : Addr) (hne : e ≠ it) :
    Turn P w K (.Tuple elts kk tpos) (Itse x) [e, it] e (fun i h => ((∃ old, IsEnum h e it ((i : Nat) : Int) old) ∧ h.IsStrIter it (strIterType x) x t i) ∧ i ≤ x.cps.size) where
  mem := by simp
  obj := fun i h st b hb => by
    obtain ⟨⟨⟨old, he⟩, o, ho, hc, hd⟩, hle⟩ := st
    have e' : b = e ∨ b = it := by simpa using hb
    rcases e' with z | z
    · rw [z]; exact ⟨_, he, fun v q => nomatch q⟩
    · rw [z]; exact ⟨o, ho, fun v q => by rw [hd] at q; cases q⟩
  keep := fun i h h' st k => by
    obtain ⟨⟨⟨old, he⟩, o, ho, r⟩, hle⟩ := st
    exact ⟨⟨⟨old, k e (by simp) _ he⟩, o, k it (by simp) o ho, r⟩, hle⟩
  item := by
    intro X hP hw hK hc i pins s σ H E I hf st hg
    subst hP hw hK
    obtain ⟨⟨⟨old, he⟩, hit⟩, hle⟩ := st
    have hlt : i < x.cps.size := hg
    have hel : e < s.heap.objs.size := Heap.lt_size he
    have hil : it < s.heap.objs.size := by obtain ⟨_, q, _⟩ := hit; exact Heap.lt_size q
    have D := Draws.text (prog := X.prog) (w := X.w) (A := X.A.in1) (I.ok.hd hc) it x t
    refine wpAny_pyNext_enum_itemD D he hit hlt hne (by simpa using hne) fun v h' tk hv ho hit' hT hsz hk => ?_
    obtain ⟨c, u, hcx, rfl⟩ := hv
    refine ⟨_, rfl, wpAny_letOwnedTupleGo_enum (s := { s with heap := h', toks := tk + 1 }) ho fun h'' he' sb => ?_⟩
    have hT2 : h''.get? s.heap.objs.size = some { cls := .type "tuple", data := .seq #[.int i tk, .str ⟨#[c]⟩ u] } := (sb.2 _ (Nat.ne_of_gt hel)).trans hT
    have new : ObjOk X.prog X.w (upd H s.heap.objs.size (.tup [.int (i : Nat), .str ⟨#[c]⟩])) h'' s.heap.objs.size (.tup [.int (i : Nat), .str ⟨#[c]⟩]) :=
      ⟨by show 2 ≤ sizeLine; decide, [.int i tk, .str ⟨#[c]⟩ u], .cons ⟨_, rfl⟩ (.cons ⟨_, rfl⟩ .nil), ⟨_, hT2, rfl, _, rfl⟩⟩
    have I1 : Inv X pins σ (upd H s.heap.objs.size (.tup [.int (i : Nat), .str ⟨#[c]⟩])) { s with heap := h'', toks := tk + 1 } :=
      I.turnedNew (ch := [e, it]) (fun b ob hb q => (sb.2 b (fun z => hb (by simp [z]))).trans (hk b ob (fun z => hb (by simp [z])) (fun z => hb (by simp [z])) q)) hf (Nat.le_refl _) new
    refine ⟨.ref s.heap.objs.size, _, I1, rfl, ⟨_, c, rfl, I.hok.fresh (Nat.le_refl _), rfl, hcx⟩, ⟨⟨⟨.str ⟨#[c]⟩ u, ?_⟩, ?_⟩, hlt⟩, fun b hb => ?_⟩
    · have e1 : ((i + 1 : Nat) : Int) = (i : Int) + 1 := by omega
      rw [e1]; exact he'
    · obtain ⟨o, e1, r⟩ := hit'
      exact ⟨o, (sb.2 it (Ne.symm hne)).trans e1, r⟩
    · have hb' : b < s.heap.objs.size := by
        have e' : b = e ∨ b = it := by simpa using hb
        rcases e' with z | z
        · rw [z]; exact hel
        · rw [z]; exact hil
      rw [upd_ne (Nat.ne_of_lt hb')]
      exact (hf b hb).1
  done := by
    intro X hP hw hK hc i pins s σ H E I hf st hg
    subst hP hw hK
    obtain ⟨⟨⟨old, he⟩, hit⟩, hle⟩ := st
    have hge : x.cps.size ≤ i := hg
    obtain ⟨f0, f1, f2, f3, f4, f5⟩ := hf it (by simp)
    have ei : i = x.cps.size := Nat.le_antisymm hle hge
    subst ei
    have D := Draws.text (prog := X.prog) (w := X.w) (A := X.A.in1) (I.ok.hd hc) it x t
    exact wpAny_pyNext_enum_endD D he hit fun h' eb => ⟨rfl, I.turned (t' := s.toks) (fun b o hb q => eb b o hb q) f0 f1 f3 f4 f5⟩
  self := fun A i s Q E st h => let ⟨⟨⟨_, he⟩, _⟩, _⟩ := st; wpAny_pyIter_enum he h
def iEnumS (ta : TA) : TI := fun σ H R => ta σ H fun vs H1 => ∃ x, vs = [.str x] ∧ R (Itse x) H1
theorem pi_enumS {X : Cx} {e : Expr} {ta : TA} {p pos tpos : Pos} {elts : List Expr} {kk : Nat} (hg : Gl X "enumerate") (hm : X.mg "enumerate" = none) (ha : PA X [e] ta) (hs : starEach [e] X.env = [(false, eval e X.env)] := by rfl) :
    PI X (.Tuple elts kk tpos) (.Call (.Name "enumerate" p) [e] [] pos) (iEnumS ta) := by
  refine ⟨fun pins s σ H R I h => ?_⟩
  refine Call_ (ld_blt I hg hm boot_enumerate (PyProof.Rows.callWith_type1 (thn (ha.run pos pins s σ H _ I h) fun us s1 ⟨vs, H1, I1, r1, q1⟩ => ?_) hs rfl))
  obtain ⟨x, ex, q⟩ := q1
  subst ex
  cases r1 with
  | cons r rr =>
    cases rr
    obtain ⟨t, rfl⟩ := r
    refine call_enumerate_str fun h' he hit hsz hk => wpAny_pyIter_enum he ?_
    have I2 : Inv X pins σ H1 { s1 with heap := h' } := I1.kept (t' := s1.toks) hk
    refine ⟨s1.heap.objs.size + 1, [s1.heap.objs.size + 1, s1.heap.objs.size], _, _, H1, rfl, I2, turn_enumS x t (s1.heap.objs.size + 1) s1.heap.objs.size (Nat.succ_ne_self _), ⟨⟨⟨.none, he⟩, hit⟩, Nat.zero_le _⟩, fun b hb => ?_, q⟩
    have e' : b = s1.heap.objs.size + 1 ∨ b = s1.heap.objs.size := by simpa using hb
    have hle : s1.heap.objs.size ≤ b := by
      rcases e' with z | z
      · rw [z]; exact Nat.le_add_right _ _
      · rw [z]; exact Nat.le_refl _
    exact I1.fpOk hle (I1.hok.fresh hle)
/-! ### loops -/
section
variable {K : PySem.W.Frag} {σ τ : L2.St} {H : Hp} {Q : VK} {j : Nat} {ta : TA} {te tl : TE} {tt : TT} {D : Ends} {tb : TS} {g : TG}
/-- any iterator told by what it gives: n items, where S stands, the i-th as Y tells -/
structure Feeds (J : It) (n : Nat) (S : Hp → Prop) (Y : Nat → Hp → V → Hp → Prop) : Prop where
  go : ∀ i H, S H → i < n → J.go i H
  yld : ∀ i H x H', S H → i < n → J.yld i H x H' → Y i H x H'
  stop : ∀ H, S H → J.stop n H
abbrev ForW (J : It) (g : TG) (tb : TS) (D : Ends) (σ : L2.St) (H : Hp) : Prop := ∃ W : Nat → Nat → L2.St → Hp → Prop, (∃ m, W 0 m σ H) ∧ ∀ i m σ H, W i m σ H →
      (J.stop i H ∧ D.nx σ H) ∨ (J.go i H ∧ ∃ N : L2.St → Hp → Prop, (∀ σ' H', N σ' H' → ∃ m', m' < m ∧ W (i + 1) m' σ' H') ∧ ∀ v H', J.yld i H v H' → g v σ H' fun σ2 H2 => tb { D with nx := N, ct := N, bk := D.nx } σ2 H2)
abbrev LcW (J : It) (g : TG) (tt : TT) (te : TE) (vs : List Nat) (σ : L2.St) (H : Hp) (Q : VK) : Prop := ∀ D, H D = none → ∃ W : Nat → Nat → Hp → Prop, (∃ m, W 0 m (upd H D (.lst []))) ∧ ∀ i m H, W i m H →
      (J.stop i H ∧ Q (.ref D) H) ∨ (J.go i H ∧ ∃ Nx : Hp → Prop, (∀ H', Nx H' → ∃ m', m' < m ∧ W (i + 1) m' H') ∧ ∀ x H', J.yld i H x H' → g x (wipe σ vs) H' fun σ2 H2 => wipe σ2 vs = wipe σ vs ∧ tt σ2 H2 fun b H3 =>
        if b = true then te σ2 H3 fun y H4 => ∃ acc, H4 D = some (.lst acc) ∧ acc.length < sizeLine ∧ Nx (upd H4 D (.lst (acc ++ [y]))) else Nx H3)
/-- the invariant: what is not in bs stands as it stood at H, and Pv -/
def LI (bs : List Addr) (H : Hp) (Pv : L2.St → Hp → Prop) : L2.St → Hp → Prop := fun σ' H' => Chg bs H H' ∧ Pv σ' H'
theorem li {bs : List Addr} {H H' : Hp} {Pv : L2.St → Hp → Prop} {σ' : L2.St} [r : RelC bs H H'] [k : Anc H H'] (h : Pv σ' H') : LI bs H Pv σ' H' := ⟨rel, h⟩
theorem for_feeds {J : It} {n : Nat} {S : Hp → Prop} {Y : Nat → Hp → V → Hp → Prop} (F : Feeds J n S Y) (bs : List Addr) (Pv : Nat → L2.St → Hp → Prop) (h0 : Pv 0 σ H) (hS : ∀ H', Chg bs H H' → S H')
    (hs : ∀ (i : Nat) σ' H' x H'', i < n → Chg bs H H' → Pv i σ' H' → Y i H' x H'' → g x σ' H'' fun σ2 H2 => tb { D with nx := LI bs H (Pv (i + 1)), ct := LI bs H (Pv (i + 1)), bk := D.nx } σ2 H2) (hd : ∀ σ' H', Chg bs H H' → Pv n σ' H' → D.nx σ' H') :
    ForW J g tb D σ H := by
  refine ⟨fun i m σ' H' => m = n - i ∧ i ≤ n ∧ LI bs H (Pv i) σ' H', ⟨n, rfl, Nat.zero_le _, Chg.refl _ _, h0⟩, ?_⟩
  rintro i m σ' H' ⟨rfl, hi, r, p⟩
  have q := hS H' r
  by_cases hlt : i < n
  · exact .inr ⟨F.go i H' q hlt, LI bs H (Pv (i + 1)), fun σ' H' p' => ⟨n - (i + 1), by omega, rfl, hlt, p'⟩, fun v H'' y => hs i σ' H' v H'' hlt r p (F.yld i H' v H'' q hlt y)⟩
  · have e : i = n := by omega
    subst e
    exact .inl ⟨F.stop H' q, hd σ' H' r p⟩
/-- within a comprehension: the list made so far, at D -/
def rW (D : Addr) (P : List V → Hp → Prop) (H' : Hp) : Prop := ∃ acc, H' D = some (.lst acc) ∧ P acc H'
def rApp (D : Addr) (W : Hp → Prop) (y : V) (H4 : Hp) : Prop := ∃ acc, H4 D = some (.lst acc) ∧ acc.length < sizeLine ∧ W (upd H4 D (.lst (acc ++ [y])))
theorem g_rapp {D : Addr} {P : List V → Hp → Prop} {y : V} {acc : List V} {H4 : Hp} [h : At H4 D (.lst acc)] (hz : acc.length < 100000) (q : ∀ H5, ExB D H4 H5 → At H5 D (.lst (acc ++ [y])) → P (acc ++ [y]) H5) : rApp D (rW D P) y H4 :=
  ⟨acc, h.eq, Nat.lt_of_lt_of_le hz (by decide), _, upd_same, q _ (ExB.upd h.eq) ⟨upd_same⟩⟩
theorem g_rW {D : Addr} {P : List V → Hp → Prop} {acc : List V} {H4 : Hp} [h : At H4 D (.lst acc)] (q : P acc H4) : rW D P H4 := ⟨acc, h.eq, q⟩
class Wipe (σ : L2.St) (vs : List Nat) (τ : outParam L2.St) : Prop where
  eq : wipe σ vs = τ
instance : Wipe σ [] σ := ⟨rfl⟩
instance {v : Nat} {vs : List Nat} {ρ : L2.St} [h : Wipe σ vs ρ] [k : SetL ρ v none τ] : Wipe σ (v :: vs) τ := ⟨by show (wipe σ vs).set v none = τ; rw [h.eq, k.eq]⟩
instance {QB : Bool → Hp → Prop} : Step (tYes σ H QB) (QB true H) := ⟨fun q => q⟩
theorem lc_feeds {J : It} {n : Nat} {S : Hp → Prop} {Y : Nat → Hp → V → Hp → Prop} {vs : List Nat} (F : Feeds J n S Y) (bs : List Addr) (Pv : Addr → Nat → List V → Hp → Prop) [hw : Wipe σ vs τ]
    (h0 : ∀ D H1, Nw H D → Ex H H1 → At H1 D (.lst []) → Pv D 0 [] H1) (hS : ∀ H', Chg bs H H' → S H')
    (hs : ∀ D (i : Nat) acc H' x H'', i < n → Nw H D → Chg bs H H' → At H' D (.lst acc) → Pv D i acc H' → Y i H' x H'' → g x τ H'' fun σ2 H2 => wipe σ2 vs = τ ∧ tt σ2 H2 fun b H3 =>
      if b = true then te σ2 H3 (rApp D (rW D fun ac H5 => Chg bs H H5 ∧ Pv D (i + 1) ac H5)) else rW D (fun ac H5 => Chg bs H H5 ∧ Pv D (i + 1) ac H5) H3)
    (hd : ∀ D acc H', Nw H D → Chg bs H H' → At H' D (.lst acc) → Pv D n acc H' → Q (.ref D) H') : LcW J g tt te vs σ H Q := by
  intro D hD
  refine ⟨fun i m H' => m = n - i ∧ i ≤ n ∧ rW D (fun ac H5 => Chg bs H H5 ∧ Pv D i ac H5) H', ⟨n, rfl, Nat.zero_le _, [], upd_same, ⟨fun a o _ h => (Ex.mk hD).keep a o (by simp) h, (Ex.mk hD).live, (Ex.mk hD).imm⟩, h0 D _ ⟨hD⟩ (Ex.mk hD) ⟨upd_same⟩⟩, ?_⟩
  rintro i m H' ⟨rfl, hi, acc, e, r, p⟩
  have q := hS H' r
  by_cases hlt : i < n
  · refine .inr ⟨F.go i H' q hlt, rW D (fun ac H5 => Chg bs H H5 ∧ Pv D (i + 1) ac H5), fun H' p' => ⟨n - (i + 1), by omega, rfl, hlt, p'⟩, fun v H'' y => ?_⟩
    rw [hw.eq]
    exact hs D i acc H' v H'' hlt ⟨hD⟩ r ⟨e⟩ p (F.yld i H' v H'' q hlt y)
  · have e' : i = n := by omega
    subst e'
    exact .inl ⟨F.stop H' q, hd D acc H' ⟨hD⟩ r ⟨e⟩ p⟩
/-- the items come out as F tells -/
theorem lc_F {J : It} {n : Nat} {S : Hp → Prop} {Y : Nat → Hp → V → Hp → Prop} {vs : List Nat} (Fd : Feeds J n S Y) (F : Nat → List V) [hw : Wipe σ vs τ] (hF : F 0 = []) (hS : ∀ H', Ex H H' → S H') (hz : ∀ i, i < n → (F i).length < 100000)
    (hs : ∀ D (i : Nat) H' x H'', i < n → Nw H D → Ex H H' → At H' D (.lst (F i)) → (F i).length < 100000 → Y i H' x H'' → g x τ H'' fun σ2 H2 => wipe σ2 vs = τ ∧ tt σ2 H2 fun b H3 =>
      if b = true then te σ2 H3 (rApp D (rW D fun ac H5 => Ex H H5 ∧ ac = F (i + 1))) else rW D (fun ac H5 => Ex H H5 ∧ ac = F (i + 1)) H3)
    (hd : ∀ D H', Nw H D → Ex H H' → At H' D (.lst (F n)) → Q (.ref D) H') : LcW J g tt te vs σ H Q :=
  lc_feeds Fd [] (fun _ i acc _ => acc = F i) (fun _ H1 _ _ _ => hF.symm) hS (fun D i acc H' x H'' hi hD e hp p y => by
    subst p
    exact hs D i H' x H'' hi hD e hp (hz i hi) y) (fun D acc H' hD e hp p => by
    subst p
    exact hd D H' hD e hp)
/-- each item is as P tells -/
theorem lc_A {J : It} {n : Nat} {S : Hp → Prop} {Y : Nat → Hp → V → Hp → Prop} {vs : List Nat} (Fd : Feeds J n S Y) (P : V → Prop) [hw : Wipe σ vs τ] (hS : ∀ H', Ex H H' → S H') (hz : n ≤ 100000)
    (hs : ∀ D (i : Nat) acc H' x H'', i < n → Nw H D → Ex H H' → At H' D (.lst acc) → acc.length < 100000 → Y i H' x H'' → g x τ H'' fun σ2 H2 => wipe σ2 vs = τ ∧ tt σ2 H2 fun b H3 =>
      if b = true then te σ2 H3 (rApp D (rW D fun ac H5 => Ex H H5 ∧ ∃ v, ac = acc ++ [v] ∧ P v)) else rW D (fun ac H5 => Ex H H5 ∧ ∃ v, ac = acc ++ [v] ∧ P v) H3)
    (hd : ∀ D acc H', Nw H D → Ex H H' → At H' D (.lst acc) → acc.length = n → (∀ v ∈ acc, P v) → Q (.ref D) H') : LcW J g tt te vs σ H Q := by
  intro D hD
  refine ⟨fun i m H' => m = n - i ∧ i ≤ n ∧ ∃ acc, H' D = some (.lst acc) ∧ acc.length = i ∧ (∀ v ∈ acc, P v) ∧ Ex H H', ⟨n, rfl, Nat.zero_le _, [], upd_same, rfl, by simp, Ex.mk hD⟩, ?_⟩
  rintro i m H' ⟨rfl, hi, acc, e, hl, hP, ex⟩
  have q := hS H' ex
  by_cases hlt : i < n
  · refine .inr ⟨Fd.go i H' q hlt, rW D (fun ac H5 => Ex H H5 ∧ ∃ v, ac = acc ++ [v] ∧ P v), fun H' p' => ?_, fun v H'' y => ?_⟩
    · obtain ⟨ac, e1, e2, v, rfl, hv⟩ := p'
      refine ⟨n - (i + 1), by omega, rfl, hlt, acc ++ [v], e1, by simp [hl], fun u hu => ?_, e2⟩
      rcases List.mem_append.mp hu with h | h
      · exact hP u h
      · rw [List.mem_singleton.mp h]; exact hv
    · rw [hw.eq]
      exact hs D i acc H' v H'' hlt ⟨hD⟩ ex ⟨e⟩ (by omega) (Fd.yld i H' v H'' q hlt y)
  · have e' : i = n := by omega
    subst e'
    exact .inl ⟨Fd.stop H' q, hd D acc H' ⟨hD⟩ ex ⟨e⟩ hl hP⟩
/-! what each kind gives -/
theorem fd_rng {lo : Int} {n : Nat} : Feeds (Itr lo n) n (fun _ => True) (fun i H x H' => H' = H ∧ x = .int (lo + (i : Nat))) := ⟨fun _ _ _ h => h, fun _ _ _ _ _ _ y => y, fun _ _ => Nat.le_refl _⟩
theorem fd_list {a : Addr} {xs : List V} : Feeds (Itl K a) xs.length (fun H => SqL K H a xs) (fun i H x H' => H' = H ∧ xs[i]? = some x) :=
  ⟨fun i H s h => ⟨xs, xs[i], s, List.getElem?_eq_getElem h⟩, fun i H x H' s _ y => ⟨y.1, y.2 xs s⟩, fun H s => ⟨xs, s, Nat.le_refl _⟩⟩
theorem fd_tup {a : Addr} {xs : List V} : Feeds (Itt K a) xs.length (fun H => SqT K H a xs) (fun i H x H' => H' = H ∧ xs[i]? = some x) :=
  ⟨fun i H s h => ⟨xs, xs[i], s, List.getElem?_eq_getElem h⟩, fun i H x H' s _ y => ⟨y.1, y.2 xs s⟩, fun H s => ⟨xs, s, Nat.le_refl _⟩⟩
def Pair (H : Hp) (x : V) (H' : Hp) (a b : V) : Prop := ∃ T, x = .ref T ∧ Nw H T ∧ Ex H H' ∧ At H' T (.tup [a, b])
theorem pair_mk {H : Hp} {T : Addr} {a b : V} (h : H T = none) : Pair H (.ref T) (upd H T (.tup [a, b])) a b := ⟨T, rfl, ⟨h⟩, Ex.mk h, ⟨upd_same⟩⟩
theorem fd_enumS {z : Str} : Feeds (Itse z) z.cps.size (fun _ => True) (fun i H x H' => ∃ c, z.cps[i]? = some c ∧ Pair H x H' (.int (i : Nat)) (.str ⟨#[c]⟩)) :=
  ⟨fun _ _ _ h => h, fun i H x H' _ _ y => by
    obtain ⟨T, c, rfl, h, rfl, hc⟩ := y
    exact ⟨c, hc, pair_mk h⟩, fun _ _ => Nat.le_refl _⟩
theorem fd_str {z : Str} : Feeds (Its z) z.cps.size (fun _ => True) (fun i H x H' => H' = H ∧ ∃ c, z.cps[i]? = some c ∧ x = .str ⟨#[c]⟩) := ⟨fun _ _ _ h => h, fun _ _ _ _ _ _ y => y, fun _ _ => Nat.le_refl _⟩
theorem fd_enum {a : Addr} {xs : List V} : Feeds (Ite K a) xs.length (fun H => SqL K H a xs) (fun i H x H' => ∃ c, xs[i]? = some c ∧ Pair H x H' (.int (i : Nat)) c) :=
  ⟨fun i H s h => ⟨xs, xs[i], s, List.getElem?_eq_getElem h⟩, fun i H x H' s _ y => by
    obtain ⟨T, c, rfl, h, rfl, hc⟩ := y
    exact ⟨c, hc xs s, pair_mk h⟩, fun H s => ⟨xs, s, Nat.le_refl _⟩⟩
theorem fd_zip {a b : Addr} {xs ys : List V} {n : Nat} (hn : min xs.length ys.length = n) : Feeds (Itz K a b) n (fun H => SqL K H a xs ∧ SqL K H b ys) (fun i H x H' => ∃ c d, xs[i]? = some c ∧ ys[i]? = some d ∧ Pair H x H' c d) :=
  ⟨fun i H s h => ⟨xs, ys, xs[i]'(by omega), ys[i]'(by omega), s.1, s.2, List.getElem?_eq_getElem _, List.getElem?_eq_getElem _⟩, fun i H x H' s _ y => by
    obtain ⟨T, c, d, rfl, h, rfl, hc, hd⟩ := y
    exact ⟨c, d, hc xs s.1, hd ys s.2, pair_mk h⟩, fun H s => ⟨xs, ys, s.1, s.2, by omega⟩⟩
/-! the heads -/
def rFor1 (vs : List V) (g : TG) (tb : TS) (D : Ends) (σ : L2.St) (H : Hp) : Prop := tFor (iRng1 fun _ H R => R vs H) g tb D σ H
def rFor2 (vs : List V) (g : TG) (tb : TS) (D : Ends) (σ : L2.St) (H : Hp) : Prop := tFor (iRng2 fun _ H R => R vs H) g tb D σ H
def rForL (K : PySem.W.Frag) (v : V) (g : TG) (tb : TS) (D : Ends) (σ : L2.St) (H : Hp) : Prop := tFor (iList K fun _ H R => R v H) g tb D σ H
def rForT (K : PySem.W.Frag) (v : V) (g : TG) (tb : TS) (D : Ends) (σ : L2.St) (H : Hp) : Prop := tFor (iTup K fun _ H R => R v H) g tb D σ H
def rForE (vs : List V) (g : TG) (tb : TS) (D : Ends) (σ : L2.St) (H : Hp) : Prop := tFor (iEnumS fun _ H R => R vs H) g tb D σ H
def rForS (v : V) (g : TG) (tb : TS) (D : Ends) (σ : L2.St) (H : Hp) : Prop := tFor (iStr fun _ H R => R v H) g tb D σ H
def rForEL (K : PySem.W.Frag) (vs : List V) (g : TG) (tb : TS) (D : Ends) (σ : L2.St) (H : Hp) : Prop := tFor (iEnum K fun _ H R => R vs H) g tb D σ H
def rForZ (K : PySem.W.Frag) (vs : List V) (g : TG) (tb : TS) (D : Ends) (σ : L2.St) (H : Hp) : Prop := tFor (iZip K fun _ H R => R vs H) g tb D σ H
instance : Step (tFor (iRng1 ta) g tb D σ H) (ta σ H fun vs H1 => rFor1 vs g tb D σ H1) := ⟨fun q => q⟩
instance : Step (tFor (iRng2 ta) g tb D σ H) (ta σ H fun vs H1 => rFor2 vs g tb D σ H1) := ⟨fun q => q⟩
instance : Step (tFor (iList K tl) g tb D σ H) (tl σ H fun v H1 => rForL K v g tb D σ H1) := ⟨fun q => q⟩
instance : Step (tFor (iTup K tl) g tb D σ H) (tl σ H fun v H1 => rForT K v g tb D σ H1) := ⟨fun q => q⟩
instance : Step (tFor (iEnumS ta) g tb D σ H) (ta σ H fun vs H1 => rForE vs g tb D σ H1) := ⟨fun q => q⟩
instance : Step (tFor (iStr tl) g tb D σ H) (tl σ H fun v H1 => rForS v g tb D σ H1) := ⟨fun q => q⟩
instance : Step (tFor (iEnum K ta) g tb D σ H) (ta σ H fun vs H1 => rForEL K vs g tb D σ H1) := ⟨fun q => q⟩
instance : Step (tFor (iZip K ta) g tb D σ H) (ta σ H fun vs H1 => rForZ K vs g tb D σ H1) := ⟨fun q => q⟩
def rLc1 (us : List V) (g : TG) (tt : TT) (te : TE) (vs : List Nat) (σ : L2.St) (H : Hp) (Q : VK) : Prop := tLc (iRng1 fun _ H R => R us H) g tt te vs σ H Q
def rLc2 (us : List V) (g : TG) (tt : TT) (te : TE) (vs : List Nat) (σ : L2.St) (H : Hp) (Q : VK) : Prop := tLc (iRng2 fun _ H R => R us H) g tt te vs σ H Q
def rLcL (K : PySem.W.Frag) (v : V) (g : TG) (tt : TT) (te : TE) (vs : List Nat) (σ : L2.St) (H : Hp) (Q : VK) : Prop := tLc (iList K fun _ H R => R v H) g tt te vs σ H Q
def rLcT (K : PySem.W.Frag) (v : V) (g : TG) (tt : TT) (te : TE) (vs : List Nat) (σ : L2.St) (H : Hp) (Q : VK) : Prop := tLc (iTup K fun _ H R => R v H) g tt te vs σ H Q
def rLcE (us : List V) (g : TG) (tt : TT) (te : TE) (vs : List Nat) (σ : L2.St) (H : Hp) (Q : VK) : Prop := tLc (iEnumS fun _ H R => R us H) g tt te vs σ H Q
def rLcS (v : V) (g : TG) (tt : TT) (te : TE) (vs : List Nat) (σ : L2.St) (H : Hp) (Q : VK) : Prop := tLc (iStr fun _ H R => R v H) g tt te vs σ H Q
def rLcEL (K : PySem.W.Frag) (us : List V) (g : TG) (tt : TT) (te : TE) (vs : List Nat) (σ : L2.St) (H : Hp) (Q : VK) : Prop := tLc (iEnum K fun _ H R => R us H) g tt te vs σ H Q
def rLcZ (K : PySem.W.Frag) (us : List V) (g : TG) (tt : TT) (te : TE) (vs : List Nat) (σ : L2.St) (H : Hp) (Q : VK) : Prop := tLc (iZip K fun _ H R => R us H) g tt te vs σ H Q
instance {vs : List Nat} : Step (tLc (iRng1 ta) g tt te vs σ H Q) (ta σ H fun us H1 => rLc1 us g tt te vs σ H1 Q) := ⟨fun q => q⟩
instance {vs : List Nat} : Step (tLc (iRng2 ta) g tt te vs σ H Q) (ta σ H fun us H1 => rLc2 us g tt te vs σ H1 Q) := ⟨fun q => q⟩
instance {vs : List Nat} : Step (tLc (iList K tl) g tt te vs σ H Q) (tl σ H fun v H1 => rLcL K v g tt te vs σ H1 Q) := ⟨fun q => q⟩
instance {vs : List Nat} : Step (tLc (iTup K tl) g tt te vs σ H Q) (tl σ H fun v H1 => rLcT K v g tt te vs σ H1 Q) := ⟨fun q => q⟩
instance {vs : List Nat} : Step (tLc (iEnumS ta) g tt te vs σ H Q) (ta σ H fun us H1 => rLcE us g tt te vs σ H1 Q) := ⟨fun q => q⟩
instance {vs : List Nat} : Step (tLc (iStr tl) g tt te vs σ H Q) (tl σ H fun v H1 => rLcS v g tt te vs σ H1 Q) := ⟨fun q => q⟩
instance {vs : List Nat} : Step (tLc (iEnum K ta) g tt te vs σ H Q) (ta σ H fun us H1 => rLcEL K us g tt te vs σ H1 Q) := ⟨fun q => q⟩
instance {vs : List Nat} : Step (tLc (iZip K ta) g tt te vs σ H Q) (ta σ H fun us H1 => rLcZ K us g tt te vs σ H1 Q) := ⟨fun q => q⟩
/-! loops by kind: bs is what the turns may change, Pv the invariant -/
theorem for1 {n : Int} (bs : List Addr) (Pv : Nat → L2.St → Hp → Prop) (hn : -(2 ^ 62) ≤ n ∧ n < 2 ^ 62) (h0 : Pv 0 σ H)
    (hs : ∀ (i : Nat) σ' H', (i : Int) < n → Chg bs H H' → Pv i σ' H' → g (.int (i : Int)) σ' H' fun σ2 H2 => tb { D with nx := LI bs H (Pv (i + 1)), ct := LI bs H (Pv (i + 1)), bk := D.nx } σ2 H2)
    (hd : ∀ σ' H', Chg bs H H' → Pv n.toNat σ' H' → D.nx σ' H') : rFor1 [.int n] g tb D σ H :=
  ⟨n, rfl, hn.1, hn.2, for_feeds (fd_rng (lo := 0)) bs Pv h0 (fun _ _ => trivial) (fun i σ' H' x H'' hi r p y => by
    obtain ⟨rfl, rfl⟩ := y
    rw [Int.zero_add]
    exact hs i σ' _ (by omega) r p) hd⟩
theorem for2 {a n : Int} (bs : List Addr) (Pv : Nat → L2.St → Hp → Prop) (hn : -(2 ^ 62) ≤ a ∧ a < 2 ^ 62 ∧ -(2 ^ 62) ≤ n ∧ n < 2 ^ 62) (h0 : Pv 0 σ H)
    (hs : ∀ (i : Nat) σ' H', a + (i : Int) < n → Chg bs H H' → Pv i σ' H' → g (.int (a + (i : Int))) σ' H' fun σ2 H2 => tb { D with nx := LI bs H (Pv (i + 1)), ct := LI bs H (Pv (i + 1)), bk := D.nx } σ2 H2)
    (hd : ∀ σ' H', Chg bs H H' → Pv (n - a).toNat σ' H' → D.nx σ' H') : rFor2 [.int a, .int n] g tb D σ H :=
  ⟨a, n, rfl, hn, for_feeds (fd_rng (lo := a)) bs Pv h0 (fun _ _ => trivial) (fun i σ' H' x H'' hi r p y => by
    obtain ⟨rfl, rfl⟩ := y
    exact hs i σ' _ (by omega) r p) hd⟩
theorem forL {a : Addr} {xs : List V} (bs : List Addr) (Pv : Nat → L2.St → Hp → Prop) [hx : SqC K H a xs] [hn : NotIn a bs] (h0 : Pv 0 σ H)
    (hs : ∀ (i : Nat) x σ' H', xs[i]? = some x → Chg bs H H' → Pv i σ' H' → g x σ' H' fun σ2 H2 => tb { D with nx := LI bs H (Pv (i + 1)), ct := LI bs H (Pv (i + 1)), bk := D.nx } σ2 H2)
    (hd : ∀ σ' H', Chg bs H H' → Pv xs.length σ' H' → D.nx σ' H') : rForL K (.ref a) g tb D σ H :=
  ⟨a, rfl, ⟨xs, hx.sq⟩, for_feeds fd_list bs Pv h0 (fun _ r => r.l hn.out hx.sq) (fun i σ' H' x H'' hi r p y => by
    obtain ⟨rfl, y⟩ := y
    exact hs i x σ' _ y r p) hd⟩
theorem forT {a : Addr} {xs : List V} (bs : List Addr) (Pv : Nat → L2.St → Hp → Prop) [hx : StC K H a xs] [hn : NotIn a bs] (h0 : Pv 0 σ H)
    (hs : ∀ (i : Nat) x σ' H', xs[i]? = some x → Chg bs H H' → Pv i σ' H' → g x σ' H' fun σ2 H2 => tb { D with nx := LI bs H (Pv (i + 1)), ct := LI bs H (Pv (i + 1)), bk := D.nx } σ2 H2)
    (hd : ∀ σ' H', Chg bs H H' → Pv xs.length σ' H' → D.nx σ' H') : rForT K (.ref a) g tb D σ H :=
  ⟨a, rfl, ⟨xs, hx.st⟩, for_feeds fd_tup bs Pv h0 (fun _ r => r.t hn.out hx.st) (fun i σ' H' x H'' hi r p y => by
    obtain ⟨rfl, y⟩ := y
    exact hs i x σ' _ y r p) hd⟩
theorem forZ {a b : Addr} {xs ys : List V} (bs : List Addr) (n : Nat) (Pv : Nat → L2.St → Hp → Prop) [hx : SqC K H a xs] [hy : SqC K H b ys] [hna : NotIn a bs] [hnb : NotIn b bs] (hn : min xs.length ys.length = n) (h0 : Pv 0 σ H)
    (hs : ∀ (i : Nat) c d x σ' H' H'', i < n → xs[i]? = some c → ys[i]? = some d → Chg bs H H' → Pv i σ' H' → Pair H' x H'' c d → g x σ' H'' fun σ2 H2 => tb { D with nx := LI bs H (Pv (i + 1)), ct := LI bs H (Pv (i + 1)), bk := D.nx } σ2 H2)
    (hd : ∀ σ' H', Chg bs H H' → Pv n σ' H' → D.nx σ' H') : rForZ K [.ref a, .ref b] g tb D σ H :=
  ⟨a, b, xs, ys, rfl, hx.sq, hy.sq, for_feeds (fd_zip hn) bs Pv h0 (fun _ r => ⟨r.l hna.out hx.sq, r.l hnb.out hy.sq⟩) (fun i σ' H' x H'' hi r p y => by
    obtain ⟨c, d, h1, h2, y⟩ := y
    exact hs i c d x σ' H' H'' hi h1 h2 r p y) hd⟩
theorem forEL {a : Addr} {xs : List V} (bs : List Addr) (Pv : Nat → L2.St → Hp → Prop) [hx : SqC K H a xs] [hn : NotIn a bs] (h0 : Pv 0 σ H)
    (hs : ∀ (i : Nat) c x σ' H' H'', xs[i]? = some c → Chg bs H H' → Pv i σ' H' → Pair H' x H'' (.int (i : Nat)) c → g x σ' H'' fun σ2 H2 => tb { D with nx := LI bs H (Pv (i + 1)), ct := LI bs H (Pv (i + 1)), bk := D.nx } σ2 H2)
    (hd : ∀ σ' H', Chg bs H H' → Pv xs.length σ' H' → D.nx σ' H') : rForEL K [.ref a] g tb D σ H :=
  ⟨a, xs, rfl, hx.sq, for_feeds fd_enum bs Pv h0 (fun _ r => r.l hn.out hx.sq) (fun i σ' H' x H'' hi r p y => by
    obtain ⟨c, h1, y⟩ := y
    exact hs i c x σ' H' H'' h1 r p y) hd⟩
/-! comprehensions by kind: _F what comes out is F, _A each item is as P tells -/
theorem lc1_F {vs : List Nat} {n : Int} (F : Nat → List V) (hn : -(2 ^ 62) ≤ n ∧ n < 2 ^ 62) [hw : Wipe σ vs τ] (hF : F 0 = []) (hz : ∀ i, i < n.toNat → (F i).length < 100000)
    (hs : ∀ D (i : Nat) H', (i : Int) < n → Nw H D → Ex H H' → At H' D (.lst (F i)) → (F i).length < 100000 → g (.int (i : Int)) τ H' fun σ2 H2 => wipe σ2 vs = τ ∧ tt σ2 H2 fun b H3 =>
      if b = true then te σ2 H3 (rApp D (rW D fun ac H5 => Ex H H5 ∧ ac = F (i + 1))) else rW D (fun ac H5 => Ex H H5 ∧ ac = F (i + 1)) H3)
    (hd : ∀ D H', Nw H D → Ex H H' → At H' D (.lst (F n.toNat)) → Q (.ref D) H') : rLc1 [.int n] g tt te vs σ H Q :=
  ⟨n, rfl, hn.1, hn.2, lc_F (fd_rng (lo := 0)) F hF (fun _ _ => trivial) hz (fun D i H' x H'' hi hD e hp z y => by
    obtain ⟨rfl, rfl⟩ := y
    rw [Int.zero_add]
    exact hs D i _ (by omega) hD e hp z) hd⟩
theorem lc2_F {vs : List Nat} {a n : Int} (F : Nat → List V) (hn : -(2 ^ 62) ≤ a ∧ a < 2 ^ 62 ∧ -(2 ^ 62) ≤ n ∧ n < 2 ^ 62) [hw : Wipe σ vs τ] (hF : F 0 = []) (hz : ∀ i, i < (n - a).toNat → (F i).length < 100000)
    (hs : ∀ D (i : Nat) H', a + (i : Int) < n → Nw H D → Ex H H' → At H' D (.lst (F i)) → (F i).length < 100000 → g (.int (a + (i : Int))) τ H' fun σ2 H2 => wipe σ2 vs = τ ∧ tt σ2 H2 fun b H3 =>
      if b = true then te σ2 H3 (rApp D (rW D fun ac H5 => Ex H H5 ∧ ac = F (i + 1))) else rW D (fun ac H5 => Ex H H5 ∧ ac = F (i + 1)) H3)
    (hd : ∀ D H', Nw H D → Ex H H' → At H' D (.lst (F (n - a).toNat)) → Q (.ref D) H') : rLc2 [.int a, .int n] g tt te vs σ H Q :=
  ⟨a, n, rfl, hn, lc_F (fd_rng (lo := a)) F hF (fun _ _ => trivial) hz (fun D i H' x H'' hi hD e hp z y => by
    obtain ⟨rfl, rfl⟩ := y
    exact hs D i _ (by omega) hD e hp z) hd⟩
theorem lcL_F {vs : List Nat} {a : Addr} {xs : List V} (F : Nat → List V) [hx : SqC K H a xs] [hw : Wipe σ vs τ] (hF : F 0 = []) (hz : ∀ i, i < xs.length → (F i).length < 100000)
    (hs : ∀ D (i : Nat) x H', xs[i]? = some x → Nw H D → Ex H H' → At H' D (.lst (F i)) → (F i).length < 100000 → g x τ H' fun σ2 H2 => wipe σ2 vs = τ ∧ tt σ2 H2 fun b H3 =>
      if b = true then te σ2 H3 (rApp D (rW D fun ac H5 => Ex H H5 ∧ ac = F (i + 1))) else rW D (fun ac H5 => Ex H H5 ∧ ac = F (i + 1)) H3)
    (hd : ∀ D H', Nw H D → Ex H H' → At H' D (.lst (F xs.length)) → Q (.ref D) H') : rLcL K (.ref a) g tt te vs σ H Q :=
  ⟨a, rfl, ⟨xs, hx.sq⟩, lc_F fd_list F hF (fun _ e => e.l hx.sq) hz (fun D i H' x H'' hi hD e hp z y => by
    obtain ⟨rfl, y⟩ := y
    exact hs D i x _ y hD e hp z) hd⟩
theorem lcT_F {vs : List Nat} {a : Addr} {xs : List V} (F : Nat → List V) [hx : StC K H a xs] [hw : Wipe σ vs τ] (hF : F 0 = []) (hz : ∀ i, i < xs.length → (F i).length < 100000)
    (hs : ∀ D (i : Nat) x H', xs[i]? = some x → Nw H D → Ex H H' → At H' D (.lst (F i)) → (F i).length < 100000 → g x τ H' fun σ2 H2 => wipe σ2 vs = τ ∧ tt σ2 H2 fun b H3 =>
      if b = true then te σ2 H3 (rApp D (rW D fun ac H5 => Ex H H5 ∧ ac = F (i + 1))) else rW D (fun ac H5 => Ex H H5 ∧ ac = F (i + 1)) H3)
    (hd : ∀ D H', Nw H D → Ex H H' → At H' D (.lst (F xs.length)) → Q (.ref D) H') : rLcT K (.ref a) g tt te vs σ H Q :=
  ⟨a, rfl, ⟨xs, hx.st⟩, lc_F fd_tup F hF (fun _ e => e.t hx.st) hz (fun D i H' x H'' hi hD e hp z y => by
    obtain ⟨rfl, y⟩ := y
    exact hs D i x _ y hD e hp z) hd⟩
theorem lcE_F {vs : List Nat} {z : Str} (F : Nat → List V) [hw : Wipe σ vs τ] (hF : F 0 = []) (hz : ∀ i, i < z.cps.size → (F i).length < 100000)
    (hs : ∀ D (i : Nat) c x H' H'', i < z.cps.size → z.cps[i]? = some c → Nw H D → Ex H H' → At H' D (.lst (F i)) → (F i).length < 100000 → Pair H' x H'' (.int (i : Nat)) (.str ⟨#[c]⟩) → g x τ H'' fun σ2 H2 => wipe σ2 vs = τ ∧ tt σ2 H2 fun b H3 =>
      if b = true then te σ2 H3 (rApp D (rW D fun ac H5 => Ex H H5 ∧ ac = F (i + 1))) else rW D (fun ac H5 => Ex H H5 ∧ ac = F (i + 1)) H3)
    (hd : ∀ D H', Nw H D → Ex H H' → At H' D (.lst (F z.cps.size)) → Q (.ref D) H') : rLcE [.str z] g tt te vs σ H Q :=
  ⟨z, rfl, lc_F fd_enumS F hF (fun _ _ => trivial) hz (fun D i H' x H'' hi hD e hp zz y => by
    obtain ⟨c, hc, y⟩ := y
    exact hs D i c x H' H'' hi hc hD e hp zz y) hd⟩
theorem lcEL_F {vs : List Nat} {a : Addr} {xs : List V} (F : Nat → List V) [hx : SqC K H a xs] [hw : Wipe σ vs τ] (hF : F 0 = []) (hz : ∀ i, i < xs.length → (F i).length < 100000)
    (hs : ∀ D (i : Nat) c x H' H'', xs[i]? = some c → Nw H D → Ex H H' → At H' D (.lst (F i)) → (F i).length < 100000 → Pair H' x H'' (.int (i : Nat)) c → g x τ H'' fun σ2 H2 => wipe σ2 vs = τ ∧ tt σ2 H2 fun b H3 =>
      if b = true then te σ2 H3 (rApp D (rW D fun ac H5 => Ex H H5 ∧ ac = F (i + 1))) else rW D (fun ac H5 => Ex H H5 ∧ ac = F (i + 1)) H3)
    (hd : ∀ D H', Nw H D → Ex H H' → At H' D (.lst (F xs.length)) → Q (.ref D) H') : rLcEL K [.ref a] g tt te vs σ H Q :=
  ⟨a, xs, rfl, hx.sq, lc_F fd_enum F hF (fun _ e => e.l hx.sq) hz (fun D i H' x H'' hi hD e hp zz y => by
    obtain ⟨c, hc, y⟩ := y
    exact hs D i c x H' H'' hc hD e hp zz y) hd⟩
theorem lcZ_F {vs : List Nat} {a b : Addr} {xs ys : List V} (n : Nat) (F : Nat → List V) [hx : SqC K H a xs] [hy : SqC K H b ys] (hn : min xs.length ys.length = n) [hw : Wipe σ vs τ] (hF : F 0 = []) (hz : ∀ i, i < n → (F i).length < 100000)
    (hs : ∀ D (i : Nat) c d x H' H'', i < n → xs[i]? = some c → ys[i]? = some d → Nw H D → Ex H H' → At H' D (.lst (F i)) → (F i).length < 100000 → Pair H' x H'' c d → g x τ H'' fun σ2 H2 => wipe σ2 vs = τ ∧ tt σ2 H2 fun b H3 =>
      if b = true then te σ2 H3 (rApp D (rW D fun ac H5 => Ex H H5 ∧ ac = F (i + 1))) else rW D (fun ac H5 => Ex H H5 ∧ ac = F (i + 1)) H3)
    (hd : ∀ D H', Nw H D → Ex H H' → At H' D (.lst (F n)) → Q (.ref D) H') : rLcZ K [.ref a, .ref b] g tt te vs σ H Q :=
  ⟨a, b, xs, ys, rfl, hx.sq, hy.sq, lc_F (fd_zip hn) F hF (fun _ e => ⟨e.l hx.sq, e.l hy.sq⟩) hz (fun D i H' x H'' hi hD e hp z y => by
    obtain ⟨c, d, h1, h2, y⟩ := y
    exact hs D i c d x H' H'' hi h1 h2 hD e hp z y) hd⟩
theorem lc1_A {vs : List Nat} {n : Int} (P : V → Prop) (hn : n ≤ 100000 ∧ -100000 ≤ n) [hw : Wipe σ vs τ]
    (hs : ∀ D (i : Nat) acc H', (i : Int) < n → Nw H D → Ex H H' → At H' D (.lst acc) → acc.length < 100000 → g (.int (i : Int)) τ H' fun σ2 H2 => wipe σ2 vs = τ ∧ tt σ2 H2 fun b H3 =>
      if b = true then te σ2 H3 (rApp D (rW D fun ac H5 => Ex H H5 ∧ ∃ v, ac = acc ++ [v] ∧ P v)) else rW D (fun ac H5 => Ex H H5 ∧ ∃ v, ac = acc ++ [v] ∧ P v) H3)
    (hd : ∀ D acc H', Nw H D → Ex H H' → At H' D (.lst acc) → acc.length = n.toNat → (∀ v ∈ acc, P v) → Q (.ref D) H') : rLc1 [.int n] g tt te vs σ H Q :=
  ⟨n, rfl, by omega, by omega, lc_A (fd_rng (lo := 0)) P (fun _ _ => trivial) (by omega) (fun D i acc H' x H'' hi hD e hp z y => by
    obtain ⟨rfl, rfl⟩ := y
    rw [Int.zero_add]
    exact hs D i acc _ (by omega) hD e hp z) hd⟩
theorem lcL_A {vs : List Nat} {a : Addr} {xs : List V} (P : V → Prop) [hx : SqC K H a xs] (hz : xs.length ≤ 100000) [hw : Wipe σ vs τ]
    (hs : ∀ D (i : Nat) x acc H', xs[i]? = some x → Nw H D → Ex H H' → At H' D (.lst acc) → acc.length < 100000 → g x τ H' fun σ2 H2 => wipe σ2 vs = τ ∧ tt σ2 H2 fun b H3 =>
      if b = true then te σ2 H3 (rApp D (rW D fun ac H5 => Ex H H5 ∧ ∃ v, ac = acc ++ [v] ∧ P v)) else rW D (fun ac H5 => Ex H H5 ∧ ∃ v, ac = acc ++ [v] ∧ P v) H3)
    (hd : ∀ D acc H', Nw H D → Ex H H' → At H' D (.lst acc) → acc.length = xs.length → (∀ v ∈ acc, P v) → Q (.ref D) H') : rLcL K (.ref a) g tt te vs σ H Q :=
  ⟨a, rfl, ⟨xs, hx.sq⟩, lc_A fd_list P (fun _ e => e.l hx.sq) hz (fun D i x' H' x H'' hi hD e hp z y => by
    obtain ⟨rfl, y⟩ := y
    exact hs D i x x' _ y hD e hp z) hd⟩
/-- _P: any invariant; what stood stands -/
theorem lcL_P {vs : List Nat} {a : Addr} {xs : List V} (Pv : Addr → Nat → List V → Hp → Prop) [hx : SqC K H a xs] [hw : Wipe σ vs τ] (h0 : ∀ D H1, Nw H D → Ex H H1 → At H1 D (.lst []) → Pv D 0 [] H1)
    (hs : ∀ D (i : Nat) x acc H', xs[i]? = some x → Nw H D → Ex H H' → At H' D (.lst acc) → Pv D i acc H' → g x τ H' fun σ2 H2 => wipe σ2 vs = τ ∧ tt σ2 H2 fun b H3 =>
      if b = true then te σ2 H3 (rApp D (rW D fun ac H5 => Ex H H5 ∧ Pv D (i + 1) ac H5)) else rW D (fun ac H5 => Ex H H5 ∧ Pv D (i + 1) ac H5) H3)
    (hd : ∀ D acc H', Nw H D → Ex H H' → At H' D (.lst acc) → Pv D xs.length acc H' → Q (.ref D) H') : rLcL K (.ref a) g tt te vs σ H Q :=
  ⟨a, rfl, ⟨xs, hx.sq⟩, lc_feeds fd_list [] Pv h0 (fun _ e => Ex.l e hx.sq) (fun D i acc H' x H'' hi hD e hp p y => by
    obtain ⟨rfl, y⟩ := y
    exact hs D i x acc _ y hD e hp p) hd⟩
theorem lc1_P {vs : List Nat} {n : Int} (bs : List Addr) (Pv : Addr → Nat → List V → Hp → Prop) (hn : -(2 ^ 62) ≤ n ∧ n < 2 ^ 62) [hw : Wipe σ vs τ] (h0 : ∀ D H1, Nw H D → Ex H H1 → At H1 D (.lst []) → Pv D 0 [] H1)
    (hs : ∀ D (i : Nat) acc H', (i : Int) < n → Nw H D → Chg bs H H' → At H' D (.lst acc) → Pv D i acc H' → g (.int (i : Int)) τ H' fun σ2 H2 => wipe σ2 vs = τ ∧ tt σ2 H2 fun b H3 =>
      if b = true then te σ2 H3 (rApp D (rW D fun ac H5 => Chg bs H H5 ∧ Pv D (i + 1) ac H5)) else rW D (fun ac H5 => Chg bs H H5 ∧ Pv D (i + 1) ac H5) H3)
    (hd : ∀ D acc H', Nw H D → Chg bs H H' → At H' D (.lst acc) → Pv D n.toNat acc H' → Q (.ref D) H') : rLc1 [.int n] g tt te vs σ H Q :=
  ⟨n, rfl, hn.1, hn.2, lc_feeds (fd_rng (lo := 0)) bs Pv h0 (fun _ _ => trivial) (fun D i acc H' x H'' hi hD e hp p y => by
    obtain ⟨rfl, rfl⟩ := y
    rw [Int.zero_add]
    exact hs D i acc _ (by omega) hD e hp p) hd⟩
theorem g_pair {H H' : Hp} {x a b : V} {u : TGs} {R : L2.St → Hp → Prop} (h : Pair H x H' a b) (q : ∀ T, Nw H T → Ex H H' → At H' T (.tup [a, b]) → u [a, b] σ H' R) : gTup K 2 u x σ H' R := by
  obtain ⟨T, rfl, h1, h2, h3⟩ := h
  exact ⟨T, _, rfl, .inl (.inl h3.eq), rfl, q T h1 h2 h3⟩
end
theorem rep_succ {i : Nat} : (List.replicate i true).map V.bl ++ [V.bl true] = (List.replicate (i + 1) true).map V.bl := by
  rw [List.replicate_succ', List.map_append]
  rfl
theorem rep_succD {i : Nat} {p : Prop} [Decidable p] (h : p) : (List.replicate i true).map V.bl ++ [V.bl (decide p)] = (List.replicate (i + 1) true).map V.bl := by
  rw [decide_eq_true h]
  exact rep_succ

section
variable {K : PySem.W.Frag} {σ : L2.St} {H : Hp} {R : L2.St → Hp → Prop} {v : V} {r : List V} {t : TG} {u : TGs}
instance : Step (gCons t u (v :: r) σ H R) (t v σ H fun σ' H' => u r σ' H' R) := ⟨fun q => ⟨v, r, rfl, q⟩⟩
instance : Step (gNil [] σ H R) (R σ H) := ⟨fun q => ⟨rfl, q⟩⟩
theorem g_gtup {a : Addr} {xs : List V} {n : Nat} [h : StC K H a xs] (hn : xs.length = n) (q : u xs σ H R) : gTup K n u (.ref a) σ H R := ⟨a, xs, rfl, h.st, hn, q⟩
end
theorem g_str {H : Hp} {Q : VK} {i : Int} (h : -(2 ^ 200) < i ∧ i < 2 ^ 200) (q : (Str.ofString (toString i)).length ≤ 1921 → Q (.str (toString i)) H) : rStr [V.int i] H Q := by
  have h2 : i.natAbs.log2 < 1920 := Nat.lt_of_lt_of_le (PySem.Flt.log2_lt_of (k := 200) (by decide) (by omega)) (by decide)
  exact ⟨i, rfl, h2, q (PyProof.Rows.int_text_len_1921 h2)⟩
theorem g_all {K : PySem.W.Frag} {H : Hp} {Q : VK} {a : Addr} {bs : List Bool} [h : SqC K H a (bs.map V.bl)] (q : Q (.bl (bs.all _root_.id)) H) : rAll K [V.ref a] H Q := ⟨a, bs, rfl, h.sq, q⟩
theorem g_allT {K : PySem.W.Frag} {H : Hp} {Q : VK} {a : Addr} {n : Nat} [h : SqC K H a ((List.replicate n true).map V.bl)] (q : Q (.bl true) H) : rAll K [V.ref a] H Q := ⟨a, _, rfl, h.sq, by simpa using q⟩
theorem g_sum {K : PySem.W.Frag} {H : Hp} {Q : VK} {a : Addr} {ns : List Int} [h : SqC K H a (ns.map V.int)] (q : Q (.int ns.sum) H) : rSum K [V.ref a] H Q := ⟨a, ns, rfl, h.sq, q⟩
theorem mulx128 {i j : Int} (h : -(2 ^ 300) < i ∧ i < 2 ^ 300) (h2 : -(2 ^ 300) < j ∧ j < 2 ^ 300) : CMulX i j := mulx_ok (a := 300) (b := 300) (by omega) (by omega) (by decide)
theorem q_int {H : Hp} {Q : VK} {a b : Int} (k : Q (.int a) H) (e : a = b) : Q (.int b) H := e ▸ k
theorem q_bl {H : Hp} {Q : VK} {a b : Bool} (k : Q (.bl a) H) (e : a = b) : Q (.bl b) H := e ▸ k
theorem q_dec {H : Hp} {Q : VK} {p : Prop} {_ : Decidable p} (k : Q (.bl true) H) (e : p) : Q (.bl (decide p)) H := by rw [decide_eq_true e]; exact k
theorem q_decN {H : Hp} {Q : VK} {p : Prop} {_ : Decidable p} (k : Q (.bl false) H) (e : ¬ p) : Q (.bl (decide p)) H := by rw [decide_eq_false e]; exact k
section
variable {K : PySem.W.Frag} {H : Hp} {Q : VK}
theorem g_isi {x c : V} {t u : Value} {b : Bool} (h1 : ClsV c u) (h2 : TyX K H x t) (h3 : PySem.W.kitOne K t u = some b) (q : Q (.bl b) H) : rIsi K [x, c] H Q := ⟨x, c, t, u, b, rfl, h1, h2, h3, q⟩
instance {i : Int} : Step (rIsi K [.int i, .ty "int"] H Q) (Q (.bl true) H) := ⟨g_isi (.ty _) (.base (.int i)) (kit_ty (by decide +kernel))⟩
instance {i : Int} : Step (rIsi K [.int i, .ty "bool"] H Q) (Q (.bl false) H) := ⟨g_isi (.ty _) (.base (.int i)) (kit_ty (by decide +kernel))⟩
instance {i : Bool} : Step (rIsi K [.bl i, .ty "int"] H Q) (Q (.bl true) H) := ⟨g_isi (.ty _) (.base (.bl i)) (kit_ty (by decide +kernel))⟩
instance {i : Bool} : Step (rIsi K [.bl i, .ty "bool"] H Q) (Q (.bl true) H) := ⟨g_isi (.ty _) (.base (.bl i)) (kit_ty (by decide +kernel))⟩
instance : Step (rIsi K [.non, .ty "int"] H Q) (Q (.bl false) H) := ⟨g_isi (.ty _) (.base .non) (kit_ty (by decide +kernel))⟩
instance : Step (rIsi K [.non, .ty "bool"] H Q) (Q (.bl false) H) := ⟨g_isi (.ty _) (.base .non) (kit_ty (by decide +kernel))⟩
instance {z : Str} : Step (rIsi K [.str z, .ty "str"] H Q) (Q (.bl true) H) := ⟨g_isi (.ty _) (.base (.str z)) (kit_ty (by decide +kernel))⟩
theorem g_isL {p : Addr} {xs : List V} [h : At H p (.lst xs)] (q : Q (.bl true) H) : rIsi K [.ref p, .ty "list"] H Q := g_isi (.ty _) (.base (.lst h.eq)) (kit_ty (by decide +kernel)) q
theorem g_isT {p : Addr} {xs : List V} [h : At H p (.tup xs)] (q : Q (.bl true) H) : rIsi K [.ref p, .ty "tuple"] H Q := g_isi (.ty _) (.base (.tup h.eq)) (kit_ty (by decide +kernel)) q
instance (priority := high) : Step (rInt [V.bl true] H Q) (Q (.int 1) H) := ⟨fun q => g_intB q⟩
instance (priority := high) : Step (rInt [V.bl false] H Q) (Q (.int 0) H) := ⟨fun q => g_intB q⟩
instance (priority := high) {p : Prop} [Decidable p] : Step (rInt [V.bl (decide p)] H Q) (Q (.int (if p then 1 else 0)) H) := ⟨fun q => g_intB (by
  by_cases h : p
  · rw [if_pos h] at q
    rw [decide_eq_true h]
    exact q
  · rw [if_neg h] at q
    rw [decide_eq_false h]
    exact q)⟩
end

/-! ### the same with the written part named (within a comprehension it must not speak of the block) -/
section
variable {X : Cx} {K : PySem.W.Frag}
theorem opAddK (h : X.K = K) : OpR X (binaryOp .Add) (rAdd K) := h ▸ opAdd
theorem opMulK (h : X.K = K) : OpR X (binaryOp .Mult) (rMul K) := h ▸ opMul
theorem opEqK (h : X.K = K) (hu : X.A.units + 64 < cLine) : OpR X (compareOp .Eq) (rEqX K) := h ▸ opEq hu
theorem opNeK (h : X.K = K) (hu : X.A.units + 64 < cLine) : OpR X (compareOp .NotEq) (rNeX K) := h ▸ opNe hu
theorem opInK (h : X.K = K) : OpR X (compareOp .In) (rIn K false) := h ▸ op_in_seq
theorem opNotInK (h : X.K = K) : OpR X (compareOp .NotIn) (rIn K true) := h ▸ op_notIn_seq
theorem ixSeqK (h : X.K = K) : IxR X (rIx K) := h ▸ ix_seq
theorem callLenK (h : X.K = K) : CallR X (.builtin "len") (rLen K) := h ▸ callLen
theorem callListOfK (h : X.K = K) : CallR X (.type "list") (rListOf K) := h ▸ callListOf
theorem slAnyK (h : X.K = K) : SlR X (rSlX K) := h ▸ slAny
theorem callSumK (h : X.K = K) (hc : X.calm = true) : CallR X (.builtin "sum") (rSum K) := h ▸ cr_sum hc
theorem callMinK (h : X.K = K) (hc : X.calm = true) : CallR X (.builtin "min") (rMin K) := h ▸ cr_min hc
theorem callMaxK (h : X.K = K) (hc : X.calm = true) : CallR X (.builtin "max") (rMax K) := h ▸ cr_max hc
theorem callAllK (h : X.K = K) (hc : X.calm = true) : CallR X (.builtin "all") (rAll K) := h ▸ cr_all hc
theorem callAnyK (h : X.K = K) (hc : X.calm = true) : CallR X (.builtin "any") (rAny K) := h ▸ cr_any hc
theorem callIsiK (h : X.K = K) : CallR X (.builtin "isinstance") (rIsi K) := h ▸ call_isi
theorem mtIndexK (h : X.K = K) : MtR X "list.index" (rIndex K) := h ▸ mt_index
variable {o e : Expr} {es : List Expr} {to : TE} {t : TA} {name : Str} {apos cpos : Pos} {T id : String} {r : V → List V → Hp → VK → Prop}
theorem pe_bm0K (h : X.K = K) (pa : PlainAttrs T) (slot : Slot T name id) (hty : typeOf (.builtin id) = pure (.type "method_descriptor")) (hm : MtR X id r) (ho : PE X o to)
    (hbase : attributeBase o name X.env (eval o X.env) = eval o X.env := by rfl) (hline : (apos.endLine == cpos.line) = true := by rfl) : PE X (.Call (.Attribute o name apos) [] [] cpos) (tBM0 K T r to) := h ▸ pe_bm0 pa slot hty hm ho hbase hline
theorem pe_bmK (h : X.K = K) (pa : PlainAttrs T) (slot : Slot T name id) (hty : typeOf (.builtin id) = pure (.type "method_descriptor")) (hm : MtR X id r) (ho : PE X o to) (ha : PA X (e :: es) t)
    (hbase : attributeBase o name X.env (eval o X.env) = eval o X.env := by rfl)
    (hfew : ((backTo cpos (starEach (e :: es) X.env)).all (fun x => !x.1) && (backToKw cpos (keywordEach [] X.env)).all (fun x => x.1.isSome)
      && decide ((e :: es).length + ([] : List Keyword).length + (if ([] : List Keyword).isEmpty then 0 else 1) < 30)) = true := by rfl)
    (hline : (apos.endLine == cpos.line) = true := by rfl) (hs : starEach (e :: es) X.env = (false, eval e X.env) :: starEach es X.env := by rfl) (hplain : (backTo cpos (starEach es X.env)).any (·.1) = false := by rfl) :
    PE X (.Call (.Attribute o name apos) (e :: es) [] cpos) (tBM K T r to t) := h ▸ pe_bm pa slot hty hm ho ha hbase hfew hline hs hplain
theorem pi_listK {tg l : Expr} {tl : TE} (h : X.K = K) (hl : PE X l tl) : PI X tg l (iList K tl) := h ▸ pi_list hl
end
theorem cdivW {j : Int} {i : Int} (h : 0 < j) (h2 : j < 2 ^ 200) : CDivW i j := wide_div (b := 200) h (by omega) (by decide) (by decide)

section
variable {K : PySem.W.Frag} {H : Hp} {Q : VK} {lo hi : Option Int}
theorem g_slL {p : Addr} {xs : List V} [h : SqC K H p xs] (q : ∀ p H2, Nw H p → Ex H H2 → At H2 p (.lst (cutV xs lo hi)) → Q (.ref p) H2) : rSlX K (.ref p) lo hi H Q :=
  .inl ⟨p, xs, rfl, h.sq, g_new q⟩
theorem g_slS {z : Str} (h : z.length ≤ 100000) (q : Q (.str (cutS z lo hi)) H) : rSlX K (.str z) lo hi H Q :=
  .inr (.inl ⟨z, rfl, Nat.le_trans h (by decide), q⟩)
theorem g_listOf {p : Addr} {xs : List V} [h : SqC K H p xs] (q : ∀ p H2, Nw H p → Ex H H2 → At H2 p (.lst xs) → Q (.ref p) H2) :
    rListOf K [V.ref p] H Q := ⟨p, xs, rfl, .inl h.sq, g_new q⟩
end
/-! ### texts over 0 and 1 -/
def bc (b : Bool) : Nat := if b then 49 else 48
theorem bc_inj {a b : Bool} (h : bc a = bc b) : a = b := by cases a <;> cases b <;> simp_all [bc]
def tx (l : List Bool) : Str := ⟨(l.map bc).toArray⟩
theorem tx_list (l : List Bool) : (tx l).cps.toList = l.map bc := by simp [tx]
theorem tx_len (l : List Bool) : (tx l).length = l.length := by simp [tx, Str.length]
theorem map_bc_inj : ∀ {a b : List Bool}, a.map bc = b.map bc → a = b
  | [], [], _ => rfl
  | [], _ :: _, h => by simp at h
  | _ :: _, [], h => by simp at h
  | x :: a, y :: b, h => by
    simp only [List.map_cons, List.cons.injEq] at h
    rw [bc_inj h.1, map_bc_inj h.2]
theorem str_ext {a b : Str} (h : a.cps.toList = b.cps.toList) : a = b := by
  obtain ⟨a⟩ := a
  obtain ⟨b⟩ := b
  congr 1
  exact Array.toList_inj.mp h
theorem tx_inj {a b : List Bool} (h : tx a = tx b) : a = b := map_bc_inj (by rw [← tx_list, ← tx_list, h])
theorem tx_eq {a b : List Bool} : tx a = tx b ↔ a = b := ⟨tx_inj, fun h => by rw [h]⟩
theorem tx_nil : tx [] = ("" : Str) := rfl
theorem tx_0 : tx [false] = ("0" : Str) := rfl
theorem tx_1 : tx [true] = ("1" : Str) := rfl
theorem tx_01 : tx [false, true] = ("01" : Str) := rfl
theorem tx_app (a b : List Bool) : tx a ++ tx b = tx (a ++ b) := by
  apply str_ext
  show ((tx a).cps ++ (tx b).cps).toList = _
  rw [Array.toList_append, tx_list, tx_list, tx_list, List.map_append]
theorem tx_rep1 (b : Bool) (n : Nat) : repS (tx [b]) n = tx (List.replicate n b) := by
  apply str_ext
  rw [tx_list]
  unfold repS
  simp only [tx_list, List.map_cons, List.map_nil, List.map_replicate]
  induction n with
  | zero => rfl
  | succ n ih => rw [List.replicate_succ, List.flatten_cons, List.replicate_succ]; simpa using ih
theorem tx_one (b : Bool) : tx [b] = ⟨#[bc b]⟩ := rfl
theorem tx_at {l : List Bool} {i c : Nat} (h : (tx l).cps[i]? = some c) : ∃ b, l[i]? = some b ∧ (⟨#[c]⟩ : Str) = tx [b] := by
  have h2 : (l.map bc)[i]? = some c := by rw [← tx_list, Array.getElem?_toList]; exact h
  rw [List.getElem?_map] at h2
  cases e : l[i]? with
  | none => rw [e] at h2; simp at h2
  | some b =>
    rw [e] at h2
    simp at h2
    exact ⟨b, rfl, by rw [tx_one, h2]⟩
theorem tx_atI {l : List Bool} {i : Int} {b : Bool} (h : atI l i = some b) : atI (tx l).cps.toList i = some (bc b) := by
  rw [tx_list]
  unfold atI at *
  rw [List.length_map]
  cases e : ixN l.length i with
  | none => rw [e] at h; simp at h
  | some j =>
    rw [e] at h
    show (l.map bc)[j]? = _
    rw [List.getElem?_map]
    have h' : l[j]? = some b := h
    rw [h']
    rfl
theorem tx_cut (l : List Bool) (lo hi : Option Int) : cutS (tx l) lo hi = tx ((l.drop (HT.sIx l.length 0 lo)).take (HT.sIx l.length l.length hi - HT.sIx l.length 0 lo)) := by
  apply str_ext
  unfold cutS
  rw [tx_list, tx_list, tx_len, List.map_take, List.map_drop]
theorem cnt_tx (b : Bool) (l : List Bool) : PyProof.Rows.cnt (bc b) (l.map bc) = (l.count b : Nat) := by
  induction l with
  | nil => rfl
  | cons x l ih =>
    rw [List.map_cons, PyProof.Rows.cnt_cons, ih, List.count_cons]
    cases b <;> cases x <;> simp [bc] <;> omega
theorem tx_count (l : List Bool) (b : Bool) : Txt.count (tx l) (tx [b]) = (l.count b : Nat) := by
  rw [← cnt_tx, ← tx_list]
  exact PyProof.Rows.count_is (tx l) (bc b)
theorem strSub_list (x : Str) (i j : Nat) : (Builtin.Str.strSub x i j).cps.toList = (x.cps.toList.drop i).take (j - i) := by
  unfold Builtin.Str.strSub
  rw [Array.toList_extract, List.extract_eq_take_drop]
theorem drop_tw {α : Type} (p : α → Bool) : ∀ l : List α, l.drop (l.takeWhile p).length = l.dropWhile p
  | [] => rfl
  | a :: r => by
    rw [List.takeWhile_cons, List.dropWhile_cons]
    split
    · rw [List.length_cons, List.drop_succ_cons, drop_tw p r]
    · rfl
theorem tx_lstrip0 (l : List Bool) : Txt.lstripChars (tx l) (tx [false]) = tx (l.dropWhile (! ·)) := by
  apply str_ext
  unfold Txt.lstripChars
  rw [PyProof.Rows.stripBy_eq, strSub_list, tx_list, tx_list]
  have hp : ∀ b, (tx [false]).cps.contains (bc b) = !b := by intro b; cases b <;> simp [tx, bc]
  have e1 : PySem.stripLo (tx [false]).cps.contains true (tx l) = (l.takeWhile (! ·)).length := by
    unfold PySem.stripLo
    simp only [if_true]
    rw [tx_list, List.takeWhile_map, List.length_map]
    congr 2
    funext b
    exact hp b
  have e2 : ∀ lo, PySem.stripHi (tx [false]).cps.contains false (tx l) lo = l.length := by
    intro lo
    unfold PySem.stripHi
    simp [tx_len]
  rw [e1, e2, ← List.map_drop, drop_tw, List.take_of_length_le]
  rw [List.length_map, ← drop_tw, List.length_drop]
  exact Nat.le_refl _
theorem tx_strip01 (l : List Bool) : Txt.stripChars (tx l) (tx [false, true]) = tx [] := by
  apply str_ext
  unfold Txt.stripChars
  rw [PyProof.Rows.stripBy_eq, strSub_list, tx_list]
  have hp : ∀ b, (tx [false, true]).cps.contains (bc b) = true := by intro b; cases b <;> simp [tx, bc]
  have e1 : PySem.stripLo (tx [false, true]).cps.contains true (tx l) = l.length := by
    unfold PySem.stripLo
    simp only [if_true]
    rw [tx_list, List.takeWhile_map, List.length_map]
    congr 1
    have hp' : ((tx [false, true]).cps.contains ∘ bc) = fun _ => true := by funext b; exact hp b
    rw [hp']
    clear hp hp'
    induction l with
    | nil => rfl
    | cons a l ih => rw [List.takeWhile_cons, if_pos rfl, ih]
  rw [e1, ← List.map_drop, List.drop_length, tx_list]
  simp
theorem tx_starts (l m : List Bool) : Txt.startswith (tx l) (tx m) = (l.take m.length == m) := by
  unfold Txt.startswith
  rw [tx_len, tx_len, Nat.zero_add]
  have e : Builtin.Str.subAt (tx l) (tx m) 0 = (l.take m.length == m) := by
    rw [Bool.eq_iff_iff]
    unfold Builtin.Str.subAt
    rw [beq_iff_eq, beq_iff_eq, ← Array.toList_inj, Array.toList_extract, List.extract_eq_take_drop, tx_list, tx_list, tx_len]
    simp only [List.drop_zero, Nat.zero_add, Nat.sub_zero]
    rw [← List.map_take]
    exact ⟨map_bc_inj, fun h => by rw [h]⟩
  rw [e]
  by_cases h : m.length ≤ l.length
  · simp [h]
  · have : ¬ (l.take m.length = m) := by
      intro q
      have := congrArg List.length q
      rw [List.length_take] at this
      omega
    simp [h, this]
theorem tx_join (ls : List (List Bool)) : Txt.join (tx []) (ls.map tx) = tx ls.flatten := by
  apply str_ext
  rw [tx_list]
  unfold Txt.join Builtin.Str.glued
  have h : ∀ (r : List (List Bool)) (acc : Array Nat), ((r.map tx).foldl (fun acc p => acc ++ (tx []).cps ++ p.cps) acc).toList = acc.toList ++ (r.flatten).map bc := by
    intro r
    induction r with
    | nil => intro acc; simp
    | cons x r ih =>
      intro acc
      rw [List.map_cons, List.foldl_cons, ih]
      simp [tx]
  cases ls with
  | nil => rfl
  | cons x r =>
    simp only [List.map_cons, List.drop_succ_cons, List.drop_zero, List.headD_cons]
    rw [h, tx_list]
    simp
/-! ### steps over texts of 0 and 1 -/
def rCnt : V → List V → Hp → VK → Prop := fun x xs H Q => ∃ a b, x = .str a ∧ xs = [.str b] ∧ Q (.int (Txt.count a b)) H
def rStarts : V → List V → Hp → VK → Prop := fun x xs H Q => ∃ a b, x = .str a ∧ xs = [.str b] ∧ Q (.bl (Txt.startswith a b)) H
def rStripC : V → List V → Hp → VK → Prop := fun x xs H Q => ∃ a b, x = .str a ∧ xs = [.str b] ∧ a.length ≤ sizeLine ∧ Q (.str (Txt.stripChars a b)) H
def rLstripC : V → List V → Hp → VK → Prop := fun x xs H Q => ∃ a b, x = .str a ∧ xs = [.str b] ∧ a.length ≤ sizeLine ∧ Q (.str (Txt.lstripChars a b)) H
def rJoin (K : PySem.W.Frag) : V → List V → Hp → VK → Prop := fun x xs H Q => ∃ a p, ∃ ys : List Str, x = .str a ∧ xs = [.ref p] ∧ (SqL K H p (ys.map V.str) ∨ SqT K H p (ys.map V.str)) ∧
    (ys.map (·.length)).sum + ys.length * a.length ≤ 16777216 ∧ Q (.str (Txt.join a ys)) H
section
variable {X : Cx} {K : PySem.W.Frag}
theorem mtCount : MtR X "str.count" rCnt := mt_count
theorem mtStarts : MtR X "str.startswith" rStarts := mt_startswith
theorem mtStripC : MtR X "str.strip" rStripC := mt_stripChars
theorem mtLstripC : MtR X "str.lstrip" rLstripC := mt_lstripChars
theorem mtJoinK (h : X.K = K) : MtR X "str.join" (rJoin K) := h ▸ mt_join
end
section
variable {K : PySem.W.Frag} {σ : L2.St} {H : Hp} {Q : VK} {l m : List Bool} {b : Bool}
theorem szT {n : Nat} (h : l.length ≤ n) (hn : n ≤ 100000 := by decide) : (tx l).length ≤ 100000 := by rw [tx_len]; omega
instance (priority := high) : Step (tC (.str ("0" : Str)) σ H Q) (Q (.str (tx [false])) H) := ⟨fun q => q⟩
instance (priority := high) : Step (tC (.str ("1" : Str)) σ H Q) (Q (.str (tx [true])) H) := ⟨fun q => q⟩
instance (priority := high) : Step (tC (.str ("" : Str)) σ H Q) (Q (.str (tx [])) H) := ⟨fun q => q⟩
instance (priority := high) : Step (tC (.str ("01" : Str)) σ H Q) (Q (.str (tx [false, true])) H) := ⟨fun q => q⟩
theorem g_addT (h : l.length + m.length ≤ 100000) (q : Q (.str (tx (l ++ m))) H) : rAdd K (.str (tx l)) (.str (tx m)) H Q := g_addS (by rw [tx_len, tx_len]; exact h) (by rw [tx_app]; exact q)
theorem g_mulT {n : Int} (h : n ≤ 100000 ∧ -100000 ≤ n) (q : Q (.str (tx (List.replicate n.toNat b))) H) : rMul K (.str (tx [b])) (.int n) H Q := by
  refine .inr (.inr (.inl ⟨tx [b], n, rfl, rfl, ⟨by omega, by omega, ?_⟩, ?_⟩))
  · rw [tx_len, List.length_singleton]; omega
  · rw [tx_rep1]; exact q
theorem g_lenT (h : l.length ≤ 100000) (q : Q (.int (l.length : Nat)) H) : rLen K [.str (tx l)] H Q := g_len (len_s (by rw [tx_len]; exact h)) (by rw [tx_len]; exact q)
instance (priority := high) : Step (rEqX K (.str (tx l)) (.str (tx m)) H Q) (Q (.bl (decide (l = m))) H) := ⟨fun q => g_eqS (by
  by_cases h : l = m
  · rw [decide_eq_true (tx_eq.mpr h)]; rw [decide_eq_true h] at q; exact q
  · rw [decide_eq_false (fun e => h (tx_inj e))]; rw [decide_eq_false h] at q; exact q)⟩
instance (priority := high) : Step (rNeX K (.str (tx l)) (.str (tx m)) H Q) (Q (.bl (!decide (l = m))) H) := ⟨fun q => g_neS (by
  by_cases h : l = m
  · rw [decide_eq_true (tx_eq.mpr h)]; rw [decide_eq_true h] at q; exact q
  · rw [decide_eq_false (fun e => h (tx_inj e))]; rw [decide_eq_false h] at q; exact q)⟩
instance : Step (rCnt (.str (tx l)) [.str (tx [b])] H Q) (Q (.int (l.count b : Nat)) H) := ⟨fun q => ⟨_, _, rfl, rfl, by rw [tx_count]; exact q⟩⟩
instance : Step (rStarts (.str (tx l)) [.str (tx m)] H Q) (Q (.bl (l.take m.length == m)) H) := ⟨fun q => ⟨_, _, rfl, rfl, by rw [tx_starts]; exact q⟩⟩
theorem g_lstrip0 (h : l.length ≤ 100000) (q : Q (.str (tx (l.dropWhile (! ·)))) H) : rLstripC (.str (tx l)) [.str (tx [false])] H Q :=
  ⟨_, _, rfl, rfl, Nat.le_trans (szT h) (by decide), by rw [tx_lstrip0]; exact q⟩
theorem g_strip01 (h : l.length ≤ 100000) (q : Q (.str (tx [])) H) : rStripC (.str (tx l)) [.str (tx [false, true])] H Q :=
  ⟨_, _, rfl, rfl, Nat.le_trans (szT h) (by decide), by rw [tx_strip01]; exact q⟩
theorem g_joinT {p : Addr} {ls : List (List Bool)} [hp : SqC K H p (ls.map fun l => V.str (tx l))] (hz : ls.flatten.length ≤ 100000) (q : Q (.str (tx ls.flatten)) H) : rJoin K (.str (tx [])) [.ref p] H Q := by
  refine ⟨tx [], p, ls.map tx, rfl, rfl, .inl (by rw [List.map_map]; exact hp.sq), ?_, by rw [tx_join]; exact q⟩
  rw [List.map_map, tx_len, List.length_nil, Nat.mul_zero, Nat.add_zero]
  have e : (ls.map (Str.length ∘ tx)).sum = ls.flatten.length := by
    rw [List.length_flatten]
    congr 1
    apply List.map_congr_left
    intro a _
    exact tx_len a
  have e2 : (ls.map ((fun x => x.length) ∘ tx)).sum = ls.flatten.length := e
  rw [e2]
  omega
theorem g_ixTx {i : Int} (hz : l.length ≤ 100000) (h : atI l i = some b) (q : Q (.str (tx [b])) H) : rIx K (.str (tx l)) (.int i) H Q :=
  .inr (.inr ⟨tx l, i, bc b, rfl, rfl, Nat.le_trans (szT hz) (by decide), tx_atI h, q⟩)
theorem atI_nat {α : Type} {l : List α} {n : Nat} {x : α} (h : l[n]? = some x) : atI l (n : Int) = some x := by
  unfold atI
  have hl := (List.getElem?_eq_some_iff.mp h).1
  have e : ixN l.length (n : Int) = some n := by
    unfold ixN
    rw [if_pos (by omega), if_pos (by omega)]
    simp
  rw [e]
  exact h
theorem g_slT {lo hi : Option Int} (h : l.length ≤ 100000) (q : Q (.str (tx ((l.drop (HT.sIx l.length 0 lo)).take (HT.sIx l.length l.length hi - HT.sIx l.length 0 lo)))) H) : rSlX K (.str (tx l)) lo hi H Q :=
  g_slS (szT h) (by rw [tx_cut]; exact q)
theorem tx_char {i c : Nat} (h : (tx l).cps[i]? = some c) : ∃ b, l[i]? = some b ∧ (⟨#[c]⟩ : Str) = tx [b] := tx_at h
theorem tx_size : (tx l).cps.size = l.length := tx_len l
end
theorem of_all {α : Type} {f : α → V} : ∀ {acc : List V}, (∀ v ∈ acc, ∃ x, v = f x) → ∃ xs : List α, acc = xs.map f
  | [], _ => ⟨[], rfl⟩
  | v :: r, h => by
    obtain ⟨x, hx⟩ := h v (List.mem_cons_self ..)
    obtain ⟨xs, e⟩ := of_all (fun u hu => h u (List.mem_cons_of_mem _ hu))
    exact ⟨x :: xs, by rw [hx, e]; rfl⟩
theorem take_snoc {α : Type} {l : List α} {i : Nat} {x : α} (h : l[i]? = some x) : l.take (i + 1) = l.take i ++ [x] := by
  rw [List.take_add_one, h]
  rfl
theorem take_map_snoc {α β : Type} {l : List α} {f : α → β} {i : Nat} {x : α} (h : l[i]? = some x) : (l.take i).map f ++ [f x] = (l.take (i + 1)).map f := by
  rw [take_snoc h, List.map_append]
  rfl
theorem map_at {α β : Type} {l : List α} {f : α → β} {i : Nat} {y : β} (h : (l.map f)[i]? = some y) : ∃ x, l[i]? = some x ∧ y = f x := by
  rw [List.getElem?_map] at h
  cases e : l[i]? with
  | none => rw [e] at h; simp at h
  | some x => rw [e] at h; simp at h; exact ⟨x, rfl, h.symm⟩
theorem g_cat {K : PySem.W.Frag} {H : Hp} {Q : VK} {l b : Addr} {xs zs : List V} [h1 : At H l (.lst xs)] [h2 : At H b (.lst zs)] (hz : xs.length + zs.length ≤ 100000) (q : ∀ p H2, Nw H p → Ex H H2 → At H2 p (.lst (xs ++ zs)) → Q (.ref p) H2) : rAdd K (.ref l) (.ref b) H Q :=
  .inr (.inr (.inl ⟨l, b, xs, zs, rfl, rfl, h1.eq, h2.eq, Nat.le_trans hz (by decide), g_new q⟩))
section
variable {X : Cx} {K : PySem.W.Frag} {e e2 : Expr} {ta : TA} {p pos tpos : Pos} {elts : List Expr} {kk : Nat}
theorem pi_zipK (h : X.K = K) (hg : Gl X "zip") (hm : X.mg "zip" = none) (ha : PA X [e, e2] ta)
    (hs : starEach [e, e2] X.env = (false, eval e X.env) :: starEach [e2] X.env := by rfl) (hpl : (backTo pos (starEach [e2] X.env)).any (·.1) = false := by rfl) :
    PI X (.Tuple elts kk tpos) (.Call (.Name "zip" p) [e, e2] [] pos) (iZip K ta) := h ▸ pi_zip hg hm ha hs hpl
theorem pi_enumK (h : X.K = K) (hg : Gl X "enumerate") (hm : X.mg "enumerate" = none) (ha : PA X [e] ta) (hs : starEach [e] X.env = [(false, eval e X.env)] := by rfl) :
    PI X (.Tuple elts kk tpos) (.Call (.Name "enumerate" p) [e] [] pos) (iEnum K ta) := h ▸ pi_enum hg hm ha hs
end
section
variable {K : PySem.W.Frag} {H : Hp} {Q : VK} {p : Addr} {xs acc : List V} {R : Prop}
instance [h : SqC K H p xs] : Step (rLen K [.ref p] H Q) (Q (.int (xs.length : Nat)) H) := ⟨g_len len_l⟩
instance (priority := high) {α : Type} {ns : List α} {f : α → V} [h : SqC K H p (ns.map f)] : Step (rLen K [.ref p] H Q) (Q (.int (ns.length : Nat)) H) := ⟨fun q => g_len len_l (by rw [List.length_map]; exact q)⟩
instance [h : StC K H p xs] : Step (rLen K [.ref p] H Q) (Q (.int (xs.length : Nat)) H) := ⟨g_len len_t⟩
instance [h : SqC K H p xs] : Step (tyV K "list" (.ref p) H ∧ R) R := ⟨g_tyL⟩
instance {P : List V → Hp → Prop} {D : Addr} [h : At H D (.lst acc)] : Step (rW D P H) (P acc H) := ⟨g_rW⟩
instance [h : At H p (.lst xs)] : Step (rIsi K [.ref p, .ty "list"] H Q) (Q (.bl true) H) := ⟨g_isL⟩
instance [h : At H p (.tup xs)] : Step (rIsi K [.ref p, .ty "tuple"] H Q) (Q (.bl true) H) := ⟨g_isT⟩
end
theorem cut1 {α : Type} {ds : List α} {f : α → V} : cutV (ds.map f) (some 1) none = (ds.drop 1).map f := by
  unfold cutV
  rw [show (some (1 : Int)) = some ((1 : Nat) : Int) from rfl, HT.sIx_nat, HT.sIx_none, List.length_map, List.map_drop]
  by_cases h : 1 ≤ ds.length
  · rw [Nat.min_eq_left h, List.take_of_length_le]
    simp
  · have e : ds = [] := List.length_eq_zero_iff.mp (by omega)
    subst e
    rfl
/-! ### lists and tuples of ints, compared -/
class IntsC (xs : List V) (ns : outParam (List Int)) : Prop where
  eq : xs = ns.map V.int
instance : IntsC [] [] := ⟨rfl⟩
instance {i : Int} {xs : List V} {ns : List Int} [h : IntsC xs ns] : IntsC (.int i :: xs) (i :: ns) := ⟨by rw [h.eq]; rfl⟩
instance {ns : List Int} : IntsC (ns.map V.int) ns := ⟨rfl⟩
instance {xs ys : List V} {ns ms : List Int} [h : IntsC xs ns] [k : IntsC ys ms] : IntsC (xs ++ ys) (ns ++ ms) := ⟨by rw [h.eq, k.eq, List.map_append]⟩
theorem dpInts {K : PySem.W.Frag} {H : Hp} : ∀ ns : List Int, DpAll K H (ns.map V.int) (ns.map PyData.int)
  | [] => .nil
  | n :: r => .cons (.int n) (dpInts r)
theorem eqInts : ∀ ns ms : List Int, PyData.eqvAll (ns.map PyData.int) (ms.map PyData.int) = decide (ns = ms)
  | [], [] => by simp [PyData.eqvAll]
  | [], _ :: _ => by simp [PyData.eqvAll]
  | _ :: _, [] => by simp [PyData.eqvAll]
  | n :: r, m :: t => by
    rw [List.map_cons, List.map_cons, PyData.eqvAll, eqInts r t]
    show ((n == m) && decide (r = t)) = _
    by_cases h : n = m <;> by_cases k : r = t <;> simp [h, k]
theorem layInts : ∀ ns : List Int, PyData.canLayAll0 (ns.map PyData.int) = true
  | [] => rfl
  | n :: r => by rw [List.map_cons, PyData.canLayAll0, layInts r]; rfl
theorem depInts : ∀ ns : List Int, PyData.depthAll (ns.map PyData.int) = 0
  | [] => rfl
  | n :: r => by rw [List.map_cons, PyData.depthAll, depInts r]; rfl
theorem shL (ns : List Int) : SeqAt.shaped (.list (ns.map PyData.int)) = true := by
  unfold SeqAt.shaped
  rw [PyData.canLay0, PyData.depth, layInts, depInts]
  rfl
theorem shT (ns : List Int) : SeqAt.shaped (.tuple (ns.map PyData.int)) = true := by
  unfold SeqAt.shaped
  rw [PyData.canLay0, PyData.depth, layInts, depInts]
  rfl
section
variable {K : PySem.W.Frag} {H : Hp} {Q : VK} {p q : Addr} {xs ys : List V} {ns ms : List Int}
instance [h : SqC K H p xs] [k : SqC K H q ys] [a : IntsC xs ns] [b : IntsC ys ms] : Step (rEqX K (.ref p) (.ref q) H Q) (Q (.bl (decide (ns = ms))) H) := ⟨fun z =>
  .inr ⟨_, _, .lst h.sq (by rw [a.eq]; exact dpInts ns), .lst k.sq (by rw [b.eq]; exact dpInts ms), shL ns, shL ms, by rw [PyData.eqv, eqInts]; exact z⟩⟩
instance [h : SqC K H p xs] [k : SqC K H q ys] [a : IntsC xs ns] [b : IntsC ys ms] : Step (rNeX K (.ref p) (.ref q) H Q) (Q (.bl (!decide (ns = ms))) H) := ⟨fun z =>
  .inr ⟨_, _, .lst h.sq (by rw [a.eq]; exact dpInts ns), .lst k.sq (by rw [b.eq]; exact dpInts ms), shL ns, shL ms, by rw [PyData.eqv, eqInts]; exact z⟩⟩
instance [h : StC K H p xs] [k : StC K H q ys] [a : IntsC xs ns] [b : IntsC ys ms] : Step (rEqX K (.ref p) (.ref q) H Q) (Q (.bl (decide (ns = ms))) H) := ⟨fun z =>
  .inr ⟨_, _, .tup h.st (by rw [a.eq]; exact dpInts ns), .tup k.st (by rw [b.eq]; exact dpInts ms), shT ns, shT ms, by rw [PyData.eqv, eqInts]; exact z⟩⟩
instance [h : StC K H p xs] [k : StC K H q ys] [a : IntsC xs ns] [b : IntsC ys ms] : Step (rNeX K (.ref p) (.ref q) H Q) (Q (.bl (!decide (ns = ms))) H) := ⟨fun z =>
  .inr ⟨_, _, .tup h.st (by rw [a.eq]; exact dpInts ns), .tup k.st (by rw [b.eq]; exact dpInts ms), shT ns, shT ms, by rw [PyData.eqv, eqInts]; exact z⟩⟩
end
theorem cutTo {α : Type} {ds : List α} {f : α → V} {n : Nat} : cutV (ds.map f) none (some (n : Int)) = (ds.take n).map f := by
  unfold cutV
  rw [HT.sIx_nat, HT.sIx_none, List.length_map, List.map_take, List.drop_zero, Nat.sub_zero]
  by_cases h : n ≤ ds.length
  · rw [Nat.min_eq_left h]
  · rw [Nat.min_eq_right (by omega), List.take_of_length_le (by simp), List.take_of_length_le (by simp; omega)]
theorem getD_mem {α : Type} {ns : List α} {i : Nat} {d : α} (h : i < ns.length) : ns.getD i d ∈ ns := by
  rw [List.getD_eq_getElem?_getD, List.getElem?_eq_getElem h, Option.getD_some]
  exact List.getElem_mem h
theorem getD_at {α : Type} {ns : List α} {i : Nat} {x d : α} (h : ns[i]? = some x) : ns.getD i d = x := by
  rw [List.getD_eq_getElem?_getD, h, Option.getD_some]
/-! ### xs[::-1], xs[k] = v, i in xs -/
section
variable {X : Cx} {K : PySem.W.Frag}
theorem pe_revLK (h : X.K = K) {e : Expr} {te : TE} {k : Nat} {p1 p2 p3 pos : Pos} (he : PE X e te) : PE X (.Subscript e (.Slice none none (some (.UnaryOp .USub (.Constant (.int 1) k p1) p2)) p3) pos) (tRevL K te) := h ▸ pe_revL he
variable {σ : L2.St} {H : Hp} {Q : VK} {p : Addr} {xs : List V} {ns : List Int} {te : TE}
def rRevL (K : PySem.W.Frag) (x : V) (H1 : Hp) (Q : VK) : Prop := ∃ a xs, x = .ref a ∧ SqL K H1 a xs ∧ ∀ p, H1 p = none → Q (.ref p) (upd H1 p (.lst xs.reverse))
instance : Step (tRevL K te σ H Q) (te σ H fun x H1 => rRevL K x H1 Q) := ⟨fun q => q⟩
theorem g_revL [h : SqC K H p xs] (q : ∀ p2 H2, Nw H p2 → Ex H H2 → At H2 p2 (.lst xs.reverse) → Q (.ref p2) H2) : rRevL K (.ref p) H Q := ⟨p, xs, rfl, h.sq, g_new q⟩
theorem ixN_nat {n i : Nat} (h : i < n) : ixN n (i : Int) = some i := by
  unfold ixN
  rw [if_pos (by omega), if_pos (by omega)]
  simp
theorem g_setI {k : Int} {v : Int} {R : Hp → Prop} [h : At H p (.lst (ns.map V.int))] (h0 : 0 ≤ k) (h1 : k < (ns.length : Int)) (q : ∀ H2, ExB p H H2 → At H2 p (.lst ((ns.set k.toNat v).map V.int)) → R H2) : rSetL (.ref p) (.int k) (.int v) H R := by
  obtain ⟨j, rfl⟩ : ∃ j : Nat, k = (j : Int) := ⟨k.toNat, by omega⟩
  refine g_set (j := j) (ixN_nat (by rw [List.length_map]; omega)) fun H2 e hp => q H2 e ?_
  rw [Int.toNat_natCast, List.map_set]
  exact hp
theorem inV_int {i : Int} : ∀ ns : List Int, inV (.int i) (ns.map V.int) = decide (i ∈ ns)
  | [] => by simp [inV]
  | n :: r => by
    have ih := inV_int (i := i) r
    unfold inV at *
    rw [List.map_cons, List.any_cons, ih]
    show ((n == i) || decide (i ∈ r)) = _
    rw [Bool.eq_iff_iff]
    simp only [Bool.or_eq_true, beq_iff_eq, decide_eq_true_eq, List.mem_cons]
    exact ⟨fun h => h.imp Eq.symm _root_.id, fun h => h.imp Eq.symm _root_.id⟩
theorem flat_ints : ∀ ns : List Int, (ns.map V.int).all flatV = true
  | [] => rfl
  | n :: r => by rw [List.map_cons, List.all_cons, flat_ints r]; rfl
instance {i : Int} [h : SqC K H p (ns.map V.int)] : Step (rIn K false (.int i) (.ref p) H Q) (Q (.bl (decide (i ∈ ns))) H) := ⟨fun q => ⟨p, _, rfl, .inl h.sq, rfl, flat_ints ns, by rw [if_neg Bool.false_ne_true, inV_int]; exact q⟩⟩
instance {i : Int} [h : SqC K H p (ns.map V.int)] : Step (rIn K true (.int i) (.ref p) H Q) (Q (.bl (!decide (i ∈ ns))) H) := ⟨fun q => ⟨p, _, rfl, .inl h.sq, rfl, flat_ints ns, by rw [if_pos rfl, inV_int]; exact q⟩⟩
theorem g_ixN {n : Nat} {v : V} [h : SqC K H p xs] (a : xs[n]? = some v) (q : Q v H) : rIx K (.ref p) (.int (n : Nat)) H Q := g_ixL (atI_nat a) q
theorem q_true {b : Bool} (k : Q (.bl b) H) (h : b = true) : Q (.bl true) H := h ▸ k
theorem q_false {b : Bool} (k : Q (.bl b) H) (h : b = false) : Q (.bl false) H := h ▸ k
end
theorem q_dec' {H : Hp} {Q : VK} {p : Prop} {_ : Decidable p} (k : Q (.bl (decide p)) H) (h : p) : Q (.bl true) H := by rw [decide_eq_true h] at k; exact k
theorem q_decN' {H : Hp} {Q : VK} {p : Prop} {_ : Decidable p} (k : Q (.bl (decide p)) H) (h : ¬ p) : Q (.bl false) H := by rw [decide_eq_false h] at k; exact k
theorem for1n {σ : L2.St} {H : Hp} {D : Ends} {tb : TS} {g : TG} {n : Int} (bs : List Addr) (Pv : Int → Nat → L2.St → Hp → Prop) (hn : -(2 ^ 62) ≤ n ∧ n < 2 ^ 62) (h0 : Pv n 0 σ H)
    (hs : ∀ (i : Nat) σ' H', (i : Int) < n → Chg bs H H' → Pv n i σ' H' → g (.int (i : Int)) σ' H' fun σ2 H2 => tb { D with nx := LI bs H (Pv n (i + 1)), ct := LI bs H (Pv n (i + 1)), bk := D.nx } σ2 H2)
    (hd : ∀ σ' H', Chg bs H H' → Pv n n.toNat σ' H' → D.nx σ' H') : rFor1 [.int n] g tb D σ H := for1 bs (Pv n) hn h0 hs hd
theorem cutFrom {α : Type} {ds : List α} {f : α → V} {n : Nat} : cutV (ds.map f) (some (n : Int)) none = (ds.drop n).map f := by
  unfold cutV
  rw [HT.sIx_nat, HT.sIx_none, List.length_map, List.map_drop]
  by_cases h : n ≤ ds.length
  · rw [Nat.min_eq_left h, List.take_of_length_le]
    simp
  · rw [Nat.min_eq_right (by omega), Nat.sub_self, List.take_zero, List.drop_eq_nil_of_le (by simp; omega)]
theorem getD_set {α : Type} {ds : List α} {p : Nat} {v d : α} (hp : p < ds.length) (i : Nat) : (ds.set p v).getD i d = if i = p then v else ds.getD i d := by
  rw [List.getD_eq_getElem?_getD, List.getElem?_set]
  by_cases e : p = i
  · subst e
    simp [hp]
  · rw [if_neg e, if_neg (fun z => e z.symm), List.getD_eq_getElem?_getD]
theorem cutB_from {α : Type} {l : List α} {n : Nat} : (l.drop (HT.sIx l.length 0 (some (n : Int)))).take (HT.sIx l.length l.length none - HT.sIx l.length 0 (some (n : Int))) = l.drop n := by
  rw [HT.sIx_nat, HT.sIx_none]
  by_cases h : n ≤ l.length
  · rw [Nat.min_eq_left h, List.take_of_length_le]
    simp
  · rw [Nat.min_eq_right (by omega), Nat.sub_self, List.take_zero, List.drop_eq_nil_of_le (by omega)]
theorem cutB_1 {α : Type} {l : List α} : (l.drop (HT.sIx l.length 0 (some 1))).take (HT.sIx l.length l.length none - HT.sIx l.length 0 (some 1)) = l.drop 1 := cutB_from (n := 1)
theorem cutB_to {α : Type} {l : List α} {n : Nat} : (l.drop (HT.sIx l.length 0 none)).take (HT.sIx l.length l.length (some (n : Int)) - HT.sIx l.length 0 none) = l.take n := by
  rw [HT.sIx_nat, HT.sIx_none, List.drop_zero, Nat.sub_zero]
  by_cases h : n ≤ l.length
  · rw [Nat.min_eq_left h]
  · rw [Nat.min_eq_right (by omega), List.take_of_length_le (Nat.le_refl _), List.take_of_length_le (by omega)]
theorem g_inT {K : PySem.W.Frag} {H : Hp} {Q : VK} {p : Addr} {xs : List V} {x : V} {neg b : Bool} [h : StC K H p xs] (hf : flatV x = true) (hx : xs.all flatV = true) (hb : inV x xs = b) (q : Q (.bl (if neg then !b else b)) H) : rIn K neg x (.ref p) H Q :=
  ⟨p, xs, rfl, .inr h.st, hf, hx, by rw [hb]; exact q⟩
theorem g_inL {K : PySem.W.Frag} {H : Hp} {Q : VK} {p : Addr} {xs : List V} {x : V} {neg b : Bool} [h : SqC K H p xs] (hf : flatV x = true) (hx : xs.all flatV = true) (hb : inV x xs = b) (q : Q (.bl (if neg then !b else b)) H) : rIn K neg x (.ref p) H Q :=
  ⟨p, xs, rfl, .inl h.sq, hf, hx, by rw [hb]; exact q⟩
end Gx

set_option linter.all false
set_option maxRecDepth 100000
set_option maxHeartbeats 2000000
/-! Gd: data compared at any depth. -/
namespace Gx
open PySem PySem.Spec PyProof.Rows L2
section
variable {K : PySem.W.Frag} {H : Hp} {Q : VK} {x y : V} {xs ys : List V} {d e : PyData} {ds es : List PyData} {p : Addr}
class DatC (K : PySem.W.Frag) (H : Hp) (x : V) (d : outParam PyData) : Prop where
  dp : Dp K H x d
class DatsC (K : PySem.W.Frag) (H : Hp) (xs : List V) (ds : outParam (List PyData)) : Prop where
  dp : DpAll K H xs ds
instance : DatC K H .non .none := ⟨.non⟩
instance {b : Bool} : DatC K H (.bl b) (.bool b) := ⟨.bl b⟩
instance {i : Int} : DatC K H (.int i) (.int i) := ⟨.int i⟩
instance {z : Str} : DatC K H (.str z) (.str z) := ⟨.str z⟩
instance [h : SqC K H p xs] [k : DatsC K H xs ds] : DatC K H (.ref p) (.list ds) := ⟨.lst h.sq k.dp⟩
instance [h : StC K H p xs] [k : DatsC K H xs ds] : DatC K H (.ref p) (.tuple ds) := ⟨.tup h.st k.dp⟩
instance : DatsC K H [] [] := ⟨.nil⟩
instance [h : DatC K H x d] [k : DatsC K H xs ds] : DatsC K H (x :: xs) (d :: ds) := ⟨.cons h.dp k.dp⟩
instance {ns : List Int} : DatsC K H (ns.map V.int) (ns.map PyData.int) := ⟨dpInts ns⟩
theorem g_eqD {b : Bool} [h : DatC K H x d] [k : DatC K H y e] (hd : SeqAt.shaped d = true) (he : SeqAt.shaped e = true) (hb : PyData.eqv d e = b) (q : Q (.bl b) H) : rEqX K x y H Q :=
  .inr ⟨_, _, h.dp, k.dp, hd, he, by rw [hb]; exact q⟩
theorem g_neD {b : Bool} [h : DatC K H x d] [k : DatC K H y e] (hd : SeqAt.shaped d = true) (he : SeqAt.shaped e = true) (hb : PyData.eqv d e = b) (q : Q (.bl (!b)) H) : rNeX K x y H Q :=
  .inr ⟨_, _, h.dp, k.dp, hd, he, by rw [hb]; exact q⟩
end
theorem g_ixIN {K : PySem.W.Frag} {H : Hp} {Q : VK} {p : Addr} {ns : List Int} {n : Nat} [h : SqC K H p (ns.map V.int)] (h1 : n < ns.length) (q : Q (.int (ns.getD n 0)) H) : rIx K (.ref p) (.int (n : Nat)) H Q :=
  g_ixI (by omega) (by omega) (by rw [Int.toNat_natCast]; exact q)
def rIsB : R2 := fun x y H Q => ∃ c d, x = .bl c ∧ y = .bl d ∧ Q (.bl (c == d)) H
def rNotB : R2 := fun x y H Q => ∃ c d, x = .bl c ∧ y = .bl d ∧ Q (.bl (c != d)) H
theorem op_isB {X : Cx} : OpR X (compareOp .Is) rIsB := by
  intro pins s σ H x y v u Q I rx ry h
  obtain ⟨c, d, rfl, rfl, q⟩ := h
  cases rx
  cases ry
  exact is_bool (fin_bl I q rfl)
theorem op_notB {X : Cx} : OpR X (compareOp .IsNot) rNotB := by
  intro pins s σ H x y v u Q I rx ry h
  obtain ⟨c, d, rfl, rfl, q⟩ := h
  cases rx
  cases ry
  exact isnot_bool (fin_bl I q rfl)
instance {H : Hp} {Q : VK} {c d : Bool} : Step (rIsB (.bl c) (.bl d) H Q) (Q (.bl (c == d)) H) := ⟨fun q => ⟨c, d, rfl, rfl, q⟩⟩
instance {H : Hp} {Q : VK} {c d : Bool} : Step (rNotB (.bl c) (.bl d) H Q) (Q (.bl (c != d)) H) := ⟨fun q => ⟨c, d, rfl, rfl, q⟩⟩
theorem sh2 {x y : Str} (hx : PyData.strOk x = true) (hy : PyData.strOk y = true) : SeqAt.shaped (.tuple [.str x, .str y]) = true := by
  simp [SeqAt.shaped, PyData.canLay0, PyData.canLayAll0, PyData.depth, PyData.depthAll, hx, hy]
theorem ev2 {x y z w : Str} : PyData.eqv (.tuple [.str x, .str y]) (.tuple [.str z, .str w]) = ((x == z) && (y == w)) := by
  simp [PyData.eqv, PyData.eqvAll]
theorem ev2_t {x y : Str} : PyData.eqv (.tuple [.str x, .str y]) (.tuple [.str x, .str y]) = true := by rw [ev2]; simp
theorem ev2_f {x y z w : Str} (h : x ≠ z) : PyData.eqv (.tuple [.str x, .str y]) (.tuple [.str z, .str w]) = false := by
  rw [ev2, show (x == z) = false from by simpa using h]; rfl
section
variable {σ : L2.St} {H : Hp} {g : TG} {tb : TS} {D : Ends}
theorem forS {z : Str} (bs : List Addr) (Pv : Nat → L2.St → Hp → Prop) (h0 : Pv 0 σ H)
    (hs : ∀ (i : Nat) c x σ' H', i < z.cps.size → z.cps[i]? = some c → x = .str ⟨#[c]⟩ → Chg bs H H' → Pv i σ' H' → g x σ' H' fun σ2 H2 => tb { D with nx := LI bs H (Pv (i + 1)), ct := LI bs H (Pv (i + 1)), bk := D.nx } σ2 H2)
    (hd : ∀ σ' H', Chg bs H H' → Pv z.cps.size σ' H' → D.nx σ' H') : rForS (.str z) g tb D σ H :=
  ⟨z, rfl, for_feeds fd_str bs Pv h0 (fun _ _ => trivial) (fun i σ' H' x H'' hi r p y => by
    obtain ⟨rfl, c, hc, rfl⟩ := y
    exact hs i c _ σ' _ hi hc rfl r p) hd⟩
end
end Gx

set_option linter.all false
set_option maxRecDepth 100000
set_option maxHeartbeats 2000000
namespace Gx
open PySem PySem.Spec PyProof.Rows L2
/-! ### an own exception class over ValueError whose __init__ begins with super().__init__(e) -/
section
open PySem.W PySem.Calls PyProof.Rows
variable {prog : Program} {w : World} {A : Around} {E : Value → Shared → Prop} {h : Heap} {g : Array GenState} {d : Drawn} {t : Nat} {os : OsState}
variable {nm q : Str} {C N : Addr} {bs bm : List Value} {hdct : Bool} {sn : List Str} {sub : List Value} {ab : Bool} {col : Option Bool} {dd : Option Addr} {k0 k1 k2 k3 k5 : Option Value}
theorem call_mw {u e t0 : Addr} {rest : List Value} {Q : Value → Shared → Prop}
    (hC : h.get? C = some (excClassObj nm q C N bs bm hdct sn sub ab col dd k0 k1 k2 k3 k5 "ValueError.__new__")) (he : h.get? e = some (HandSPX.excO C t0)) (hu : h.get? u = some (kxs_mw "ValueError.__init__" e)) (hrest : rest.length ≤ sizeLine)
    (hq : ∀ h' t1, (∀ b o, b ≠ e → h.get? b = some o → h'.get? b = some o) → h'.get? e = some (HandSPX.excO C t1) → Q .none ⟨h', g, d, t, os⟩) :
    wpAny (model prog w) A (call (.ref u) rest) Q E ⟨h, g, d, t, os⟩ := by
  refine wpAny_call (codeAny_of_tree ?_)
  show wpAny _ A.in1 (callAny (.ref u) ⟨rest, []⟩) _ _ _
  simp only [callAny]
  refine wpAny_bind (wpAny_load hu ?_)
  simp only [kxs_mw, show (Value.type "method-wrapper" == Value.type "method" || Value.type "method-wrapper" == Value.type "builtin_function_or_method" || Value.type "method-wrapper" == Value.type "method-wrapper") = true by decide, if_true]
  refine W.KFB.if_so (by decide) ?_
  refine wpAny_bind (ESX.check_bound F.excBase_ValueError hC he rfl ?_)
  refine wpAny_bind (wpAny_pure (wpAny_pure ?_))
  refine ⟨Code.quiet_builtin _ (by decide +kernel), codeAny_builtin F.excBase_ValueError.initEntry ?_⟩
  rw [Around.under_plainId F.excBase_ValueError.init.plain _]
  wp_walk
  refine hq _ h.objs.size (fun b o hb ho => ?_) ?_
  · rw [Heap.get?_update_other _ _ (Ne.symm hb)]
    exact Heap.get?_push_of_some _ ho
  · rw [Heap.get?_update_self _ (Heap.get?_push_of_some _ he) rfl]
    rfl
end
section
open PySem.W PySem.Calls PyProof.Rows NdefX
theorem look1 {x y : Str} {c c' : Addr} (h : ([(x, c)] : List (Str × Addr)).lookup y = some c') : y = x ∧ c' = c := by
  unfold List.lookup at h
  split at h
  · rename_i e
    exact ⟨eq_of_beq e, (Option.some.inj h).symm⟩
  · simp at h
/-- what the written part says of an __init__ (at f, of the class at D) that says super() -/
structure SupF (P : Program) (K : Frag) (mg : Str → Option Value) (f D : Addr) (qual : Str) (st : Stmt) (ps : List Str) (fd : FuncData) : Prop where
  ex : ∃ (c cc : Addr) (oc doc pm ct cl ccl : Value) (od cld cdd : Option Addr) (osl csl ccs : Array (Option Value)) (vs : Array Value) (file : Str) (tf : Tok) (cdD : ClassData),
    fd = fnX "__init__" qual (defArgs st) (defBody st) (defScope st) [("__class__", cc)] .none .none doc pm none (.ref c) ct ∧ K.lookup f = some ⟨oc, od, .func fd, osl⟩ ∧ codeIn K (.ref c) qual = true ∧
    K.lookup c = some ⟨ccl, cdd, .fields vs, ccs⟩ ∧ vs[2]? = some (.str file tf) ∧ ((P.main.file : Str) == file) = true ∧ K.lookup cc = some ⟨cl, cld, .cell (some (.ref D)), csl⟩ ∧ clsIn K D = some cdD
  nsup : mg "super" = none
  top : (P.main.scope.names.lookup ("super" : Str)).isSome = false
  opq : nsIn K cStatics "thirdparty.any" = some none
/-- .. of the class C whose instance it is given -/
structure SupC (K : Frag) (C D : Addr) : Prop where
  oex : OexC K C
  mro : mroIn K C (.ref D) = some true
  sup : ks_superIn K C D "__init__" = some (some (.builtin "ValueError.__init__"))
  sub : subIn K (.ref C) (.type "ValueError") = some true
variable {P : Program} {w : World} {K : Frag} {mg : Str → Option Value} {base : Heap} {k : Nat} {N ps : List Str} {f D : Addr} {qual : Str} {st : Stmt} {fd : FuncData} {sp : Sp}
theorem sup_ok {e : Expr} {rest : List Stmt} {p0 p1 p2 p3 p4 : Pos} {self : Str} {ar : Arg} (F : SupF P K mg f D qual st ps fd) (S : NScope N ps ["__class__"] (defScope st))
    (hbody : defBody st = .Expr (.Call (.Attribute (.Call (.Name "super" p0) [] [] p1) "__init__" p2) [e] [] p3) p4 :: rest)
    (hps : ps.head? = some self) (har : ((defArgs st).posonlyargs ++ (defArgs st).args).head? = some ar) (hself : ar.arg = self) (hks : (defScope st).names.lookup ("super" : Str) = some .globalImplicit)
    (hb : ∀ (c cc : Addr) (doc pm ct : Value) (us : List Value), us.length = ps.length → bindArgs (fnX "__init__" qual (defArgs st) (defBody st) (defScope st) [("__class__", cc)] .none .none doc pm none (.ref c) ct) ⟨us, []⟩ = pure (ps.zip us))
    (hsw : ∀ (c cc f L : Addr), swapsWith (.Call (.Attribute (.Call (.Name "super" p0) [] [] p1) "__init__" p2) [e] [] p3) none p4.line (envX qual (defScope st) L f (.ref c) [("__class__", cc)]) = pure false)
    (hin : ∀ (c cc f L : Addr), interactive (envX qual (defScope st) L f (.ref c) [("__class__", cc)]) = false)
    (hev : ∀ (c cc f L : Addr), ∃ pl : Sem Bool, eval (.Call (.Attribute (.Call (.Name "super" p0) [] [] p1) "__init__" p2) [e] [] p3) (envX qual (defScope st) L f (.ref c) [("__class__", cc)]) = (do
      let ov ← attributeBase (.Call (.Name "super" p0) [] [] p1) "__init__" (envX qual (defScope st) L f (.ref c) [("__class__", cc)]) (eval (.Call (.Name "super" p0) [] [] p1) (envX qual (defScope st) L f (.ref c) [("__class__", cc)]))
      standAt p2.atName
      let (f', first) ← holding [ov] (getMethod ov "__init__" pl)
      callWith p3 f' first (backTo p3 (starEach [e] (envX qual (defScope st) L f (.ref c) [("__class__", cc)]))) []))
    (hst : ∀ (c cc f L : Addr), starEach [e] (envX qual (defScope st) L f (.ref c) [("__class__", cc)]) = [(false, eval e (envX qual (defScope st) L f (.ref c) [("__class__", cc)]))])
    (len : ∀ vs H Q E, sp vs H Q E → vs.length = ps.length)
    (hread : ∀ (c cc : Addr) (A : Around) (outer : List Env) (s : Shared) (H : Hp) (vs : List V) (Q : VK) (E : XK), Room k (A.deeper (envX qual (defScope st) s.heap.objs.size f (.ref c) [("__class__", cc)])) → sp vs H Q E →
      ∃ ta ts a C r, PA (ncx CX0 P w K mg base N ⟨"__init__", qual, defArgs st, defBody st, defScope st, [("__class__", cc)], c⟩ f A outer s H E) [e] ta ∧ PSs (ncx CX0 P w K mg base N ⟨"__init__", qual, defArgs st, defBody st, defScope st, [("__class__", cc)], c⟩ f A outer s H E) rest ts ∧
        vs = .ref a :: r ∧ SupC K C D ∧ H a = some (exo a C none) ∧ ta (startF N vs [none]) H fun zs H1 => zs.length ≤ 1000 ∧ H1 a = some (exo a C none) ∧ ts { nx := fun _ H' => Q .non H', rt := Q } (startF N vs [none]) H1) :
    FnOk P w K mg base CX0 (k + 1) f fd ps sp := by
  obtain ⟨c, cc, oc, doc, pm, ct, cl, ccl, od, cld, cdd, osl, csl, ccs, vv, file, tf, cdD, rfl, lk, hcd, lc, hv2, hfile, lcc, hD⟩ := F.ex
  refine ⟨len, fun A outer s H args us vs Q E hr e0 hbd r hsp => ?_⟩
  have KX : K.In s.heap := e0.mod.kin.keeps fun b o e => (e0.bs b o e).1
  have hl := len _ _ _ _ hsp
  have lim : s.heap.NoLimit := e0.mod.nolimit.keeps fun b o e => (e0.bs b o e).1
  have hcc : H cc = none := (e0.bs cc _ (e0.mod.kin _ _ lcc)).2
  have CA : CellsAt [("__class__", cc)] ["__class__"] [none] s.heap H := by
    refine ⟨rfl, fun y c' hy => ?_, fun x y c' hx hy => ?_, fun i y hy => ?_⟩
    · obtain ⟨_, rfl⟩ := look1 hy
      exact ⟨hcc, _, _, KX _ _ lcc, rfl⟩
    · rw [(look1 hx).1, (look1 hy).1]
    · cases i with
      | zero => simp at hy; subst hy; exact ⟨cc, rfl, fun v hv => by simp at hv⟩
      | succ i => simp at hy
  refine ks_codeAny_call_defAt (body := defBody st) (binds := ps.zip us) hr.depth (KX _ _ lk) rfl lim (codeRec_of KX hcd) rfl hbd S.nocell (fun ⟨n, v⟩ hy => S.par n (List.of_mem_zip hy).1) (fun h₁ hns kp => ?_) S.co S.gen S.kind
  obtain ⟨ta, ts, a, C, r', pa, ps', rfl, SC, ha, hq⟩ := hread c cc A outer s H vs Q E (hr.deeper _) hsp
  have I : Inv (ncx CX0 P w K mg base N ⟨"__init__", qual, defArgs st, defBody st, defScope st, [("__class__", cc)], c⟩ f A outer s H E) [] (startF N (.ref a :: r') [none]) H { s with heap := h₁, toks := s.toks + (ps.zip us).length } := inv_startN S hr.hd e0 hl r CA hns kp
  show _root_.PySem.wpAt (model P w) (A.deeper (envX qual (defScope st) s.heap.objs.size f (.ref c) [("__class__", cc)])) (.func (defBody st) (envX qual (defScope st) s.heap.objs.size f (.ref c) [("__class__", cc)])) (execs (defBody st) (envX qual (defScope st) s.heap.objs.size f (.ref c) [("__class__", cc)])) _ _ _
  rw [hbody]
  obtain ⟨pl, hev'⟩ := hev c cc f s.heap.objs.size
  refine ks_wpAt_execs_cons (ks_wpAt_Expr_any (ks_wpAt_MethodCall (pl := pl) ?_ hev') (hin c cc f s.heap.objs.size) (hsw c cc f s.heap.objs.size))
  obtain ⟨tC, hoe⟩ := exo_at I.hok ha
  have XI : K.In h₁ := KX.keeps kp
  obtain ⟨oD, hD1, hD2⟩ : ∃ oD, h₁.get? D = some oD ∧ oD.data = .cls cdD := by
    unfold clsIn at hD
    split at hD
    · rename_i c d cd' sl ho
      cases hD
      exact ⟨_, XI _ _ ho, rfl⟩
    · cases hD
  have IA : InstAt h₁ a { cls := .ref C, dict := none, data := .fields #[.ref tC, .none, .none, .none, .bool false, .none] } C none := ⟨hoe, rfl, rfl, trivial⟩
  obtain ⟨mb, hmb, hmbv⟩ := I.mod.blt
  have hself' : (fun y => (ps.zip us).reverse.lookup y) ar.arg = some (.ref a) := by
    have ndP : ps.Nodup := by
      have q := S.nd.sublist (List.take_sublist (ps.length + 1) N)
      have e1 := S.pre
      rw [show (["__class__"] : List Str).length = 1 from rfl] at e1
      rw [e1] at q
      exact (List.nodup_append.mp q).1
    cases r with
    | @cons _ u0 _ ur ra rw' =>
      obtain rfl : u0 = Value.ref a := ra
      refine zip_look (i := 0) ndP ?_ rfl
      rw [hself]
      cases ps with
      | nil => simp at hps
      | cons x y => simpa using hps
  refine ks_wpAt_super_base (env := envX qual (defScope st) s.heap.objs.size f (.ref c) [("__class__", cc)]) hks (S.frk _ (by simp)) rfl rfl (XI _ _ lk) rfl har rfl (XI _ _ lc) rfl hv2 hfile F.top ?_
  refine ks_loadName_global S.kind hks (loadGlobal_builtin (env := envX qual (defScope st) s.heap.objs.size f (.ref c) [("__class__", cc)]) (I.mod.glob.keeps I.bk) F.nsup (hmb.keeps I.bk) ((hmbv _ (by decide)).trans PyProof.Rows.Boot.«super») ⟨rfl, ?_⟩)
  refine wpAny_loadName_free S.kind (S.frk _ (by simp)) rfl ⟨_, XI _ _ lcc, rfl⟩ ?_
  refine wpAny_loadName_local S.kind (S.par _ (by rw [hself]; exact List.mem_of_mem_head? hps)) hns hself' ?_
  refine ks_wpAny_isType_cls hD1 hD2 ⟨rfl, ?_⟩
  refine ks_wpAny_call_super hD1 hD2 IA.at_ IA.cls (fun c e => by cases e) (looks_mroIn XI SC.mro) (fun h' eS k' => ?_)
  have X' : K.In h' := XI.keeps k'
  have hlt : h₁.objs.size < h'.objs.size := Heap.lt_size eS
  have IA' : InstAt h' a { cls := .ref C, dict := none, data := .fields #[.ref tC, .none, .none, .none, .bool false, .none] } C none := ⟨k' _ _ hoe, rfl, rfl, trivial⟩
  have hsup := SC.sup
  cases hc : clsIn K C with
  | none => unfold ks_superIn at hsup; rw [hc] at hsup; cases hsup
  | some cd =>
  unfold ks_superIn at hsup
  rw [hc] at hsup
  have hI : Looks (model P w) h' (isInstance (.ref a) (.type "ValueError")) true := IA'.type.andThen (looks_subIn X' SC.sub)
  refine kxs_getMethod kxs_ValueError eS (looks_opaque X' F.opq) (l₀ := cd.mro) (fun A Q E s k q => wpAny_bind ((looks_clsIn X' hc) A _ E s k (wpAny_pure q))) rfl X' hsup hI (ks_ne X' IA' hc) rfl ?_
  have hk2 : ∀ b o, h₁.get? b = some o → (h'.push (kxs_mw "ValueError.__init__" a)).get? b = some o := fun b o z => Heap.get?_push_of_some _ (k' b o z)
  have hu : (h'.push (kxs_mw "ValueError.__init__" a)).get? h'.objs.size = some (kxs_mw "ValueError.__init__" a) := Heap.get?_push_at rfl rfl
  have I2 := ClX.pin_new (t' := s.toks + (ps.zip us).length + 1) (a := h'.objs.size) I hk2 (Nat.le_of_lt hlt) hu (fun v z => by cases z)
  have hpa := pa.run p3 _ _ _ _ _ I2 hq
  have hst' := hst c cc f s.heap.objs.size
  have hpa : wpAny (model P w) (A.deeper (envX qual (defScope st) s.heap.objs.size f (.ref c) [("__class__", cc)])) (spliced (backTo p3 (starEach [e] (envX qual (defScope st) s.heap.objs.size f (.ref c) [("__class__", cc)])))) _ _ _ := hpa
  rw [hst'] at hpa ⊢
  refine kxs_callWith (i := "ValueError.__init__") (x := a) rfl (evalArgs_plain (wpAny_mono hpa (fun us1 s1 hz => ?_) fun _ _ z => z))
  obtain ⟨zs, H1, I3, r1, hz1, ha1, hq1⟩ := hz
  have hu1 := ClX.pin_at I3
  obtain ⟨t1, ho1⟩ := exo_at I3.hok ha1
  obtain ⟨nm, q, N', bs, bm, sn, sub, ab, col, dd, k0, k1, k2, k3, k5, hC, hbm⟩ := SC.oex.cls
  refine ⟨hu1, ?_⟩
  obtain ⟨hp1, g1, d1, tk1, os1⟩ := s1
  refine call_mw (I3.kIn _ _ hC) ho1 hu1 (by have := r1.length; rw [List.nil_append, ← this, sizeLine_eq]; omega) fun h2 t2 kk hx => ?_
  have J := I3.write (t' := tk1) (x := a) (e := a) (o := exo a C none) (by rw [ha1]; exact True.intro) (.inl rfl) kk ⟨_, hx⟩ (exo_ok hx)
  have eu : upd H1 a (exo a C none) = H1 := by
    funext b
    by_cases hb : b = a
    · rw [hb, upd_same, ha1]
    · rw [upd_ne hb]
  rw [eu] at J
  refine wpAt_of_wpAny (wpAny_mono (ps'.run [] _ (startF N (.ref a :: r') [none]) H1 _ (ClX.unpin J) hq1) (fun fl s' hs => ?_) fun e s' hs => hs)
  have fin : ∀ {σ' : L2.St} {H' : Hp} {v : V} {u : Value}, Inv (ncx CX0 P w K mg base N ⟨"__init__", qual, defArgs st, defBody st, defScope st, [("__class__", cc)], c⟩ f A outer s H E) [] σ' H' s' → L2.RelV v u → Q v H' → CE outer P w H s Q u s' :=
    fun {σ' H' v u} J rv q => ⟨v, H', J.os, J.bare, J.base, J.hok, rv, q⟩
  cases fl with
  | ret u =>
    obtain ⟨v, σ', H', J, rv, q⟩ := hs
    exact fin J rv q
  | next =>
    obtain ⟨σ', H', J, q⟩ := hs
    exact fin (v := V.non) (u := Value.none) J rfl q
  | brk =>
    obtain ⟨_, _, _, q⟩ := hs
    exact False.elim q
  | cont =>
    obtain ⟨_, _, _, q⟩ := hs
    exact False.elim q
end
/-! ### exceptions of the program: one field -/
def FmtV (v : V) : Prop := (∃ y : Str, v = .str y ∧ y.length ≤ 1000) ∨ ∃ i : Int, v = .int i ∧ -(2 ^ 200) < i ∧ i < 2 ^ 200
def spEx1 (C : Addr) (n : Str) : Sp := fun vs H Q _ => ∃ (a : Addr) (v : V), vs = [.ref a, v] ∧ (H a = some (exo a C none) ∧ FmtV v) ∧
  ∀ d H', H d = none → d ≠ a → (∀ b o, b ≠ a → H b = some o → H' b = some o) → (∀ b, H' b = none → H b = none) → H' a = some (exo a C (some d)) → H' d = some (exd d [(n, v)]) → Q .non H'
/-- what the written part says of an own class -/
structure ExD (P : Program) (K : PySem.W.Frag) (mg : Str → Option Value) (x qual : Str) (st : Stmt) (ps : List Str) (C : Addr) : Prop where
  mgC : mg x = some (.ref C)
  sup : SupC K C C
  fld : ∀ n, ps[1]? = some n → PySem.W.findIn K (.ref C) n = some none
  ini : ∃ (f : Addr) (fd : FuncData), PySem.W.findIn K (.ref C) "__init__" = some (some (.ref f)) ∧ PySem.W.typeIn K (.ref f) = some (.type "function") ∧ SupF P K mg f C qual st ps fd
/-- the class may be called -/
structure ExK (P : Program) (w : World) (K : PySem.W.Frag) (mg : Str → Option Value) (base : Heap) (k : Nat) (x : Str) (C : Addr) (n : Str) : Prop where
  mgC : mg x = some (.ref C)
  oex : OexC K C
  ini : ∃ (f : Addr) (fd : FuncData), PySem.W.findIn K (.ref C) "__init__" = some (some (.ref f)) ∧ PySem.W.typeIn K (.ref f) = some (.type "function") ∧ FnOk P w K mg base CX0 k f fd ["self", n] (spEx1 C n) ∧ Binds K fd ["self", n] []
def rMk1 (C : Addr) (n : Str) (vs : List V) (H1 : Hp) (Q : XK) : Prop := vs.length ≤ 1000 ∧ ∀ a, H1 a = none → spEx1 C n (.ref a :: (vs ++ [])) (upd H1 a (exo a C none))
  (fun v H2 => v = .non ∧ ∃ (d : Addr) (fs : List (Str × V)), H2 a = some (exo a C (some d)) ∧ H2 d = some (exd d fs) ∧ H1 d = none ∧ Q (.ref C) (some d) (upd (del H2 a) d (.xd fs))) (fun _ _ _ => False)
def tMk1 (C : Addr) (n : Str) (ta : TA) : L2.St → Hp → XK → Prop := fun σ H Q => ta σ H fun vs H1 => rMk1 C n vs H1 Q
theorem g_mk1 {C : Addr} {n : Str} {v : V} {H1 : Hp} {Q : XK} (hv : FmtV v) (q : ∀ d H', Nw H1 d → Ex H1 H' → At H' d (.xd [(n, v)]) → Q (.ref C) (some d) H') : rMk1 C n [v] H1 Q := by
  refine ⟨by simp, fun a ha => ⟨a, v, rfl, ⟨upd_same, hv⟩, fun d H' hd hda keep live ha' hd' => ?_⟩⟩
  have hd1 : H1 d = none := by rw [upd_ne hda] at hd; exact hd
  have K1 : ∀ b o, H1 b = some o → H' b = some o := fun b o hb => by
    have hba : b ≠ a := ne_of_none hb ha
    exact keep b o hba (by rw [upd_ne hba]; exact hb)
  refine ⟨rfl, d, _, ha', hd', hd1, q d _ ⟨hd1⟩ ⟨fun b o _ hb => ?_, fun b hb => ?_, fun b o _ hb => ?_⟩ ⟨upd_same⟩⟩
  rotate_left 2
  · rw [upd_ne (ne_of_none hb hd1), del_ne (ne_of_none hb ha)]
    exact K1 b o hb
  · rw [upd_ne (ne_of_none hb hd1), del_ne (ne_of_none hb ha)]
    exact K1 b o hb
  · by_cases hbd : b = d
    · rw [hbd]; exact hd1
    · rw [upd_ne hbd] at hb
      by_cases hba : b = a
      · rw [hba]; exact ha
      · rw [del_ne hba] at hb
        have := live b hb
        rw [upd_ne hba] at this
        exact this
theorem pmk1 {X : Cx} {k : Nat} {x n : Str} {C : Addr} {e : Expr} {ta : TA} {p pos : Pos} (M : ExK X.prog X.w X.K X.mg X.base k x C n) (hr : Room (k + 1) X.A) (hg : Gl X x) (ha : PA X [e] ta)
    (hdb : (x == ("__debug__" : Str)) = false := by decide) (he : starEach [e] X.env = (false, eval e X.env) :: starEach [] X.env := by rfl) (hpl : (backTo pos (starEach [] X.env)).any (·.1) = false := by rfl) :
    PMk X (.Call (.Name x p) [e] [] pos) (tMk1 C n ta) := by
  obtain ⟨f, fd, i1, i2, F, b⟩ := M.ini
  exact pmk_oex (sp := spEx1 C n) (dvs := []) M.oex i1 i2 F hr b .nil pass0 hg M.mgC ha hdb he hpl
/-! defs that may raise -/
section
variable {P : Program} {w : World} {K : PySem.W.Frag} {mg : Str → Option Value} {base : Heap}
structure ClX (P : Program) (w : World) (K : PySem.W.Frag) (mg : Str → Option Value) (base : Heap) (k : Nat) (x : Str) (ps : List Str) (sp : Sp) : Prop where
  ex : ∃ (f : Addr) (fd : FuncData), mg x = some (.ref f) ∧ PySem.W.keepIn K (.ref f) = true ∧ (∀ us : List Value, us.length = ps.length → bindArgs fd ⟨us, []⟩ = pure (ps.zip us)) ∧ FnOk P w K mg base (L2.CX P w) k f fd ps sp
theorem Df.okX {x : Str} {st : Stmt} {N ps : List Str} {k : Nat} {sp : Sp} (D : Df K mg x st ps) (S : FnScope N ps (defScope st)) (len : ∀ vs H Q E, sp vs H Q E → vs.length = ps.length)
    (hbody : ∀ (f : Addr) (cdv : Value) (A : Around) (outer : List Env) (s : Shared) (H : Hp) (vs : List V) (Q : VK) (E : XK), Room k (A.deeper (envOfC x (defScope st) s.heap.objs.size f cdv)) → sp vs H Q E →
      ∃ t, PSs (cxOf (L2.CX P w) P w K mg base N x (defScope st) f cdv A outer s H E) (defBody st) t ∧ t { nx := fun _ H' => Q .non H', rt := Q } (start N vs) H) : ClX P w K mg base (k + 1) x ps sp := by
  obtain ⟨f, fd, h1, h2, h3⟩ := D.ex
  exact ⟨f, fd, h1, h2.kp, h3, h2.okX S len fun cdv A outer s H vs Q E hr h => hbody f cdv A outer s H vs Q E hr h⟩
theorem takesX {N : List Str} {qual : Str} {scope : Scope} {f : Addr} {cd : Value} {A : Around} {outer : List Env} {s : Shared} {H : Hp} {E : XK} : Takes (cxOf (L2.CX P w) P w K mg base N qual scope f cd A outer s H E) (fun cls d _ H => E cls d H) := takes_of rfl rfl rfl rfl
end
section
variable {X : Cx} {x : Str} {p pos : Pos} {e : Expr} {es : List Expr} {t : TA} {k : Nat} {ps : List Str} {sp : Sp} {W : WX}
theorem pe_clX (C : ClX X.prog X.w X.K X.mg X.base k x ps sp) (hr : Room k X.A) (tk : Takes X W) (ha : PA X (e :: es) t) (hg : Gl X x := by rfl) (hdb : (x == ("__debug__" : Str)) = false := by decide)
    (he : starEach (e :: es) X.env = (false, eval e X.env) :: starEach es X.env := by rfl) (hpl : (backTo pos (starEach es X.env)).any (·.1) = false := by rfl) :
    PE X (.Call (.Name x p) (e :: es) [] pos) (tCallS sp (WE W) t) := by
  obtain ⟨f, fd, h1, h2, h3, h4⟩ := C.ex
  exact pe_callS h4 hr hg h1 h2 (Binds.all h3) (passAt tk) ha hdb he hpl
end
section
variable {σ : L2.St} {H : Hp} {Q : VK} {E : L2.St → XK} {sp : Sp} {tl : TA}
instance : Step (tCallS sp E tl σ H Q) (tl σ H fun vs H1 => sp vs H1 Q (E σ)) := ⟨fun q => q⟩
end
/-! a def called within an except suite with the caught exception among its arguments -/
open L2H
structure FnS (P : Program) (w : World) (K : PySem.W.Frag) (mg : Str → Option Value) (base : Heap) (CX : CXT) (k : Nat) (f : Addr) (fd : FuncData) (ps : List Str) (sp : Addr → Value → Option Addr → Sp) : Prop where
  len : ∀ a c d vs H Q E, sp a c d vs H Q E → vs.length = ps.length
  run : ∀ (A : Around) (outer : List Env) (s : Shared) (H : Hp) (args : Args) (us : List Value) (vs : List V) (Q : VK) (E : XK) (a : Addr) (oe : Obj) (c : Value) (d : Option Addr), RoomH k A → PinOk outer H s (a, oe) → Zc c d oe → (∃ fv, oe.data = .fields fv) → Env0 P w K mg base A outer s H → BindsTo s fd args (ps.zip us) → Vals vs us → sp a c d vs H Q E →
    codeAny (model P w) A (.call (.ref f) args) (CR CX outer P w H s Q E) s
theorem fn_ofS {CX : CXT} {P : Program} {w : World} {K : PySem.W.Frag} {mg : Str → Option Value} {base : Heap} {k : Nat} {f : Addr} {name qual : Str} {params : Arguments} {body : List Stmt} {scope : Scope} {dV kV doc pm cdv ct oc : Value} {an od : Option Addr}
    {osl : Array (Option Value)} {N ps : List Str} {sp : Addr → Value → Option Addr → Sp} (lk : K.lookup f = some ⟨oc, od, .func (PySem.W.fnOf name qual params body scope dV kV doc pm an cdv ct), osl⟩) (hcd : PySem.W.codeIn K cdv qual = true) (S : FnScope N ps scope)
    (len : ∀ a c d vs H Q E, sp a c d vs H Q E → vs.length = ps.length)
    (hbody : ∀ (A : Around) (outer : List Env) (s : Shared) (H : Hp) (vs : List V) (Q : VK) (E : XK) (a : Addr) (oe : Obj) (c : Value) (d : Option Addr), RoomH k (A.deeper (envOfC qual scope s.heap.objs.size f cdv)) → Zc c d oe → (∃ fv, oe.data = .fields fv) → sp a c d vs H Q E →
      ∃ t, PSs (cxH CX P w K mg base N qual scope f cdv A outer s H E (a, oe)) body t ∧ t { nx := fun _ H' => Q .non H', rt := Q } (L2.start N vs) H) :
    FnS P w K mg base CX (k + 1) f (PySem.W.fnOf name qual params body scope dV kV doc pm an cdv ct) ps sp := by
  refine ⟨len, fun A outer s H args us vs Q E a oe c d hr hpin hz hf e0 hb r hsp => ?_⟩
  have hl := len _ _ _ _ _ _ _ hsp
  have KX : K.In s.heap := e0.mod.kin.keeps fun b o e => (e0.bs b o e).1
  have lim : s.heap.NoLimit := e0.mod.nolimit.keeps fun b o e => (e0.bs b o e).1
  have hkind : ∀ y ∈ ps.zip us, scope.names.lookup y.1 = some .local ∨ (scope.names.lookup y.1 = some .cell ∧ ((cellsFrom (s.heap.objs.size + 1) scope.names []).lookup y.1).isSome = true) := fun ⟨n, v⟩ hy => by
    rcases S.par n (List.of_mem_zip hy).1 with q | q
    · exact .inl q
    · exact .inr ⟨q, PySem.W.cellsFrom_some _ _ _ (.inl q)⟩
  refine codeAny_call_function hr.depth (KX _ _ lk) rfl S.co S.gen rfl (PySem.W.codeRec_of KX hcd) (hb _ _ _ _ ?_)
  refine wpAny_newFunctionEnv_cells S.kind hkind fun env he s1 x => ?_
  subst he
  refine ⟨lim.keeps x.toInCall.keep, codeAny_func ?_⟩
  obtain ⟨t, ht, hq⟩ := hbody A outer s H vs Q E a oe c d (hr.deeper _) hz hf hsp
  have I : Inv (cxH CX P w K mg base N qual scope f cdv A outer s H E (a, oe)) [] (L2.start N vs) H s1 := inv_startH S hpin e0 hl r x
  refine wpAny_mono (ht.run [] s1 (L2.start N vs) H _ I hq) (fun fl s' hs => ?_) fun e s' hs => hs
  have fin : ∀ {σ' : L2.St} {H' : Hp} {v : V} {u : Value}, Inv (cxH CX P w K mg base N qual scope f cdv A outer s H E (a, oe)) [] σ' H' s' → RelV v u → Q v H' → CE outer P w H s Q u s' :=
    fun {σ' H' v u} J rv q => ⟨v, H', J.os, J.bare, J.base, J.hok, rv, q⟩
  cases fl with
  | ret u =>
    obtain ⟨v, σ', H', J, rv, q⟩ := hs
    exact fin J rv q
  | next =>
    obtain ⟨σ', H', J, q⟩ := hs
    exact fin (v := V.non) (u := Value.none) J rfl q
  | brk =>
    obtain ⟨_, _, _, q⟩ := hs
    exact False.elim q
  | cont =>
    obtain ⟨_, _, _, q⟩ := hs
    exact False.elim q
structure ClS (P : Program) (w : World) (K : PySem.W.Frag) (mg : Str → Option Value) (base : Heap) (k : Nat) (x : Str) (ps : List Str) (sp : Addr → Value → Option Addr → Sp) : Prop where
  ex : ∃ (f : Addr) (fd : FuncData), mg x = some (.ref f) ∧ PySem.W.keepIn K (.ref f) = true ∧ (∀ us : List Value, us.length = ps.length → bindArgs fd ⟨us, []⟩ = pure (ps.zip us)) ∧ FnS P w K mg base CX0 k f fd ps sp
theorem pe_clS {X : Cx} {x : Str} {q pos : Pos} {e : Expr} {es : List Expr} {t : TA} {k : Nat} {ps : List Str} {sp : Addr → Value → Option Addr → Sp} {a : Addr} {oe : Obj} {c : Value} {d : Option Addr} (C : ClS X.prog X.w X.K X.mg X.base k x ps sp) (hr : RoomH k X.A) (hp : (a, oe) ∈ X.pn) (hz : Zc c d oe) (hf : ∃ fv, oe.data = .fields fv) (ha : PA X (e :: es) t) (hg : Gl X x := by rfl) (hdb : (x == ("__debug__" : Str)) = false := by decide)
    (he : starEach (e :: es) X.env = (false, eval e X.env) :: starEach es X.env := by rfl) (hpl : (backTo pos (starEach es X.env)).any (·.1) = false := by rfl) :
    PE X (.Call (.Name x q) (e :: es) [] pos) (tCall (sp a c d) [] E0 t) := by
  obtain ⟨f, fd, hm, hk, hb, F⟩ := C.ex
  refine ⟨fun pins s σ H Q I h => ?_⟩
  refine wpAny_Call_Name_kw (ld_glob I hg hm ?_ hdb)
  refine PySem.W.callWith_K (h₀ := X.base) I.ok.mod.kin hk (thn (ha.run pos pins s σ H _ I h) fun us s1 ⟨vs, H1, I1, r, hq⟩ => ⟨I1.kIn, ?_⟩) he hpl
  have hq : sp a c d (vs ++ []) H1 Q E0 := hq
  rw [List.append_nil] at hq
  have hl : us.length = ps.length := by rw [← r.length]; exact F.len _ _ _ _ _ _ _ hq
  have P1 := I1.pin (a, oe) (List.mem_append_left _ hp)
  have hpin : PinOk X.stack H1 s1 (a, oe) := ⟨P1.1, P1.2.1, fun hm => (List.mem_cons.mp (I1.stkSub a hm)).elim P1.2.2.1 P1.2.2.2.1, P1.2.2.2.2⟩
  show wpAny _ _ (call (.ref f) us) _ _ _
  refine wpAny_call (codeAny_mono (F.run X.A X.stack s1 H1 ⟨us, []⟩ us vs Q E0 a oe c d hr hpin hz hf I1.env0 (.of_eq (hb us hl)) r hq) fun r s' hq => ?_)
  cases r with
  | error e => exact (pass0 : Passes CX0 X E0) pins σ H1 s1 e s' I1 hq
  | ok fl =>
    cases fl with
    | ret u => exact I1.after hq
    | next => exact False.elim hq
    | brk => exact False.elim hq
    | cont => exact False.elim hq
/-! what is asked of a caught exception (at a, its class c, its dict d) -/
def rIsS (K : PySem.W.Frag) (a : Addr) (c : Value) (d : Option Addr) : List V → Hp → VK → Prop := fun xs H Q => ∃ (D dd : Addr) (fs : List (Str × V)) (t : V) (tv : Value) (b : Bool), xs = [.ref a, t] ∧ c = .ref D ∧ d = some dd ∧ ExcC K D ∧ (∀ u, RelV t u → u = tv) ∧ PySem.W.kitOne K (.ref D) tv = some b ∧ H dd = some (.xd fs) ∧ Q (.bl b) H
theorem call_isS {X : Cx} {a : Addr} {oe : Obj} {c : Value} {d : Option Addr} (hp : (a, oe) ∈ X.pn) (hz : Zc c d oe) (hf : ∃ vs, oe.data = .fields vs) : CallR X (.builtin "isinstance") (rIsS X.K a c d) := by
  intro pins s σ H xs us Q I r h
  obtain ⟨D, dd, fs, c', cv, b, rfl, rfl, rfl, C, hcv, e, hx, q⟩ := h
  cases r with
  | cons rx rr =>
    cases rr with
    | cons rt rr =>
      cases rr
      cases rx
      have ec := hcv _ rt
      subst ec
      obtain ⟨hget, _⟩ := I.pin (a, oe) (List.mem_append.mpr (.inl hp))
      obtain ⟨vs, hv⟩ := hf
      have hx : ObjOk X.prog X.w H s.heap dd (.xd fs) := I.hok dd _ hx
      obtain ⟨mA, hns, hr⟩ := hx
      obtain ⟨od, ho, hl⟩ := lookIn_ns hns
      have J : PySem.W.InstAt s.heap a oe D (some od) := ⟨hget, hz.1, by unfold PySem.W.notCls; rw [hv] <;> rfl, by rw [hz.2]; exact ho⟩
      obtain ⟨cd0, hc0, _⟩ := PySem.W.any_some C.hd
      exact PySem.W.kia_one (PySem.W.kitx_exc (od := some od) (by rw [hc0]; rfl) C.hg C.hk C.hs C.ha C.hn C.ht C.hm) I.kIn J e (fun z => nomatch z) fun tk => ⟨.bl b, H, I.kept (t' := tk) fun _ _ z => z, rfl, q⟩
/-- e.n, e the caught exception -/
def tXs (K : PySem.W.Frag) (a : Addr) (c : Value) (d : Option Addr) (n : Str) (te : TE) : TE := fun σ H Q => te σ H fun x H1 => x = .ref a ∧ ∃ (C dd : Addr) (fs : List (Str × V)) (v : V), c = .ref C ∧ d = some dd ∧ XfC K C ∧ PySem.W.findIn K (.ref C) n = some none ∧ H1 dd = some (.xd fs) ∧ fs.lookup n = some v ∧ Q v H1
theorem pe_xs {X : Cx} {a : Addr} {oe : Obj} {c : Value} {d : Option Addr} {e : Expr} {te : TE} {pos : Pos} {n : Str} (hp : (a, oe) ∈ X.pn) (hz : Zc c d oe) (hf : ∃ vs, oe.data = .fields vs) (he : PE X e te) (hb : attributeBase e n X.env (eval e X.env) = eval e X.env := by rfl) :
    PE X (.Attribute e n pos) (tXs X.K a c d n te) := by
  refine ⟨fun pins s σ H Q I h => ?_⟩
  refine attr_of hb (thn (he.run pins s σ H _ I h) fun u s1 hh => ?_)
  obtain ⟨x, H1, I1, rx, ex, C, dd, fs, v, ec, ed, T, hno, ea, l, q⟩ := hh
  subst ex
  obtain rfl : u = Value.ref a := rx
  subst ec
  subst ed
  obtain ⟨ha, _⟩ := I1.pin (a, oe) (List.mem_append_left _ hp)
  obtain ⟨vs, hd⟩ := hf
  have hx : ObjOk X.prog X.w H1 s1.heap dd (.xd fs) := I1.hok dd _ ea
  obtain ⟨mA, hns, hr⟩ := hx
  obtain ⟨od, ho, hl⟩ := lookIn_ns hns
  obtain ⟨u, hu, ru⟩ := RelO.some_of (v := v) (o := mA n) (by rw [← l]; exact hr n)
  have J : PySem.W.InstAt s1.heap a oe C (some od) := ⟨ha, hz.1, by unfold PySem.W.notCls; rw [hd] <;> rfl, by rw [hz.2]; exact ho⟩
  exact HandSPX.exc_get I1.kIn J T.ga T.gg T.exC (PySem.W.findObj_own T.hdC hno rfl (by rw [hl, hu])) (handed_of ru) ⟨v, H1, I1.tok _, ru, q⟩
theorem call_isSK {X : Cx} {K : PySem.W.Frag} (h : X.K = K) {a : Addr} {oe : Obj} {c : Value} {d : Option Addr} (hp : (a, oe) ∈ X.pn) (hz : Zc c d oe) (hf : ∃ vs, oe.data = .fields vs) : CallR X (.builtin "isinstance") (rIsS K a c d) := h ▸ call_isS hp hz hf
theorem pe_xsK {X : Cx} {K : PySem.W.Frag} (h : X.K = K) {a : Addr} {oe : Obj} {c : Value} {d : Option Addr} {e : Expr} {te : TE} {pos : Pos} {n : Str} (hp : (a, oe) ∈ X.pn) (hz : Zc c d oe) (hf : ∃ vs, oe.data = .fields vs) (he : PE X e te) (hb : attributeBase e n X.env (eval e X.env) = eval e X.env := by rfl) :
    PE X (.Attribute e n pos) (tXs K a c d n te) := h ▸ pe_xs hp hz hf he hb
/-! the body of such an __init__ -/
def Shorty (t : TE) (σ : L2.St) (H : Hp) : Prop := ∀ Q' : VK, (∀ y : Str, y.length ≤ 2000 → Q' (.str y) H) → t σ H Q'
theorem shorty_c {z : Str} {σ : L2.St} {H : Hp} (h : z.length ≤ 2000) : Shorty (tC (.str z)) σ H := fun Q' q => q z h
theorem shorty_f {i : Nat} {v : V} {σ : L2.St} {H : Hp} (hs : σ[i]? = some (some v)) (hv : FmtV v) : Shorty (tFmt (tVar i)) σ H := fun Q' q => by
  refine ⟨v, hs, ?_⟩
  rcases hv with ⟨y, rfl, hy⟩ | ⟨i, rfl, h1, h2⟩
  · exact .inl ⟨y, rfl, by rw [sizeLine_eq]; omega, q y (by omega)⟩
  · have h3 : i.natAbs.log2 < 1920 := Nat.lt_of_lt_of_le (PySem.Flt.log2_lt_of (k := 200) (by decide) (by omega)) (by decide)
    exact .inr ⟨i, rfl, h3, q _ (Nat.le_trans (PyProof.Rows.int_text_len_1921 h3) (by decide))⟩
theorem str_app_len (a b : Str) : (a ++ b).length = a.length + b.length := by
  show (a.cps ++ b.cps).size = _
  rw [Array.size_append]
  rfl
theorem js_any {σ : L2.St} {H : Hp} {Q : Str → Hp → Prop} (q : ∀ out, Q out H) : ∀ (ts : List TE) (acc : Str), (∀ t ∈ ts, Shorty t σ H) → acc.length + 2000 * ts.length ≤ 1000000 → tJs ts acc σ H Q
  | [], acc, _, _ => q acc
  | t :: ts, acc, h, hz => by
    simp only [List.length_cons] at hz
    exact h t (List.mem_cons_self ..) _ fun y hy => ⟨y, rfl, by rw [str_app_len, sizeLine_eq]; omega, js_any q ts (acc ++ y) (fun u hu => h u (List.mem_cons_of_mem _ hu)) (by rw [str_app_len]; omega)⟩
theorem g_ost {K : PySem.W.Frag} {C a : Addr} {n : Str} {v : V} {D : Ends} {σ : L2.St} {H : Hp} (ha : H a = some (exo a C none)) (T : OexC K C) (hn : PySem.W.findIn K (.ref C) n = some none) (h0 : σ[0]? = some (some (.ref a))) (h1 : σ[1]? = some (some v))
    (q : ∀ d H', H d = none → d ≠ a → (∀ b o, b ≠ a → H b = some o → H' b = some o) → (∀ b, H' b = none → H b = none) → H' a = some (exo a C (some d)) → H' d = some (exd d [(n, v)]) → D.nx σ H') : tOst K n (tVar 0) (tVar 1) D σ H := by
  refine ⟨v, h1, .ref a, h0, a, C, rfl, T, hn, .inl ⟨ha, fun dx hd hda => q dx _ hd hda (fun b o hb ho => ?_) (fun b hb => ?_) upd_same ?_⟩⟩
  · rw [upd_ne hb, upd_ne (ne_of_none ho hd)]
    exact ho
  · by_cases z : b = a
    · rw [z, upd_same] at hb; cases hb
    · rw [upd_ne z] at hb
      by_cases y : b = dx
      · rw [y]; exact hd
      · rw [upd_ne y] at hb; exact hb
  · rw [upd_ne hda, upd_same]
/-! defs with defaults, in any mode -/
section
variable {X : Cx} {CX : CXT} {k n : Nat} {f : Addr} {fd : FuncData} {ps ks : List Str} {sp : Sp} {E : L2.St → XK} {x : Str} {p pos : Pos} {e : Expr} {es : List Expr} {kws : List Keyword} {t tk : TA} {g : List Value → List Value → List Value} {gV : List V → List V → List V} {ds : List Value} {dvs : List V}
def tCallSD (sp : Sp) (dvs : List V) (E : L2.St → XK) (t : TA) : TE := fun σ H Q => t σ H fun vs H1 => sp (vs ++ dvs) H1 Q (E σ)
def tCallNS (n m : Nat) (sp : Sp) (gV : List V → List V → List V) (E : L2.St → XK) (t tk : TA) : TE := fun σ H Q => t σ H fun vs H1 => tk σ H1 fun zs H2 => vs.length = n ∧ zs.length = m ∧ sp (gV vs zs) H2 Q (E σ)
theorem run_fnSD {pins : List (Addr × Obj)} {σ : L2.St} {H : Hp} {s : Shared} {Q : VK} {us : List Value} {vs : List V} (F : FnOk X.prog X.w X.K X.mg X.base CX k f fd ps sp) (hr : Room k X.A) (hb : Binds X.K fd ps ds) (hd : Vals dvs ds) (hx : PassesAt CX X σ (E σ))
    (I : Inv X pins σ H s) (r : Vals vs us) (h : sp (vs ++ dvs) H Q (E σ)) : wpAny (model X.prog X.w) X.A (call (.ref f) us) (EP X pins σ Q) X.xe s := by
  have r2 := r.append hd
  have hl : (us ++ ds).length = ps.length := by rw [← r2.length]; exact F.len _ _ _ _ h
  refine wpAny_call (codeAny_mono (F.run X.A X.stack s H ⟨us, []⟩ (us ++ ds) (vs ++ dvs) Q (E σ) hr I.env0 (hb s us I.kIn hl) r2 h) fun r s' hq => ?_)
  cases r with
  | error e => exact hx pins H s e s' I hq
  | ok fl =>
    cases fl with
    | ret u => exact I.after hq
    | next => exact False.elim hq
    | brk => exact False.elim hq
    | cont => exact False.elim hq
theorem pe_callSD (F : FnOk X.prog X.w X.K X.mg X.base CX k f fd ps sp) (hr : Room k X.A) (hg : Gl X x) (hm : X.mg x = some (.ref f)) (hk : PySem.W.keepIn X.K (.ref f) = true) (hb : Binds X.K fd ps ds) (hd : Vals dvs ds) (hx : ∀ σ, PassesAt CX X σ (E σ))
    (ha : PA X (e :: es) t) (hdb : (x == ("__debug__" : Str)) = false := by decide) (he : starEach (e :: es) X.env = (false, eval e X.env) :: starEach es X.env := by rfl) (hpl : (backTo pos (starEach es X.env)).any (·.1) = false := by rfl) :
    PE X (.Call (.Name x p) (e :: es) [] pos) (tCallSD sp dvs E t) := by
  refine ⟨fun pins s σ H Q I h => ?_⟩
  refine wpAny_Call_Name_kw (ld_glob I hg hm ?_ hdb)
  refine PySem.W.callWith_K (h₀ := X.base) I.ok.mod.kin hk (thn (ha.run pos pins s σ H _ I h) fun us s1 ⟨vs, H1, I1, r, q⟩ => ⟨I1.kIn, ?_⟩) he hpl
  exact run_fnSD F hr hb hd (hx σ) I1 r q
theorem run_fnNS {pins : List (Addr × Obj)} {σ : L2.St} {H : Hp} {s : Shared} {Q : VK} {us ws : List Value} {vs zs : List V} (F : FnOk X.prog X.w X.K X.mg X.base CX k f fd ps sp) (hr : Room k X.A) (hb : KBn X.K fd ps n ks g gV) (hx : PassesAt CX X σ (E σ))
    (I : Inv X pins σ H s) (r : Vals vs us) (rz : Vals zs ws) (l1 : vs.length = n) (l2 : zs.length = ks.length) (h : sp (gV vs zs) H Q (E σ)) : wpAny (model X.prog X.w) X.A (call (.ref f) us (ks.zip ws)) (EP X pins σ Q) X.xe s := by
  have r2 := hb.rel r rz
  refine wpAny_call (codeAny_mono (F.run X.A X.stack s H ⟨us, ks.zip ws⟩ (g us ws) (gV vs zs) Q (E σ) hr I.env0 (hb.to s us ws I.kIn (r.length.symm.trans l1) (rz.length.symm.trans l2)) r2 h) fun r s' hq => ?_)
  cases r with
  | error e => exact hx pins H s e s' I hq
  | ok fl =>
    cases fl with
    | ret u => exact I.after hq
    | next => exact False.elim hq
    | brk => exact False.elim hq
    | cont => exact False.elim hq
theorem pe_callNS (F : FnOk X.prog X.w X.K X.mg X.base CX k f fd ps sp) (hr : Room k X.A) (hg : Gl X x) (hm : X.mg x = some (.ref f)) (hk : PySem.W.keepIn X.K (.ref f) = true) (hb : KBn X.K fd ps n ks g gV) (hx : ∀ σ, PassesAt CX X σ (E σ))
    (ha : PA X (e :: es) t) (hkw : PK X kws tk) (hall : (backToKw pos (keywordEach kws X.env)).all (·.1.isSome) = true := by rfl) (hks : (backToKw pos (keywordEach kws X.env)).filterMap (·.1) = ks := by rfl)
    (hdb : (x == ("__debug__" : Str)) = false := by decide) (he : starEach (e :: es) X.env = (false, eval e X.env) :: starEach es X.env := by rfl)
    (hpl : ((backTo pos (starEach (e :: es) X.env)).any (·.1) || (backToKw pos (keywordEach kws X.env)).any (·.1.isNone)) = false := by rfl) :
    PE X (.Call (.Name x p) (e :: es) kws pos) (tCallNS n ks.length sp gV E t tk) := by
  refine ⟨fun pins s σ H Q I h => ?_⟩
  refine wpAny_Call_Name_kw (ld_glob I hg hm ?_ hdb)
  refine PySem.W.callWith_KW (h₀ := X.base) I.ok.mod.kin hk hall (thn (ha.run pos pins s σ H _ I h) fun us s1 ⟨vs, H1, I1, r, q⟩ => ?_) hpl he
  refine thn (hkw.run pos pins s1 σ H1 _ I1 q) fun ws s2 ⟨zs, H2, I2, rz, l1, l2, q2⟩ => ⟨I2.kIn, ?_⟩
  rw [hks]
  exact run_fnNS F hr hb (hx σ) I2 r rz l1 l2 q2
variable {σ : L2.St} {H : Hp} {Q : VK}
instance : Step (tCallSD sp dvs E t σ H Q) (t σ H fun vs H1 => sp (vs ++ dvs) H1 Q (E σ)) := ⟨fun q => q⟩
instance {m : Nat} : Step (tCallNS n m sp gV E t tk σ H Q) (t σ H fun vs H1 => tk σ H1 fun zs H2 => vs.length = n ∧ zs.length = m ∧ sp (gV vs zs) H2 Q (E σ)) := ⟨fun q => q⟩
end
/-- the def x as the top left it, with its defaults -/
structure DfG (K : PySem.W.Frag) (mg : Str → Option Value) (x : Str) (st : Stmt) (dvs : List V) (kws : List (Str × V)) : Prop where
  ex : ∃ (f : Addr) (fd : FuncData), mg x = some (.ref f) ∧ FunD K x x (defArgs st) (defBody st) (defScope st) dvs kws f fd
/-- .. may be called (CX: what it may let out) -/
structure ClG (CX : CXT) (P : Program) (w : World) (K : PySem.W.Frag) (mg : Str → Option Value) (base : Heap) (k : Nat) (x : Str) (st : Stmt) (ps : List Str) (dvs : List V) (kws : List (Str × V)) (sp : Sp) : Prop where
  ex : ∃ (f : Addr) (fd : FuncData), mg x = some (.ref f) ∧ FunD K x x (defArgs st) (defBody st) (defScope st) dvs kws f fd ∧ FnOk P w K mg base CX k f fd ps sp
theorem DfG.ok {P : Program} {w : World} {K : PySem.W.Frag} {mg : Str → Option Value} {base : Heap} {CX : CXT} {x : Str} {st : Stmt} {N ps : List Str} {dvs : List V} {kws : List (Str × V)} {k : Nat} {sp : Sp} (D : DfG K mg x st dvs kws) (S : FnScope N ps (defScope st)) (len : ∀ vs H Q E, sp vs H Q E → vs.length = ps.length)
    (hbody : ∀ (f : Addr) (cdv : Value) (A : Around) (outer : List Env) (s : Shared) (H : Hp) (vs : List V) (Q : VK) (E : XK), Room k (A.deeper (envOfC x (defScope st) s.heap.objs.size f cdv)) → sp vs H Q E →
      ∃ t, PSs (cxOf CX P w K mg base N x (defScope st) f cdv A outer s H E) (defBody st) t ∧ t { nx := fun _ H' => Q .non H', rt := Q } (start N vs) H) : ClG CX P w K mg base (k + 1) x st ps dvs kws sp := by
  obtain ⟨f, fd, h1, h2⟩ := D.ex
  exact ⟨f, fd, h1, h2, h2.ok S len fun cdv A outer s H vs Q E hr h => hbody f cdv A outer s H vs Q E hr h⟩
theorem passC {X : Cx} {W : WX} (tk : Takes X W) (σ : L2.St) : PassesAt (L2.CX X.prog X.w) X σ (WE W σ) := passAt tk σ
section
variable {X : Cx} {CX : CXT} {k n : Nat} {ps ks : List Str} {sp : Sp} {E : L2.St → XK} {x : Str} {p pos : Pos} {e : Expr} {es : List Expr} {kw : List Keyword} {t tk : TA} {st : Stmt} {dvs : List V} {kws : List (Str × V)}
/-- every parameter given by place -/
theorem pe_g (C : ClG CX X.prog X.w X.K X.mg X.base k x st ps [] kws sp) (hr : Room k X.A) (hx : ∀ σ, PassesAt CX X σ (E σ))
    (h : ∀ (kV doc pm : Value) (an : Option Addr) (cdv ct : Value) (us : List Value), us.length = ps.length → bindArgs (PySem.W.fnOf x x (defArgs st) (defBody st) (defScope st) .none kV doc pm an cdv ct) ⟨us, []⟩ = pure (ps.zip us))
    (ha : PA X (e :: es) t) (hg : Gl X x := by rfl) (hdb : (x == ("__debug__" : Str)) = false := by decide)
    (he : starEach (e :: es) X.env = (false, eval e X.env) :: starEach es X.env := by rfl) (hpl : (backTo pos (starEach es X.env)).any (·.1) = false := by rfl) :
    PE X (.Call (.Name x p) (e :: es) [] pos) (tCallSD sp [] E t) := by
  obtain ⟨f, fd, h1, h2, h4⟩ := C.ex
  exact pe_callSD h4 hr hg h1 h2.kp (h2.bindsN h) .nil hx ha hdb he hpl
/-- the keyword-only ones lack -/
theorem pe_g0 (C : ClG CX X.prog X.w X.K X.mg X.base k x st ps [] kws sp) (hr : Room k X.A) (hx : ∀ σ, PassesAt CX X σ (E σ)) (n : Nat) (hk : kws ≠ []) (hn : n + kws.length = ps.length)
    (h : ∀ (D : Addr) (doc pm : Value) (an : Option Addr) (cdv ct : Value) (us ks : List Value), us.length = n → ks.length = kws.length →
      KwChain D ((kws.map (·.1)).zip ks) (bindArgs (PySem.W.fnOf x x (defArgs st) (defBody st) (defScope st) .none (.ref D) doc pm an cdv ct) ⟨us, []⟩) (ps.zip (us ++ ks)))
    (ha : PA X (e :: es) t) (hg : Gl X x := by rfl) (hdb : (x == ("__debug__" : Str)) = false := by decide)
    (he : starEach (e :: es) X.env = (false, eval e X.env) :: starEach es X.env := by rfl) (hpl : (backTo pos (starEach es X.env)).any (·.1) = false := by rfl) :
    PE X (.Call (.Name x p) (e :: es) [] pos) (tCallSD sp (kws.map (·.2)) E t) := by
  obtain ⟨f, fd, h1, h2, h4⟩ := C.ex
  obtain ⟨ds, r, b⟩ := h2.binds0 n hk hn h
  exact pe_callSD h4 hr hg h1 h2.kp b r hx ha hdb he hpl
/-- the last ones lack (places with defaults; no keyword-only parameters) -/
theorem pe_g1 (C : ClG CX X.prog X.w X.K X.mg X.base k x st ps dvs kws sp) (hr : Room k X.A) (hx : ∀ σ, PassesAt CX X σ (E σ)) (n j : Nat) (hd : dvs ≠ []) (hn : n + (dvs.length - j) = ps.length)
    (h : ∀ (T : Addr) (kV doc pm : Value) (an : Option Addr) (cdv ct : Value) (us its : List Value), us.length = n → its.length = dvs.length →
      ∃ k, bindArgs (PySem.W.fnOf x x (defArgs st) (defBody st) (defScope st) (.ref T) kV doc pm an cdv ct) ⟨us, []⟩ = seqItems? (.ref T) >>= k ∧ k (some its.toArray) = pure (ps.zip (us ++ its.drop j)))
    (ha : PA X (e :: es) t) (hg : Gl X x := by rfl) (hdb : (x == ("__debug__" : Str)) = false := by decide)
    (he : starEach (e :: es) X.env = (false, eval e X.env) :: starEach es X.env := by rfl) (hpl : (backTo pos (starEach es X.env)).any (·.1) = false := by rfl) :
    PE X (.Call (.Name x p) (e :: es) [] pos) (tCallSD sp (dvs.drop j) E t) := by
  obtain ⟨f, fd, h1, h2, h4⟩ := C.ex
  obtain ⟨ds, r, b⟩ := h2.binds1 n j hd hn h
  exact pe_callSD h4 hr hg h1 h2.kp b r hx ha hdb he hpl
theorem pe_gk (C : ClG CX X.prog X.w X.K X.mg X.base k x st ps [] kws sp) (hr : Room k X.A) (hx : ∀ σ, PassesAt CX X σ (E σ)) (n : Nat) (ks : List Str) (ms : List (Str × V)) (g : {α : Type} → List α → List α → List α → List α) (hk : kws ≠ []) (hms : ∀ q ∈ ms, q ∈ kws)
    (hrel : ∀ {vs mz zs : List V} {us mv ws : List Value}, Vals vs us → Vals mz mv → Vals zs ws → Vals (g vs mz zs) (g us mv ws))
    (h : ∀ (D : Addr) (doc pm : Value) (an : Option Addr) (cdv ct : Value) (us mv ws : List Value), us.length = n → mv.length = ms.length → ws.length = ks.length →
      KwChain D ((ms.map (·.1)).zip mv) (bindArgs (PySem.W.fnOf x x (defArgs st) (defBody st) (defScope st) .none (.ref D) doc pm an cdv ct) ⟨us, ks.zip ws⟩) (ps.zip (g us mv ws)))
    (ha : PA X (e :: es) t) (hkw : PK X kw tk) (hg : Gl X x := by rfl) (hall : (backToKw pos (keywordEach kw X.env)).all (·.1.isSome) = true := by rfl) (hks : (backToKw pos (keywordEach kw X.env)).filterMap (·.1) = ks := by rfl)
    (hdb : (x == ("__debug__" : Str)) = false := by decide) (he : starEach (e :: es) X.env = (false, eval e X.env) :: starEach es X.env := by rfl)
    (hpl : ((backTo pos (starEach (e :: es) X.env)).any (·.1) || (backToKw pos (keywordEach kw X.env)).any (·.1.isNone)) = false := by rfl) :
    PE X (.Call (.Name x p) (e :: es) kw pos) (tCallNS n ks.length sp (fun vs zs => g vs (ms.map (·.2)) zs) E t tk) := by
  obtain ⟨f, fd, h1, h2, h4⟩ := C.ex
  obtain ⟨mv, b⟩ := h2.kbinds0 n ks ms g hk hms hrel h
  exact pe_callNS h4 hr hg h1 h2.kp b hx ha hkw hall hks hdb he hpl
end
theorem passC0 {X : Cx} (σ : L2.St) : PassesAt CX0 X σ E0 := fun _ _ _ _ _ _ h => h.elim
theorem DfG.okP {P : Program} {w : World} {K : PySem.W.Frag} {mg : Str → Option Value} {base : Heap} {x : Str} {st : Stmt} {N ps : List Str} {dvs : List V} {kws : List (Str × V)} {k : Nat} {sp : Sp} (D : DfG K mg x st dvs kws) (S : FnScope N ps (defScope st)) (len : ∀ vs H Q E, sp vs H Q E → vs.length = ps.length)
    (hbody : ∀ (f : Addr) (cdv : Value) (A : Around) (outer : List Env) (s : Shared) (H : Hp) (vs : List V) (Q : VK) (E : XK), Room k (A.deeper (envOfC x (defScope st) s.heap.objs.size f cdv)) → sp vs H Q E →
      ∃ t, PSs (cxOf CX0 P w K mg base N x (defScope st) f cdv A outer s H E).nox (defBody st) t ∧ t { nx := fun _ H' => Q .non H', rt := Q } (start N vs) H) : ClG CX0 P w K mg base (k + 1) x st ps dvs kws sp :=
  D.ok S len fun f cdv A outer s H vs Q E hr h => by
    obtain ⟨t, a, b⟩ := hbody f cdv A outer s H vs Q E hr h
    exact ⟨t, a.nox, b⟩
theorem DfG.okS {P : Program} {w : World} {K : PySem.W.Frag} {mg : Str → Option Value} {base : Heap} {x : Str} {st : Stmt} {N ps : List Str} {k : Nat} {sp : Addr → Value → Option Addr → Sp} (D : DfG K mg x st [] []) (S : FnScope N ps (defScope st)) (len : ∀ a c d vs H Q E, sp a c d vs H Q E → vs.length = ps.length)
    (hb : ∀ (kV doc pm : Value) (an : Option Addr) (cdv ct : Value) (us : List Value), us.length = ps.length → bindArgs (PySem.W.fnOf x x (defArgs st) (defBody st) (defScope st) .none kV doc pm an cdv ct) ⟨us, []⟩ = pure (ps.zip us))
    (hbody : ∀ (f : Addr) (cdv : Value) (A : Around) (outer : List Env) (s : Shared) (H : Hp) (vs : List V) (Q : VK) (E : XK) (a : Addr) (oe : Obj) (c : Value) (d : Option Addr), RoomH k (A.deeper (envOfC x (defScope st) s.heap.objs.size f cdv)) → Zc c d oe → (∃ fv, oe.data = .fields fv) → sp a c d vs H Q E →
      ∃ t, PSs (cxH CX0 P w K mg base N x (defScope st) f cdv A outer s H E (a, oe)) (defBody st) t ∧ t { nx := fun _ H' => Q .non H', rt := Q } (start N vs) H) : ClS P w K mg base (k + 1) x ps sp := by
  obtain ⟨f, fd, h1, h2⟩ := D.ex
  obtain ⟨oc, od, dV, kV, doc, pm, an, cdv, ct, osl, rfl, lk, hcd, hD, _⟩ := h2.ex
  have hd : dV = .none := by
    rcases hD with ⟨_, e⟩ | ⟨e, _⟩
    · exact e
    · exact absurd rfl e
  subst hd
  exact ⟨f, _, h1, h2.kp, hb kV doc pm an cdv ct, fn_ofS lk hcd S len fun A outer s H vs Q E a oe c d hr hz hf h => hbody f cdv A outer s H vs Q E a oe c d hr hz hf h⟩
theorem ex_nox {X : Cx} {body : List Stmt} {R : TS → Prop} (h : ∃ t, PSs X.nox body t ∧ R t) : ∃ t, PSs X body t ∧ R t := by
  obtain ⟨t, a, b⟩ := h
  exact ⟨t, a.nox, b⟩
theorem hu64H {k : Nat} {A : Around} (hr : RoomH k A) : A.units + 64 < cLine := by
  have := hr.un
  omega
theorem dfg_mk {K : PySem.W.Frag} {mg : Str → Option Value} {h : Heap} {x : Str} {st : Stmt} {f : Addr} {oc dV kV : Value} {od an : Option Addr} {osl : Array (Option Value)} {doc pm cdv ct : Value} {dvs : List V} {kws : List (Str × V)} (X : K.In h) (G : h.Ns mainGlobals mg)
    (a : PySem.W.nsIn K mainGlobals x = some (some (.ref f))) (l : K.lookup f = some ⟨oc, od, .func (PySem.W.fnOf x x (defArgs st) (defBody st) (defScope st) dV kV doc pm an cdv ct), osl⟩)
    (c : PySem.W.codeIn K cdv x = true) (k : PySem.W.keepIn K (.ref f) = true) (d : DflV K dV dvs) (q : KwdV K kV kws) : DfG K mg x st dvs kws :=
  ⟨f, _, PySem.W.mg_of X G a, ⟨⟨oc, od, dV, kV, doc, pm, an, cdv, ct, osl, rfl, l, c, d, q⟩, k⟩⟩
instance {C : Addr} {n : Str} {ta : TA} {σ : L2.St} {H : Hp} {Q : XK} : Step (tMk1 C n ta σ H Q) (ta σ H fun vs H1 => rMk1 C n vs H1 Q) := ⟨fun q => q⟩

/-! ### a try's wish, a caught exception: steps -/
section
variable {K : PySem.W.Frag} {c cls : Value} {i : Nat} {ts : Addr → Value → Option Addr → TS} {Wout : WX} {D : Ends} {d : Option Addr} {σ τ : L2.St} {H H1 : Hp} {Q : VK} {a C dd : Addr} {fs : List (Str × V)} {n : Str} {v : V} {te : TE}
def rUnset (i : Nat) (R : L2.St → Hp → Prop) (σ : L2.St) (H : Hp) : Prop := R (σ.set i none) H
instance {R : L2.St → Hp → Prop} [h : SetL σ i none τ] : Step (rUnset i R σ H) (R τ H) := ⟨fun q => by show R _ H; rw [h.eq]; exact q⟩
theorem g_wasT (hb : PySem.W.exmOne K cls c = some true) (q : ∀ a, Nw H a → gName i (.ref a) σ H fun σ' H' => ts a cls d (Ends.mk (fun σ' H' => rUnset i D.nx σ' H') D.rt (fun σ' H' => rUnset i D.bk σ' H') (fun σ' H' => rUnset i D.ct σ' H')) σ' H') :
    wAs K c i ts Wout D cls d σ H := ⟨true, hb, fun _ a ha => q a ⟨ha⟩, fun h => nomatch h⟩
theorem g_wasF (hb : PySem.W.exmOne K cls c = some false) (q : Wout cls d σ H) : wAs K c i ts Wout D cls d σ H := ⟨false, hb, fun h => (nomatch h), fun _ => q⟩
theorem g_wonT (hb : PySem.W.exmOne K cls c = some true) (q : ∀ a, Nw H a → ts a cls d D σ H) : wOnly K c ts Wout D cls d σ H := ⟨true, hb, fun _ a ha => q a ⟨ha⟩, fun h => nomatch h⟩
theorem g_wonF (hb : PySem.W.exmOne K cls c = some false) (q : Wout cls d σ H) : wOnly K c ts Wout D cls d σ H := ⟨false, hb, fun h => (nomatch h), fun _ => q⟩
theorem g_isS {t : V} {tv : Value} {b : Bool} [h : At H dd (.xd fs)] (xc : ExcC K C) (hv : ∀ u, RelV t u → u = tv) (kt : PySem.W.kitOne K (.ref C) tv = some b) (q : Q (.bl b) H) : rIsS K a (.ref C) (some dd) [.ref a, t] H Q :=
  ⟨C, dd, fs, t, tv, b, rfl, rfl, rfl, xc, hv, kt, h.eq, q⟩
def rXs (K : PySem.W.Frag) (a : Addr) (c : Value) (d : Option Addr) (n : Str) (x : V) (H1 : Hp) (Q : VK) : Prop := x = .ref a ∧ ∃ (C dd : Addr) (fs : List (Str × V)) (v : V), c = .ref C ∧ d = some dd ∧ XfC K C ∧ PySem.W.findIn K (.ref C) n = some none ∧ H1 dd = some (.xd fs) ∧ fs.lookup n = some v ∧ Q v H1
instance : Step (tXs K a c d n te σ H Q) (te σ H fun x H1 => rXs K a c d n x H1 Q) := ⟨fun q => q⟩
theorem g_xs [h : At H dd (.xd fs)] (T : XfC K C) (hf : PySem.W.findIn K (.ref C) n = some none) (hl : fs.lookup n = some v) (q : Q v H) : rXs K a (.ref C) (some dd) n (.ref a) H Q :=
  ⟨rfl, C, dd, fs, v, rfl, rfl, T, hf, h.eq, hl, q⟩
end
/-! ### the end: what the written part says of the classes -/
section
open PySem.W
variable {P : Program} {K : Frag} {S T : Addr} {b : Bool}
theorem kitc_of (h2 : isClsIn K T = true) (h3 : typeIn K (.ref T) = some (.type "type")) (h4 : subIn K (.ref S) (.ref T) = some b) : kitCls K (.ref S) (.ref T) = some b := by
  have h2' : (clsIn K T).isSome = true := h2
  show (if ((clsIn K T).isSome && typeIn K (.ref T) == some (.type "type")) = true then subIn K (.ref S) (.ref T) else none) = some b
  rw [h2', h3, if_pos (by decide)]
  exact h4
theorem exm_of (h1 : subIn K (.ref T) (.type "BaseException") = some true) (h2 : isClsIn K T = true) (h3 : typeIn K (.ref T) = some (.type "type")) (h4 : subIn K (.ref S) (.ref T) = some b) : exmOne K (.ref S) (.ref T) = some b := by
  unfold exmOne
  rw [h1, if_pos (by decide)]
  exact kitc_of h2 h3 h4
theorem kit_same : kitOne K (.ref S) (.ref S) = some true := by
  unfold kitOne
  rw [if_pos (by simp)]
theorem kit_ne (h : (Value.ref S == Value.ref T) = false) (h2 : isClsIn K T = true) (h3 : typeIn K (.ref T) = some (.type "type")) (h4 : subIn K (.ref S) (.ref T) = some b) : kitOne K (.ref S) (.ref T) = some b := by
  unfold kitOne
  rw [h, if_neg Bool.false_ne_true]
  exact kitc_of h2 h3 h4
theorem kit_tyB {x : String} (h1 : kitMeta x = true) (h4 : subIn K (.ref S) (.type x) = some b) : kitOne K (.ref S) (.type x) = some b := by
  unfold kitOne
  rw [if_neg (by intro h; cases (beq_iff_eq.mp h))]
  show (if kitMeta x = true then subIn K (.ref S) (.type x) else none) = some b
  rw [if_pos h1]
  exact h4
theorem exm_tyB {x : String} (h1 : kitMeta x = true) (h2 : subIn K (.type x) (.type "BaseException") = some true) (h4 : subIn K (.ref S) (.type x) = some b) : exmOne K (.ref S) (.type x) = some b := by
  unfold exmOne
  rw [h2, if_pos (by decide)]
  show (if kitMeta x = true then subIn K (.ref S) (.type x) else none) = some b
  rw [if_pos h1]
  exact h4
theorem find_mro {C : Addr} {cd : ClassData} {n : Str} (h : clsIn K C = some cd) : findIn K (.ref C) n = alongIn K n cd.mro := by
  unfold clsIn at h
  unfold findIn
  split at h
  · rename_i e
    cases h
    simp only [e]
  · cases h
theorem drop_head {v : Value} {r : List Value} : ((v :: r).dropWhile (· != v)).drop 1 = r := by
  rw [List.dropWhile_cons_of_neg]
  · rfl
  · simp
theorem sup_of {C : Addr} {cd cdS : ClassData} {n : Str} {r : Option Value} (h1 : clsIn K C = some cd) (h2 : clsIn K S = some cdS) (hm : cd.mro = .ref C :: cdS.mro) (hf : findIn K (.ref S) n = some r) : ks_superIn K C C n = some r := by
  unfold ks_superIn
  rw [h1, Option.bind_some, hm, drop_head, ← find_mro h2]
  exact hf
theorem dfl1 {A : Addr} {v : V} {u oc : Value} {od : Option Addr} {n : Nat} {sl : Array (Option Value)} (l : K.lookup A = some ⟨oc, od, .seq #[u] n, sl⟩) (r : RelV v u) : DflV K (.ref A) [v] := .inr ⟨by simp, A, _, [u], n, rfl, l, rfl, .cons r .nil⟩
theorem dfl2 {A : Addr} {v v2 : V} {u u2 oc : Value} {od : Option Addr} {n : Nat} {sl : Array (Option Value)} (l : K.lookup A = some ⟨oc, od, .seq #[u, u2] n, sl⟩) (r : RelV v u) (r2 : RelV v2 u2) : DflV K (.ref A) [v, v2] := .inr ⟨by simp, A, _, [u, u2], n, rfl, l, rfl, .cons r (.cons r2 .nil)⟩
theorem exd_mk {mg : Str → Option Value} {sx : Str} {h : Heap} {x qual : Str} {st : Stmt} {ps : List Str} {C f c cc N : Addr} {nm q n : Str} {bs bm : List Value} {sn : List Str} {sub : List Value} {ab : Bool} {col : Option Bool} {dd : Option Addr} {k0 k1 k2 k3 k5 : Option Value}
    {cd cdS : ClassData} {oc doc pm ct cl ccl : Value} {od cld cdd : Option Addr} {osl csl ccs : Array (Option Value)} {vs : Array Value} {file : Str} {tf : Tok} (X : K.In h) (G : h.Ns mainGlobals mg) (aS : nsIn K mainGlobals sx = some (some (.ref S)))
    (a : nsIn K mainGlobals x = some (some (.ref C))) (xL : K.lookup C = some (excClassObj nm q C N bs bm true sn sub ab col dd k0 k1 k2 k3 k5 "ValueError.__new__")) (hbm : PySem.HandSPX.refsVE bm = true)
    (sa : findIn K (.ref C) "__setattr__" = some (some (.builtin "object.__setattr__"))) (exC : subIn K (.ref C) (.type "BaseException") = some true) (tyC : typeIn K (.ref C) = some (.type "type")) (kC : keepIn K (.ref C) = true)
    (mro : mroIn K C (.ref C) = some true) (h1 : clsIn K C = some cd) (h2 : clsIn K S = some cdS) (hm : cd.mro = .ref C :: cdS.mro) (hf : findIn K (.ref S) "__init__" = some (some (.builtin "ValueError.__init__"))) (sub' : subIn K (.ref C) (.type "ValueError") = some true)
    (hn : ps[1]? = some n) (fl : findIn K (.ref C) n = some none) (i1 : findIn K (.ref C) "__init__" = some (some (.ref f))) (i2 : typeIn K (.ref f) = some (.type "function"))
    (lf : K.lookup f = some ⟨oc, od, .func (fnX "__init__" qual (defArgs st) (defBody st) (defScope st) [("__class__", cc)] .none .none doc pm none (.ref c) ct), osl⟩) (cf : codeIn K (.ref c) qual = true)
    (lc : K.lookup c = some ⟨ccl, cdd, .fields vs, ccs⟩) (hv : vs[2]? = some (.str file tf)) (hfile : ((P.main.file : Str) == file) = true) (lcc : K.lookup cc = some ⟨cl, cld, .cell (some (.ref C)), csl⟩)
    (ns : nsIn K mainGlobals "super" = some none) (top : (P.main.scope.names.lookup ("super" : Str)).isSome = false) (op : nsIn K cStatics "thirdparty.any" = some none) : ExD P K mg x qual st ps C :=
  ⟨mg_of X G a, ⟨⟨⟨nm, q, N, bs, bm, sn, sub, ab, col, dd, k0, k1, k2, k3, k5, xL, hbm⟩, sa, exC, tyC, kC⟩, mro, sup_of h1 h2 hm hf, sub'⟩, fun m hm => by rw [hn] at hm; cases hm; exact fl,
    f, _, i1, i2, ⟨c, cc, oc, doc, pm, ct, cl, ccl, od, cld, cdd, osl, csl, ccs, vs, file, tf, cd, rfl, lf, cf, lc, hv, hfile, lcc, h1⟩, mg_none_of X G ns, top, op⟩
end
end Gx

set_option linter.all false
set_option maxRecDepth 100000
set_option maxHeartbeats 2000000
/-! Gr: methods of an own class, Rounds, tuples. -/
namespace Gx
open PySem PySem.Spec PyProof.Rows L2 _root_.ClX StX
/-! ### sums of tuples, tuples joined, cut, asked by a place -/
section
variable {X : Cx} {K : PySem.W.Frag} {H : Hp} {Q : VK} {a b p : Addr} {xs ys : List V} {ns ms : List Int}
def rSumT (K : PySem.W.Frag) : List V → Hp → VK → Prop := fun vs H Q => ∃ (a : Addr) (ns : List Int), vs = [V.ref a] ∧ SqT K H a (ns.map V.int) ∧ Q (.int ns.sum) H
theorem cr_sumT (hc : X.calm = true) : CallR X (.builtin "sum") (rSumT X.K) := by
  intro pins s σ H vs us Q I r h
  obtain ⟨a, ns, rfl, hs, q⟩ := h
  obtain ⟨its, rv, hl, _⟩ := I.tuple hs
  rw [Vals.ref1 r]
  have hi : IntsAre its ns := rv.ints
  obtain ⟨xs, e⟩ := hi.allInts.items
  have hn : numsOf (intItems xs).toList = ns := by rw [← e]; exact hi.numsOf
  rw [nums_intItems] at hn
  rw [e] at hl
  refine PySem.W.ktm_sumG (I.ok.hd hc) hl fun h' tk t' hk => ?_
  rw [preSum_eq, List.take_of_length_le (by simp), hn]
  exact ⟨.int _, H, I.kept hk, ⟨_, rfl⟩, q⟩
def rSumX (K : PySem.W.Frag) : List V → Hp → VK → Prop := fun vs H Q => rSum K vs H Q ∨ rSumT K vs H Q
theorem callSumXK (h : X.K = K) (hc : X.calm = true) : CallR X (.builtin "sum") (rSumX K) := by
  subst h
  intro pins s σ H vs us Q I r h
  rcases h with h | h
  · exact cr_sum hc pins s σ H vs us Q I r h
  · exact cr_sumT hc pins s σ H vs us Q I r h
instance [h : SqC K H a (ns.map V.int)] : Step (rSumX K [V.ref a] H Q) (Q (.int ns.sum) H) := ⟨fun q => .inl ⟨a, ns, rfl, h.sq, q⟩⟩
instance [h : StC K H a (ns.map V.int)] : Step (rSumX K [V.ref a] H Q) (Q (.int ns.sum) H) := ⟨fun q => .inr ⟨a, ns, rfl, h.st, q⟩⟩
/-- a tuple of these ints at a: fresh or not -/
theorem g_catT [h1 : StC K H a (ns.map V.int)] [h2 : StC K H b (ms.map V.int)] [k1 : At H a (.tup (ns.map V.int))] [k2 : At H b (.tup (ms.map V.int))] (hz : ns.length + ms.length ≤ 100000) (q : ∀ p H2, Ex H H2 → At H2 p (.tup ((ns ++ ms).map V.int)) → Q (.ref p) H2) : rAdd K (.ref a) (.ref b) H Q := by
  refine .inr (.inr (.inr ⟨a, b, _, _, rfl, rfl, h1.st, h2.st, by rw [List.length_map, List.length_map]; exact Nat.le_trans hz (by decide), fun e => ?_, fun _ e => ?_, fun _ _ p hp => ?_⟩))
  · have e' : ns = [] := List.map_eq_nil_iff.mp e
    subst e'
    exact q b H (Ex.refl H) k2
  · have e' : ms = [] := List.map_eq_nil_iff.mp e
    subst e'
    exact q a H (Ex.refl H) ⟨by rw [List.append_nil]; exact k1.eq⟩
  · exact q p _ (Ex.mk hp) ⟨by rw [List.map_append]; exact upd_same⟩
/-- the places a cut takes -/
def cutI (ns : List Int) (lo hi : Option Int) : List Int := (ns.drop (HT.sIx ns.length 0 lo)).take (HT.sIx ns.length ns.length hi - HT.sIx ns.length 0 lo)
theorem cutV_int {lo hi : Option Int} : cutV (ns.map V.int) lo hi = (cutI ns lo hi).map V.int := by
  unfold cutV cutI
  rw [List.length_map, List.map_take, List.map_drop]
theorem g_slTup {lo hi : Option Int} [h : StC K H a (ns.map V.int)] [k : At H a (.tup (ns.map V.int))] (q : ∀ p H2, Ex H H2 → At H2 p (.tup ((cutI ns lo hi).map V.int)) → Q (.ref p) H2) : rSlX K (.ref a) lo hi H Q := by
  refine .inr (.inr ⟨a, _, rfl, h.st, fun e => ?_, fun _ p hp => ?_⟩)
  · refine q a H (Ex.refl H) ⟨?_⟩
    rw [List.length_map] at e
    rw [k.eq, ← cutV_int]
    unfold cutV
    rw [List.length_map, e.1, e.2, List.drop_zero, Nat.sub_zero, List.take_of_length_le (by simp)]
  · exact q p _ (Ex.mk hp) ⟨by rw [← cutV_int]; exact upd_same⟩
theorem g_ixTI {i : Int} [h : StC K H a (ns.map V.int)] (h0 : 0 ≤ i) (h1 : i < (ns.length : Int)) (q : Q (.int (ns.getD i.toNat 0)) H) : rIx K (.ref a) (.int i) H Q := by
  obtain ⟨j, rfl⟩ : ∃ j : Nat, i = (j : Int) := ⟨i.toNat, by omega⟩
  refine g_ixT (atI_nat ?_) q
  have h2 : j < ns.length := by omega
  rw [List.getElem?_map, List.getElem?_eq_getElem h2, Option.map_some, Int.toNat_natCast, List.getD_eq_getElem?_getD, List.getElem?_eq_getElem h2, Option.getD_some]
instance (priority := high) [h : StC K H p (ns.map V.int)] : Step (rLen K [.ref p] H Q) (Q (.int (ns.length : Nat)) H) := ⟨fun q => g_len len_t (by rw [List.length_map]; exact q)⟩
/-! lists and tuples made of a list or a tuple -/
theorem g_listOfT [h : StC K H p xs] (q : ∀ p H2, Nw H p → Ex H H2 → At H2 p (.lst xs) → Q (.ref p) H2) : rListOf K [V.ref p] H Q := ⟨p, xs, rfl, .inr h.st, g_new q⟩
def rTupOf (K : PySem.W.Frag) : List V → Hp → VK → Prop := fun xs H Q => ∃ p ys, xs = [.ref p] ∧ ((SqL K H p ys ∧ ∀ l, H l = none → Q (.ref l) (upd H l (.tup ys))) ∨ (SqT K H p ys ∧ Q (.ref p) H))
theorem callTupOfK (h : X.K = K) : CallR X (.type "tuple") (rTupOf K) := h ▸ call_tuple_of
instance [h : StC K H p xs] : Step (rTupOf K [.ref p] H Q) (Q (.ref p) H) := ⟨fun q => ⟨p, xs, rfl, .inr ⟨h.st, q⟩⟩⟩
theorem g_tupOfL [h : SqC K H p xs] (q : ∀ p H2, Nw H p → Ex H H2 → At H2 p (.tup xs) → Q (.ref p) H2) : rTupOf K [V.ref p] H Q := ⟨p, xs, rfl, .inl ⟨h.sq, g_new q⟩⟩
theorem cdivP {i j : Int} (h : 0 < j ∧ j < 2 ^ 200) (h2 : -(2 ^ 300) < i ∧ i < 2 ^ 300) : CDivP i j := by
  refine divp_ok h.1 ?_
  have b : ∀ x : Int, Builtin.Int.intBits x ≤ x.natAbs.log2 + 1 := fun x => by
    unfold Builtin.Int.intBits
    split
    · omega
    · omega
  have h3 := b i
  have h4 : i.natAbs.log2 < 300 := PySem.Flt.log2_lt_of (k := 300) (by decide) (by omega)
  omega
def rDivmod : List V → Hp → VK → Prop := fun xs H Q => ∃ i j, xs = [.int i, .int j] ∧ CDivP i j ∧ ∀ p, H p = none → Q (.ref p) (upd H p (.tup [.int (i / j), .int (i % j)]))
theorem callDivmod : CallR X (.builtin "divmod") rDivmod := call_divmodW
theorem g_divmod {H : Hp} {Q : VK} {i j : Int} (h : CDivP i j) (q : ∀ p H2, Nw H p → Ex H H2 → At H2 p (.tup [.int (i / j), .int (i % j)]) → Q (.ref p) H2) : rDivmod [.int i, .int j] H Q := ⟨i, j, rfl, h, g_new q⟩
end
/-! ### methods -/
structure DfM (K : PySem.W.Frag) (C : Addr) (m qual : Str) (st : Stmt) (dvs : List V) (kws : List (Str × V)) : Prop where
  ex : ∃ (f : Addr) (fd : FuncData), Meth K C m f ∧ FunD K m qual (defArgs st) (defBody st) (defScope st) dvs kws f fd
structure ClM (CX : CXT) (P : Program) (w : World) (K : PySem.W.Frag) (mg : Str → Option Value) (base : Heap) (k : Nat) (C : Addr) (m qual : Str) (st : Stmt) (ps : List Str) (dvs : List V) (kws : List (Str × V)) (sp : Sp) : Prop where
  ex : ∃ (f : Addr) (fd : FuncData), Meth K C m f ∧ FunD K m qual (defArgs st) (defBody st) (defScope st) dvs kws f fd ∧ FnOk P w K mg base CX k f fd ps sp
section
variable {P : Program} {w : World} {K : PySem.W.Frag} {mg : Str → Option Value} {base : Heap}
theorem DfM.ok {CX : CXT} {C : Addr} {m qual : Str} {st : Stmt} {N ps : List Str} {dvs : List V} {kws : List (Str × V)} {k : Nat} {sp : Sp} (D : DfM K C m qual st dvs kws) (S : FnScope N ps (defScope st)) (len : ∀ vs H Q E, sp vs H Q E → vs.length = ps.length)
    (hbody : ∀ (f : Addr) (cdv : Value) (A : Around) (outer : List Env) (s : Shared) (H : Hp) (vs : List V) (Q : VK) (E : XK), Room k (A.deeper (envOfC qual (defScope st) s.heap.objs.size f cdv)) → sp vs H Q E →
      ∃ t, PSs (cxOf CX P w K mg base N qual (defScope st) f cdv A outer s H E) (defBody st) t ∧ t { nx := fun _ H' => Q .non H', rt := Q } (start N vs) H) : ClM CX P w K mg base (k + 1) C m qual st ps dvs kws sp := by
  obtain ⟨f, fd, h1, h2⟩ := D.ex
  exact ⟨f, fd, h1, h2, h2.ok S len fun cdv A outer s H vs Q E hr h => hbody f cdv A outer s H vs Q E hr h⟩
theorem DfM.okP {C : Addr} {m qual : Str} {st : Stmt} {N ps : List Str} {dvs : List V} {kws : List (Str × V)} {k : Nat} {sp : Sp} (D : DfM K C m qual st dvs kws) (S : FnScope N ps (defScope st)) (len : ∀ vs H Q E, sp vs H Q E → vs.length = ps.length)
    (hbody : ∀ (f : Addr) (cdv : Value) (A : Around) (outer : List Env) (s : Shared) (H : Hp) (vs : List V) (Q : VK) (E : XK), Room k (A.deeper (envOfC qual (defScope st) s.heap.objs.size f cdv)) → sp vs H Q E →
      ∃ t, PSs (cxOf CX0 P w K mg base N qual (defScope st) f cdv A outer s H E).nox (defBody st) t ∧ t { nx := fun _ H' => Q .non H', rt := Q } (start N vs) H) : ClM CX0 P w K mg base (k + 1) C m qual st ps dvs kws sp :=
  D.ok S len fun f cdv A outer s H vs Q E hr h => by
    obtain ⟨t, a, b⟩ := hbody f cdv A outer s H vs Q E hr h
    exact ⟨t, a.nox, b⟩
end
section
variable {X : Cx} {CX : CXT} {k : Nat} {C : Addr} {m qual : Str} {st : Stmt} {ps : List Str} {sp : Sp} {E : XK} {o e : Expr} {es : List Expr} {ta : TE} {t : TA} {apos pos : Pos} {pl : Sem Bool}
theorem pe_m (M : ClM CX X.prog X.w X.K X.mg X.base k C m qual st ps [] [] sp) (c : Cls X.K C) (hr : Room k X.A) (hx : Passes CX X E)
    (h : ∀ (kV doc pm : Value) (an : Option Addr) (cdv ct : Value) (us : List Value), us.length = ps.length → bindArgs (PySem.W.fnOf m qual (defArgs st) (defBody st) (defScope st) .none kV doc pm an cdv ct) ⟨us, []⟩ = pure (ps.zip us))
    (he : PE X o ta) (ha : PA X (e :: es) t)
    (hst : starEach (e :: es) X.env = (false, eval e X.env) :: starEach es X.env := by rfl) (hpl : (backTo pos (starEach es X.env)).any (·.1) = false := by rfl)
    (ht : eval (.Call (.Attribute o m apos) (e :: es) [] pos) X.env = (do
      let ov ← eval o X.env
      standAt apos.atName
      let (f, first) ← holding [ov] (getMethod ov m pl)
      callWith pos f first (backTo pos (starEach (e :: es) X.env)) (backToKw pos (keywordEach [] X.env))) := by rfl) :
    PE X (.Call (.Attribute o m apos) (e :: es) [] pos) (tMeth C m sp [] E ta t) := by
  obtain ⟨f, fd, h1, h2, h4⟩ := M.ex
  exact pe_meth he c h1 h4 hr (h2.bindsN h) .nil hx ha hst hpl ht
theorem pe_m0 (M : ClM CX X.prog X.w X.K X.mg X.base k C m qual st ps [] [] sp) (c : Cls X.K C) (hr : Room k X.A) (hx : Passes CX X E)
    (h : ∀ (kV doc pm : Value) (an : Option Addr) (cdv ct : Value) (us : List Value), us.length = ps.length → bindArgs (PySem.W.fnOf m qual (defArgs st) (defBody st) (defScope st) .none kV doc pm an cdv ct) ⟨us, []⟩ = pure (ps.zip us))
    (he : PE X o ta)
    (ht : eval (.Call (.Attribute o m apos) [] [] pos) X.env = (do
      let ov ← eval o X.env
      standAt apos.atName
      let (f, first) ← holding [ov] (getMethod ov m pl)
      callWith pos f first (backTo pos (starEach [] X.env)) (backToKw pos (keywordEach [] X.env))) := by rfl) :
    PE X (.Call (.Attribute o m apos) [] [] pos) (tMeth C m sp [] E ta tNil) := by
  obtain ⟨f, fd, h1, h2, h4⟩ := M.ex
  exact pe_meth0 he c h1 h4 hr (h2.bindsN h) .nil hx ht
end
section
variable {K : PySem.W.Frag} {σ : L2.St} {H H1 : Hp} {Q : VK} {C a : Addr} {m f : Str} {sp : Sp} {dvs : List V} {E : XK} {ta tv : TE} {t : TA} {x y : V} {bs : List Int} {D : Ends}
def rMeth (C : Addr) (m : Str) (sp : Sp) (dvs : List V) (E : XK) (t : TA) (σ : L2.St) (x : V) (H1 : Hp) (Q : VK) : Prop := ∃ a dx fs, x = .ref a ∧ H1 a = some (.ins C dx fs) ∧ fs.lookup m = none ∧ t σ H1 fun vs H2 => sp (x :: (vs ++ dvs)) H2 Q E
instance : Step (tMeth C m sp dvs E ta t σ H Q) (ta σ H fun x H1 => rMeth C m sp dvs E t σ x H1 Q) := ⟨fun q => q⟩
theorem g_rmeth [h : RdC C H1 a bs] (hm : (m == ("_budgets" : Str)) = false) (q : t σ H1 fun vs H2 => sp (.ref a :: (vs ++ dvs)) H2 Q E) : rMeth C m sp dvs E t σ (.ref a) H1 Q := by
  obtain ⟨dx, p, h1, h2⟩ := h.ex
  refine ⟨a, dx, _, rfl, h1, ?_, q⟩
  rw [List.lookup_cons, hm]
  rfl
def rFld (K : PySem.W.Frag) (f : Str) (x : V) (H1 : Hp) (Q : VK) : Prop := ∃ a C dx fs v, x = .ref a ∧ H1 a = some (.ins C dx fs) ∧ Cls K C ∧ NoAttr K C f ∧ fs.lookup f = some v ∧ Q v H1
instance : Step (tFld K ta f σ H Q) (ta σ H fun x H1 => rFld K f x H1 Q) := ⟨fun q => q⟩
theorem g_fldB [h : RdC C H1 a bs] (c : Cls K C) (n : NoAttr K C "_budgets") (q : ∀ p, At H1 p (.tup (bs.map V.int)) → Q (.ref p) H1) : rFld K "_budgets" (.ref a) H1 Q := by
  obtain ⟨dx, p, h1, h2⟩ := h.ex
  exact ⟨a, C, dx, _, _, rfl, h1, c, n, rfl, q p ⟨h2⟩⟩
def rProp (C : Addr) (sp : Sp) (dvs : List V) (E : XK) (x : V) (H1 : Hp) (Q : VK) : Prop := ∃ a dx fs, x = .ref a ∧ H1 a = some (.ins C dx fs) ∧ sp (.ref a :: dvs) H1 Q E
instance : Step (tProp C sp dvs E ta σ H Q) (ta σ H fun x H1 => rProp C sp dvs E x H1 Q) := ⟨fun q => q⟩
instance [h : RdC C H1 a bs] : Step (rProp C sp dvs E (.ref a) H1 Q) (sp (.ref a :: dvs) H1 Q E) := ⟨fun q => by
  obtain ⟨dx, p, h1, h2⟩ := h.ex
  exact ⟨a, dx, _, rfl, h1, q⟩⟩
end
/-! ### a Round made -/
/-- __init__(self, *budgets): what it is given, at its own frame -/
def spIni (C : Addr) : Sp := fun vs H Q E => ∃ (a dx t : Addr) (bs : List Int), vs = [.ref a, .ref t] ∧ (H a = some (.ins C dx []) ∧ At H t (.tup (bs.map V.int)) ∧ 1 ≤ bs.length ∧ bs.length ≤ 12 ∧ ∀ b ∈ bs, 0 ≤ b) ∧
  ∀ H', (∀ b o, b ≠ a → H b = some o → H' b = some o) → (∀ b, H' b = none → H b = none) → H' a = some (.ins C dx [("_budgets", .ref t)]) → Q .non H'
structure DfI (K : PySem.W.Frag) (C : Addr) (qual : Str) (st : Stmt) : Prop where
  ex : ∃ (f : Addr) (oc doc pm cdv ct : Value) (an od : Option Addr) (osl : Array (Option Value)), Mk K C f ∧ K.lookup f = some ⟨oc, od, .func (PySem.W.fnOf "__init__" qual (defArgs st) (defBody st) (defScope st) .none .none doc pm an cdv ct), osl⟩ ∧ PySem.W.codeIn K cdv qual = true
structure ClI (CX : CXT) (P : Program) (w : World) (K : PySem.W.Frag) (mg : Str → Option Value) (base : Heap) (k : Nat) (C : Addr) : Prop where
  ex : ∃ f, Mk K C f ∧ FnR P w K mg base CX k f (fun vs H Q E => ∃ ws rest, vs = ws ++ rest ∧ ws.length = 1 ∧ rest.length ≤ sizeLine ∧ ∀ p, H p = Option.none → spIni C (ws ++ [V.ref p]) (upd H p (.tup rest)) Q E)
theorem DfI.ok {CX : CXT} {P : Program} {w : World} {K : PySem.W.Frag} {mg : Str → Option Value} {base : Heap} {C : Addr} {qual : Str} {st : Stmt} {N : List Str} {k : Nat} (D : DfI K C qual st) (S : FnScope N ["self", "budgets"] (defScope st)) (hCX : CXUp CX)
    (hb : ∀ (doc pm cdv ct : Value) (an : Option Addr) (us rest : List Value), us.length = 1 → bindArgs (PySem.W.fnOf "__init__" qual (defArgs st) (defBody st) (defScope st) .none .none doc pm an cdv ct) ⟨us ++ rest, []⟩ = (newTuple rest >>= fun t => pure ((["self"] : List Str).zip us ++ [(("budgets" : Str), t)])))
    (hbody : ∀ (f : Addr) (cdv : Value) (A : Around) (outer : List Env) (s : Shared) (H : Hp) (vs : List V) (Q : VK) (E : XK), Room k (A.deeper (envOfC qual (defScope st) s.heap.objs.size f cdv)) → spIni C vs H Q E →
      ∃ t, PSs (cxOf CX P w K mg base N qual (defScope st) f cdv A outer s H E) (defBody st) t ∧ t { nx := fun _ H' => Q .non H', rt := Q } (start N vs) H) : ClI CX P w K mg base (k + 1) C := by
  obtain ⟨f, oc, doc, pm, cdv, ct, an, od, osl, h1, lk, hcd⟩ := D.ex
  exact ⟨f, h1, fn_star (ps := ["self"]) (pv := "budgets") lk hcd S hCX (hb doc pm cdv ct an) fun A outer s H vs Q E hr h => hbody f cdv A outer s H vs Q E hr h⟩
section
variable {X : Cx} {CX : CXT} {k : Nat} {C : Addr} {x : Str} {e : Expr} {es : List Expr} {t : TA} {E : XK} {p pos : Pos}
def rMkR (C : Addr) (E : XK) (vs : List V) (H1 : Hp) (Q : VK) : Prop := ∀ x dx, H1 x = none → H1 dx = none → dx ≠ x → (∃ ws rest, V.ref x :: vs = ws ++ rest ∧ ws.length = 1 ∧ rest.length ≤ sizeLine ∧ ∀ p, (upd (upd H1 dx (.own x)) x (.ins C dx [])) p = Option.none → spIni C (ws ++ [V.ref p]) (upd (upd (upd H1 dx (.own x)) x (.ins C dx [])) p (.tup rest)) (fun v H2 => v = .non ∧ Q (.ref x) H2) E)
def tMkR (C : Addr) (E : XK) (t : TA) : TE := fun σ H Q => t σ H fun vs H1 => rMkR C E vs H1 Q
theorem pe_mkR (M : ClI CX X.prog X.w X.K X.mg X.base k C) (hr : Room (k + 1) X.A) (hg : Gl X x) (hm : X.mg x = some (.ref C)) (hx : Passes CX X E) (ha : PA X (e :: es) t) (hdb : (x == ("__debug__" : Str)) = false := by decide)
    (he : starEach (e :: es) X.env = (false, eval e X.env) :: starEach es X.env := by rfl) (hpl : (backTo pos (starEach es X.env)).any (·.1) = false := by rfl) :
    PE X (.Call (.Name x p) (e :: es) [] pos) (tMkR C E t) := by
  obtain ⟨f, h1, F⟩ := M.ex
  exact pe_makeR h1 F hr hg hm hx ha hdb he hpl
/-- C(*y) -/
def tMkS (K : PySem.W.Frag) (C : Addr) (E : XK) (te : TE) : TE := fun σ H Q => te σ H fun y H1 => ∃ a xs, y = V.ref a ∧ (SqT K H1 a xs ∨ SqL K H1 a xs) ∧ rMkR C E xs H1 Q
theorem pe_mkS {K : PySem.W.Frag} {te : TE} {sp_ : Pos} (hK : X.K = K) (M : ClI CX X.prog X.w X.K X.mg X.base k C) (hr : Room (k + 1) X.A) (hg : Gl X x) (hm : X.mg x = some (.ref C)) (hx : Passes CX X E) (he : PE X e te) (hd : (x == ("__debug__" : Str)) = false := by decide)
    (hst : starEach [.Starred e sp_] X.env = [(true, eval e X.env)] := by rfl) :
    PE X (.Call (.Name x p) [.Starred e sp_] [] pos) (tMkS K C E te) := by
  subst hK
  obtain ⟨f, h1, F⟩ := M.ex
  refine ⟨fun pins s σ H Q I h => ?_⟩
  refine wpAny_Call_Name_kw (ld_glob I hg hm ?_ hd)
  refine PySem.W.callWith_S (h₀ := X.base) I.ok.mod.kin h1.kp (thn (he.run pins s σ H _ I h) fun v s1 ⟨y, H1, I1, ry, a, xs, ey, hxs, q⟩ => ?_) hst
  subst ey
  obtain rfl : v = Value.ref a := ry
  exact star_any I1 hxs fun us s2 I2 rv => ⟨I2.kIn, run_makeR h1 F hr hx I2 rv q⟩
theorem g_mkR {bs : List Int} {H1 : Hp} {Q : VK} (h : 1 ≤ bs.length ∧ bs.length ≤ 12) (h0 : ∀ b ∈ bs, 0 ≤ b) (q : ∀ a H', Nw H1 a → Ex H1 H' → RdC C H' a bs → Q (.ref a) H') : rMkR C E (bs.map V.int) H1 Q := by
  intro x dx hx hdx hne
  refine ⟨[.ref x], bs.map V.int, rfl, rfl, by rw [List.length_map, sizeLine_eq]; omega, fun p hp => ?_⟩
  have hxp : x ≠ p := fun e => by rw [← e, upd_same] at hp; cases hp
  have hdp : dx ≠ p := fun e => by rw [← e, upd_ne hne, upd_same] at hp; cases hp
  have hp1 : H1 p = none := by rw [upd_ne hxp.symm, upd_ne hdp.symm] at hp; exact hp
  refine ⟨x, dx, p, bs, rfl, ⟨by rw [upd_ne hxp, upd_same], ⟨upd_same⟩, h.1, h.2, h0⟩, fun H' keep live hx' => ⟨rfl, q x H' ⟨hx⟩ ?_ ⟨dx, p, hx', ?_⟩⟩⟩
  · have K1 : ∀ b o, H1 b = some o → H' b = some o := fun b o hb => by
      have hbx : b ≠ x := ne_of_none hb hx
      refine keep b o hbx ?_
      rw [upd_ne (ne_of_none hb hp1), upd_ne hbx, upd_ne (ne_of_none hb hdx)]
      exact hb
    refine ⟨fun b o _ => K1 b o, fun b hb => ?_, fun b o _ => K1 b o⟩
    have h2 := live b hb
    by_cases z : b = p
    · rw [z]; exact hp1
    · rw [upd_ne z] at h2
      by_cases y : b = x
      · rw [y]; exact hx
      · rw [upd_ne y] at h2
        by_cases u : b = dx
        · rw [u]; exact hdx
        · rw [upd_ne u] at h2; exact h2
  · exact keep p _ hxp.symm upd_same
instance {σ : L2.St} {H : Hp} {Q : VK} : Step (tMkR C E t σ H Q) (t σ H fun vs H1 => rMkR C E vs H1 Q) := ⟨fun q => q⟩
def rMkS (K : PySem.W.Frag) (C : Addr) (E : XK) (y : V) (H1 : Hp) (Q : VK) : Prop := ∃ a xs, y = V.ref a ∧ (SqT K H1 a xs ∨ SqL K H1 a xs) ∧ rMkR C E xs H1 Q
instance {K : PySem.W.Frag} {σ : L2.St} {te : TE} {H : Hp} {Q : VK} : Step (tMkS K C E te σ H Q) (te σ H fun y H1 => rMkS K C E y H1 Q) := ⟨fun q => q⟩
instance {K : PySem.W.Frag} {a : Addr} {xs : List V} {H : Hp} {Q : VK} [h : StC K H a xs] : Step (rMkS K C E (.ref a) H Q) (rMkR C E xs H Q) := ⟨fun q => ⟨a, xs, rfl, .inl h.st, q⟩⟩
instance {K : PySem.W.Frag} {a : Addr} {xs : List V} {H : Hp} {Q : VK} [h : SqC K H a xs] : Step (rMkS K C E (.ref a) H Q) (rMkR C E xs H Q) := ⟨fun q => ⟨a, xs, rfl, .inr h.sq, q⟩⟩
end
/-! ### chains, loops over tuples -/
section
variable {σ : L2.St} {H H1 : Hp} {Q : VK} {r r' : R2} {ta tb tc : TE} {x y : V} {b : Bool}
def rChain (r r' : R2) (tc : TE) (σ : L2.St) (x y : V) (H2 : Hp) (Q : VK) : Prop := r x y H2 fun z H3 => ∃ k, z = .bl k ∧ (if k = true then tc σ H3 fun w' H4 => r' y w' H4 Q else Q (.bl false) H3)
instance : Step (tChain r r' ta tb tc σ H Q) (ta σ H fun x H1 => tb σ H1 fun y H2 => r x y H2 fun z H3 => ∃ k, z = .bl k ∧ (if k = true then tc σ H3 fun w' H4 => r' y w' H4 Q else Q (.bl false) H3)) := ⟨fun q => q⟩
theorem pi_tupK {X : Cx} {K : PySem.W.Frag} {tg l : Expr} {tl : TE} (h : X.K = K) (hl : PE X l tl) : PI X tg l (iTup K tl) := h ▸ pi_tup hl
end
/-! ### while -/
section
variable {σ : L2.St} {H : Hp} {D : Ends} {tt : TT} {tb : TS}
def rTurn (W : Nat → L2.St → Hp → Prop) (m : Nat) (tb : TS) (D : Ends) (σ : L2.St) (H1 : Hp) : Prop := ∃ N : L2.St → Hp → Prop, (∀ σ' H', N σ' H' → ∃ m', m' < m ∧ W m' σ' H') ∧ tb { D with nx := N, ct := N, bk := D.nx } σ H1
instance {W : Nat → L2.St → Hp → Prop} {m : Nat} : Step (rTurn W m tb D σ H) (tb { D with nx := fun σ' H' => ∃ m', m' < m ∧ W m' σ' H', ct := fun σ' H' => ∃ m', m' < m ∧ W m' σ' H', bk := D.nx } σ H) := ⟨fun q => ⟨_, fun _ _ z => z, q⟩⟩
/-- m falls at each turn -/
theorem whileX (bs : List Addr) (Pv : Nat → L2.St → Hp → Prop) (m : Nat) (h0 : Pv m σ H)
    (hs : ∀ (m : Nat) σ' H', Chg bs H H' → Pv m σ' H' → tt σ' H' fun b H1 => if b = true then rTurn (fun k σ2 H2 => LI bs H (Pv k) σ2 H2) m tb D σ' H1 else D.nx σ' H1) : tWhile tt tb D σ H :=
  ⟨fun k σ' H' => LI bs H (Pv k) σ' H', ⟨m, Chg.refl _ _, h0⟩, fun k σ' H' z => hs k σ' H' z.1 z.2⟩
end
/-! ### what the top says of the class Round -/
structure RdF (K : PySem.W.Frag) (mg : Str → Option Value) (C : Addr) : Prop where
  g : mg "Round" = some (.ref C)
  c : Cls K C
  nb : NoAttr K C "_budgets"
  most : CRead K C (.type "type") ∧ ∃ u : Value, CVal K C (.type "type") "MOST" (.int 12) u
  sf : PySem.W.selfFirst K C = true
  ty : PySem.W.findIn K (.ref C) "__class__" = some (some (.builtin "object.__class__")) ∧ PySem.W.specialIn K (.builtin "object.__class__") "__get__" = some (some (.builtin "getset_descriptor.__get__")) ∧ PySem.W.takesIn K (.builtin "object.__class__") = some true ∧ PySem.W.mroIn K C (.type "object") = some true
theorem rdf_mk {K : PySem.W.Frag} {h : Heap} {mg : Str → Option Value} {C : Addr} {t : Tok} (X : K.In h) (G : h.Ns mainGlobals mg) (a : PySem.W.nsIn K mainGlobals "Round" = some (some (.ref C))) (pg : PySem.W.plainGet K C Str.empty = true) (hd : PySem.W.hasDictIn K C = true) (po : PySem.W.plainOver K C = true)
    (sa : PySem.W.findIn K (.ref C) "__setattr__" = some (some (.builtin "object.__setattr__"))) (nb : PySem.W.findIn K (.ref C) "_budgets" = some none) (rd : PySem.W.readsIn K C (.type "type") = true) (ga : PySem.W.specialIn K (.ref C) "__getattribute__" = some (some (.builtin "type.__getattribute__")))
    (mo : PySem.W.findCls K (.ref C) (.type "type") "MOST" = some (.val (.int 12 t)))
    (sf : PySem.W.selfFirst K C = true) (t1 : PySem.W.findIn K (.ref C) "__class__" = some (some (.builtin "object.__class__"))) (t2 : PySem.W.specialIn K (.builtin "object.__class__") "__get__" = some (some (.builtin "getset_descriptor.__get__"))) (t3 : PySem.W.takesIn K (.builtin "object.__class__") = some true) (t4 : PySem.W.mroIn K C (.type "object") = some true) : RdF K mg C :=
  ⟨PySem.W.mg_of X G a, ⟨pg, hd, po, sa⟩, nb, ⟨⟨rd, ga⟩, _, mo, ⟨_, rfl⟩⟩, sf, t1, t2, t3, t4⟩
theorem dfm_mk {K : PySem.W.Frag} {C : Addr} {m qual : Str} {st : Stmt} {f : Addr} {oc dV kV : Value} {od an : Option Addr} {osl : Array (Option Value)} {doc pm cdv ct : Value} {dvs : List V} {kws : List (Str × V)}
    (a : PySem.W.findIn K (.ref C) m = some (some (.ref f))) (b : PySem.W.isFn K (.ref f) = true) (k : PySem.W.keepIn K (.ref f) = true) (l : K.lookup f = some ⟨oc, od, .func (PySem.W.fnOf m qual (defArgs st) (defBody st) (defScope st) dV kV doc pm an cdv ct), osl⟩)
    (c : PySem.W.codeIn K cdv qual = true) (d : DflV K dV dvs) (q : KwdV K kV kws) : DfM K C m qual st dvs kws :=
  ⟨f, _, ⟨a, b, k⟩, ⟨⟨oc, od, dV, kV, doc, pm, an, cdv, ct, osl, rfl, l, c, d, q⟩, k⟩⟩
theorem dfi_mk {K : PySem.W.Frag} {C : Addr} {qual : Str} {st : Stmt} {f : Addr} {oc : Value} {od an : Option Addr} {osl : Array (Option Value)} {doc pm cdv ct : Value}
    (mk : PySem.W.makesIn K C = true) (a : PySem.W.findIn K (.ref C) "__init__" = some (some (.ref f))) (b : PySem.W.isFn K (.ref f) = true) (k : PySem.W.keepIn K (.ref C) = true) (l : K.lookup f = some ⟨oc, od, .func (PySem.W.fnOf "__init__" qual (defArgs st) (defBody st) (defScope st) .none .none doc pm an cdv ct), osl⟩)
    (c : PySem.W.codeIn K cdv qual = true) : DfI K C qual st := ⟨f, oc, doc, pm, cdv, ct, an, od, osl, ⟨mk, a, b, k⟩, l, c⟩
/-! properties -/
structure DfP (K : PySem.W.Frag) (C : Addr) (m qual : Str) (st : Stmt) : Prop where
  ex : ∃ (p g : Addr) (fd : FuncData), PropOf K C m p g ∧ FunD K m qual (defArgs st) (defBody st) (defScope st) [] [] g fd
structure ClP (CX : CXT) (P : Program) (w : World) (K : PySem.W.Frag) (mg : Str → Option Value) (base : Heap) (k : Nat) (C : Addr) (m qual : Str) (st : Stmt) (sp : Sp) : Prop where
  ex : ∃ (p g : Addr) (fd : FuncData), PropOf K C m p g ∧ FunD K m qual (defArgs st) (defBody st) (defScope st) [] [] g fd ∧ FnOk P w K mg base CX k g fd ["self"] sp
theorem dfp_mk {K : PySem.W.Frag} {C : Addr} {m qual : Str} {st : Stmt} {p g : Addr} {rest : List Value} {oc : Value} {od an : Option Addr} {osl : Array (Option Value)} {doc pm cdv ct : Value}
    (a : PySem.W.findIn K (.ref C) m = some (some (.ref p))) (b : PySem.W.specialIn K (.ref p) "__get__" = some (some (.builtin "property.__get__"))) (t : PySem.W.takesIn K (.ref p) = some true) (r : PySem.W.recIn K p "property" = some (.ref g :: rest))
    (l : K.lookup g = some ⟨oc, od, .func (PySem.W.fnOf m qual (defArgs st) (defBody st) (defScope st) .none .none doc pm an cdv ct), osl⟩) (c : PySem.W.codeIn K cdv qual = true) (k : PySem.W.keepIn K (.ref g) = true) : DfP K C m qual st :=
  ⟨p, g, _, ⟨a, b, t, rest, r⟩, ⟨⟨oc, od, .none, .none, doc, pm, an, cdv, ct, osl, rfl, l, c, .inl ⟨rfl, rfl⟩, .inl rfl⟩, k⟩⟩
theorem DfP.okP {P : Program} {w : World} {K : PySem.W.Frag} {mg : Str → Option Value} {base : Heap} {C : Addr} {m qual : Str} {st : Stmt} {N : List Str} {k : Nat} {sp : Sp} (D : DfP K C m qual st) (S : FnScope N ["self"] (defScope st)) (len : ∀ vs H Q E, sp vs H Q E → vs.length = 1)
    (hbody : ∀ (f : Addr) (cdv : Value) (A : Around) (outer : List Env) (s : Shared) (H : Hp) (vs : List V) (Q : VK) (E : XK), Room k (A.deeper (envOfC qual (defScope st) s.heap.objs.size f cdv)) → sp vs H Q E →
      ∃ t, PSs (cxOf CX0 P w K mg base N qual (defScope st) f cdv A outer s H E).nox (defBody st) t ∧ t { nx := fun _ H' => Q .non H', rt := Q } (start N vs) H) : ClP CX0 P w K mg base (k + 1) C m qual st sp := by
  obtain ⟨p, g, fd, h1, h2⟩ := D.ex
  exact ⟨p, g, fd, h1, h2, h2.ok S len fun cdv A outer s H vs Q E hr h => by
    obtain ⟨t, a, b⟩ := hbody g cdv A outer s H vs Q E hr h
    exact ⟨t, a.nox, b⟩⟩
theorem pe_p {X : Cx} {CX : CXT} {k : Nat} {C : Addr} {m qual : Str} {st : Stmt} {sp : Sp} {E : XK} {e : Expr} {pos : Pos} {ta : TE} (M : ClP CX X.prog X.w X.K X.mg X.base k C m qual st sp) (c : Cls X.K C) (hr : Room (k + 1) X.A) (hx : Passes CX X.nox E)
    (h : ∀ (kV doc pm : Value) (an : Option Addr) (cdv ct : Value) (us : List Value), us.length = (["self"] : List Str).length → bindArgs (PySem.W.fnOf m qual (defArgs st) (defBody st) (defScope st) .none kV doc pm an cdv ct) ⟨us, []⟩ = pure ((["self"] : List Str).zip us))
    (he : PE X e ta) (hab : attributeBase e m X.env (eval e X.env) = eval e X.env := by rfl) : PE X (.Attribute e m pos) (tProp C sp [] E ta) := by
  obtain ⟨p, g, fd, h1, h2, h4⟩ := M.ex
  exact pe_prop he c h1 h4 hr (h2.bindsN h) .nil hx hab
/-! the class's constant -/
section
variable {K : PySem.W.Frag} {σ : L2.St} {H : Hp} {Q : VK} {ta : TE} {f : Str} {C : Addr} {mg : Str → Option Value}
def rCVal (K : PySem.W.Frag) (f : Str) (x : V) (H1 : Hp) (Q : VK) : Prop := ∃ C mc v u, x = .ref C ∧ CRead K C mc ∧ CVal K C mc f v u ∧ Q v H1
instance : Step (tCVal K ta f σ H Q) (ta σ H fun x H1 => rCVal K f x H1 Q) := ⟨fun q => q⟩
theorem g_most (R : RdF K mg C) (q : Q (.int 12) H) : rCVal K "MOST" (.ref C) H Q := by
  obtain ⟨h1, u, h2⟩ := R.most
  exact ⟨C, _, _, u, rfl, h1, h2, q⟩
/-- self._budgets = the tuple at t -/
def rFldS (K : PySem.W.Frag) (f : Str) (D : Ends) (σ : L2.St) (y : V) (x : V) (H2 : Hp) : Prop := ∃ a C dx fs, x = .ref a ∧ H2 a = some (.ins C dx fs) ∧ Cls K C ∧ NoAttr K C f ∧ fs.length < 1000 ∧ D.nx σ (upd H2 a (.ins C dx (putF f y fs)))
instance {tv : TE} {D : Ends} : Step (sFld K ta tv f D σ H) (tv σ H fun y H1 => ta σ H1 fun x H2 => rFldS K f D σ y x H2) := ⟨fun q => q⟩
theorem g_fldS {a dx : Addr} {y : V} {D : Ends} (h : H a = some (.ins C dx [])) (R : RdF K mg C) (q : D.nx σ (upd H a (.ins C dx [("_budgets", y)]))) : rFldS K "_budgets" D σ y (.ref a) H := ⟨a, C, dx, [], rfl, h, R.c, R.nb, by decide, q⟩
end
/-! ### own operators of two of one class -/
section
variable {X : Cx} {CX : CXT} {k : Nat} {C : Addr} {m qual : Str} {st : Stmt} {ps : List Str} {sp : Sp} {E : XK}
/-- own two-place operator: the answer is an object -/
def rOwn2 (C : Addr) (sp : Sp) (E : XK) : R2 := fun x y H Q => ∃ a b dx dy fs gs, x = .ref a ∧ y = .ref b ∧ H a = some (.ins C dx fs) ∧ H b = some (.ins C dy gs) ∧ sp [.ref a, .ref b] H (fun v H' => (∃ q, v = .ref q) ∧ Q v H') E
/-- own ==: the answer is a bool -/
def rOwnEq (C : Addr) (sp : Sp) (E : XK) : R2 := fun x y H Q => ∃ a b dx dy fs gs, x = .ref a ∧ y = .ref b ∧ H a = some (.ins C dx fs) ∧ H b = some (.ins C dy gs) ∧ sp [.ref a, .ref b] H (fun v H' => (∃ q, v = .bl q) ∧ Q v H') E
theorem opOwnAdd (M : ClM CX X.prog X.w X.K X.mg X.base k C "__add__" qual st ps [] [] sp) (c : PySem.W.selfFirst X.K C = true) (hr : Room k X.A) (hx : Passes CX X E)
    (h : ∀ (kV doc pm : Value) (an : Option Addr) (cdv ct : Value) (us : List Value), us.length = ps.length → bindArgs (PySem.W.fnOf "__add__" qual (defArgs st) (defBody st) (defScope st) .none kV doc pm an cdv ct) ⟨us, []⟩ = pure (ps.zip us)) :
    OpR X (binaryOp .Add) (rOwn2 C sp E) := by
  obtain ⟨f, fd, h1, h2, h4⟩ := M.ex
  intro pins s σ H x y v u Q I rx ry d
  obtain ⟨a, b, dx, dy, fs, gs, rfl, rfl, ha, hb', hsp⟩ := d
  cases rx
  cases ry
  obtain ⟨mA, J, _⟩ := ins_get I.hok ha
  obtain ⟨mB, J', _⟩ := ins_get I.hok hb'
  obtain ⟨od, J, _⟩ := J.look
  obtain ⟨od', J', _⟩ := J'.look
  obtain ⟨m', hF⟩ := I.fr
  refine PySem.W.binop_K (op := .Add) hF I.ok.mod.kin J J'.type c h1.at_ h1.fn ?_
  refine wpAny_mono (run_fn (us := [.ref a, .ref b]) (vs := [.ref a, .ref b]) h4 hr (h2.bindsN h) .nil hx I (.cons rfl (.cons rfl .nil)) hsp) (fun r s' z => ?_) fun _ _ e => e
  obtain ⟨z, H', I', rz, ⟨q, ez⟩, hq⟩ := z
  subst ez
  cases rz
  exact ⟨.ref q, H', I', rfl, hq⟩
theorem opOwnEq (M : ClM CX X.prog X.w X.K X.mg X.base k C "__eq__" qual st ps [] [] sp) (hr : Room k X.A) (hx : Passes CX X E)
    (h : ∀ (kV doc pm : Value) (an : Option Addr) (cdv ct : Value) (us : List Value), us.length = ps.length → bindArgs (PySem.W.fnOf "__eq__" qual (defArgs st) (defBody st) (defScope st) .none kV doc pm an cdv ct) ⟨us, []⟩ = pure (ps.zip us)) :
    OpR X (compareOp .Eq) (rOwnEq C sp E) := by
  obtain ⟨f, fd, h1, h2, h4⟩ := M.ex
  intro pins s σ H x y v u Q I rx ry d
  obtain ⟨a, b, dx, dy, fs, gs, rfl, rfl, ha, hb', hsp⟩ := d
  cases rx
  cases ry
  obtain ⟨mA, J, _⟩ := ins_get I.hok ha
  obtain ⟨mB, J', _⟩ := ins_get I.hok hb'
  obtain ⟨od, J, _⟩ := J.look
  obtain ⟨od', J', _⟩ := J'.look
  obtain ⟨m', hF⟩ := I.fr
  show wpAny (model X.prog X.w) X.A (richCompare .Eq (.ref a) (.ref b)) (EP X pins σ Q) X.xe s
  refine PySem.W.cmp_K (op := .Eq) (tb := .ref C) hr.units0 hF I.ok.mod.kin J J'.type (by simp [PySem.W.notFirst]) h1.at_ h1.fn ?_
  refine wpAny_mono (run_fn (us := [.ref a, .ref b]) (vs := [.ref a, .ref b]) h4 hr (h2.bindsN h) .nil hx I (.cons rfl (.cons rfl .nil)) hsp) (fun r s' z => ?_) fun _ _ e => e
  obtain ⟨z, H', I', rz, ⟨q, ez⟩, hq⟩ := z
  subst ez
  cases rz
  exact ⟨.bl q, H', I', rfl, hq⟩
theorem opOr2 {f : Value → Value → Sem Value} {r r' : R2} (a : OpR X f r) (b : OpR X f r') : OpR X f (fun x y H Q => r x y H Q ∨ r' x y H Q) := fun pins s σ H x y v u Q I rx ry d => d.elim (fun d => a pins s σ H x y v u Q I rx ry d) fun d => b pins s σ H x y v u Q I rx ry d
/-- own len -/
def rOwnLen (C : Addr) (sp : Sp) (E : XK) : List V → Hp → VK → Prop := fun vs H Q => ∃ a dx fs, vs = [.ref a] ∧ H a = some (.ins C dx fs) ∧ sp [.ref a] H (fun v H' => (∃ n : Nat, v = .int n ∧ n < 2 ^ 60) ∧ Q v H') E
theorem callOwnLen (M : ClM CX X.prog X.w X.K X.mg X.base k C "__len__" qual st ps [] [] sp) (hr : Room (k + 1) X.A) (hx : Passes CX X E)
    (h : ∀ (kV doc pm : Value) (an : Option Addr) (cdv ct : Value) (us : List Value), us.length = ps.length → bindArgs (PySem.W.fnOf "__len__" qual (defArgs st) (defBody st) (defScope st) .none kV doc pm an cdv ct) ⟨us, []⟩ = pure (ps.zip us)) :
    CallR X (.builtin "len") (rOwnLen C sp E) := by
  obtain ⟨f, fd, h1, h2, h4⟩ := M.ex
  intro pins s σ H xs us Q I r d
  obtain ⟨a, dx, fs, rfl, ha, hsp⟩ := d
  rw [Vals.ref1 r]
  obtain ⟨mA, J, _⟩ := ins_get I.hok ha
  obtain ⟨od, J, _⟩ := J.look
  obtain ⟨m', hF⟩ := I.fr
  refine PySem.W.len_K hF I.ok.mod.kin J h1.at_ h1.fn ?_
  have hb := h2.bindsN h
  have hl := h4.len _ _ _ _ hsp
  have r2 : Vals [V.ref a] [Value.ref a] := .cons rfl .nil
  have e0 : Env0 X.prog X.w X.K X.mg X.base X.A.in1 X.stack s H := by
    have e := I.env0
    exact ⟨e.frames, e.mod, e.bs, e.bsz, e.funs, e.frf, e.hok, e.bare⟩
  refine wpAny_call (codeAny_mono (h4.run X.A.in1 X.stack s H ⟨[.ref a], []⟩ [.ref a] [.ref a] _ E hr.in1 e0 (by
    have := hb s [.ref a] I.kIn (by simpa using hl)
    simpa using this) r2 hsp) fun r s' hq => ?_)
  cases r with
  | error e => exact hx pins σ H s e s' I hq
  | ok fl =>
    cases fl with
    | ret w =>
      obtain ⟨z, H', I', rz, ⟨n, ez, hn⟩, hq2⟩ := I.after hq
      subst ez
      obtain ⟨t, rfl⟩ : ∃ t, w = .int (n : Int) t := rz
      exact ⟨⟨by omega, by omega⟩, .int n, H', I'.tok _, ⟨_, rfl⟩, hq2⟩
    | next => exact False.elim hq
    | brk => exact False.elim hq
    | cont => exact False.elim hq
end
section
variable {K : PySem.W.Frag} {H : Hp} {Q : VK} {a b C : Addr} {bs cs : List Int} {sp : Sp} {E : XK} {mg : Str → Option Value}
instance [h1 : RdC C H a bs] [h2 : RdC C H b cs] : Step (rOwn2 C sp E (.ref a) (.ref b) H Q) (sp [.ref a, .ref b] H (fun v H' => (∃ q, v = .ref q) ∧ Q v H') E) := ⟨fun q => by
  obtain ⟨dx, p, h1, _⟩ := h1.ex
  obtain ⟨dy, p', h2, _⟩ := h2.ex
  exact ⟨a, b, dx, dy, _, _, rfl, rfl, h1, h2, q⟩⟩
instance [h1 : RdC C H a bs] [h2 : RdC C H b cs] : Step (rOwnEq C sp E (.ref a) (.ref b) H Q) (sp [.ref a, .ref b] H (fun v H' => (∃ q, v = .bl q) ∧ Q v H') E) := ⟨fun q => by
  obtain ⟨dx, p, h1, _⟩ := h1.ex
  obtain ⟨dy, p', h2, _⟩ := h2.ex
  exact ⟨a, b, dx, dy, _, _, rfl, rfl, h1, h2, q⟩⟩
instance {p : Addr} : Step ((∃ q, V.ref p = V.ref q) ∧ Q (.ref p) H) (Q (.ref p) H) := ⟨fun q => ⟨⟨p, rfl⟩, q⟩⟩
instance {p : Bool} : Step ((∃ q, V.bl p = V.bl q) ∧ Q (.bl p) H) (Q (.bl p) H) := ⟨fun q => ⟨⟨p, rfl⟩, q⟩⟩
/-- isinstance(a, Round) -/
theorem g_isR [h : RdC C H a bs] (R : RdF K mg C) (q : Q (.bl true) H) : rIsi K [.ref a, .ref C] H Q := by
  obtain ⟨dx, p, h1, _⟩ := h.ex
  refine g_isi (.own C) (.base (.ins h1 R.c R.ty.1 R.ty.2.1 R.ty.2.2.1 R.ty.2.2.2)) ?_ q
  unfold PySem.W.kitOne
  rw [if_pos (beq_self_eq_true _)]
end
/-! ### a staticmethod -/
structure SMet (K : PySem.W.Frag) (C : Addr) (m : Str) (p f : Addr) : Prop where
  at_ : PySem.W.findCls K (.ref C) (.type "type") m = some (.get (.builtin "staticmethod.__get__") (.ref p) .none (.ref C))
  rc : ∃ rest, PySem.W.recIn K p "staticmethod" = some (.ref f :: rest)
  kp : PySem.W.keepIn K (.ref f) = true
structure DfT (K : PySem.W.Frag) (C : Addr) (m qual : Str) (st : Stmt) : Prop where
  ex : ∃ (p f : Addr) (fd : FuncData), SMet K C m p f ∧ FunD K m qual (defArgs st) (defBody st) (defScope st) [] [] f fd
structure ClT (CX : CXT) (P : Program) (w : World) (K : PySem.W.Frag) (mg : Str → Option Value) (base : Heap) (k : Nat) (C : Addr) (m qual : Str) (st : Stmt) (ps : List Str) (sp : Sp) : Prop where
  ex : ∃ (p f : Addr) (fd : FuncData), SMet K C m p f ∧ FunD K m qual (defArgs st) (defBody st) (defScope st) [] [] f fd ∧ FnOk P w K mg base CX k f fd ps sp
theorem dft_mk {K : PySem.W.Frag} {C : Addr} {m qual : Str} {st : Stmt} {p f : Addr} {rest : List Value} {oc : Value} {od an : Option Addr} {osl : Array (Option Value)} {doc pm cdv ct : Value}
    (a : PySem.W.findCls K (.ref C) (.type "type") m = some (.get (.builtin "staticmethod.__get__") (.ref p) .none (.ref C))) (r : PySem.W.recIn K p "staticmethod" = some (.ref f :: rest))
    (l : K.lookup f = some ⟨oc, od, .func (PySem.W.fnOf m qual (defArgs st) (defBody st) (defScope st) .none .none doc pm an cdv ct), osl⟩) (c : PySem.W.codeIn K cdv qual = true) (k : PySem.W.keepIn K (.ref f) = true) : DfT K C m qual st :=
  ⟨p, f, _, ⟨a, ⟨rest, r⟩, k⟩, ⟨⟨oc, od, .none, .none, doc, pm, an, cdv, ct, osl, rfl, l, c, .inl ⟨rfl, rfl⟩, .inl rfl⟩, k⟩⟩
theorem DfT.okP {P : Program} {w : World} {K : PySem.W.Frag} {mg : Str → Option Value} {base : Heap} {C : Addr} {m qual : Str} {st : Stmt} {N ps : List Str} {k : Nat} {sp : Sp} (D : DfT K C m qual st) (S : FnScope N ps (defScope st)) (len : ∀ vs H Q E, sp vs H Q E → vs.length = ps.length)
    (hbody : ∀ (f : Addr) (cdv : Value) (A : Around) (outer : List Env) (s : Shared) (H : Hp) (vs : List V) (Q : VK) (E : XK), Room k (A.deeper (envOfC qual (defScope st) s.heap.objs.size f cdv)) → sp vs H Q E →
      ∃ t, PSs (cxOf CX0 P w K mg base N qual (defScope st) f cdv A outer s H E).nox (defBody st) t ∧ t { nx := fun _ H' => Q .non H', rt := Q } (start N vs) H) : ClT CX0 P w K mg base (k + 1) C m qual st ps sp := by
  obtain ⟨p, f, fd, h1, h2⟩ := D.ex
  exact ⟨p, f, fd, h1, h2, h2.ok S len fun cdv A outer s H vs Q E hr h => by
    obtain ⟨t, a, b⟩ := hbody f cdv A outer s H vs Q E hr h
    exact ⟨t, a.nox, b⟩⟩
section
variable {X : Cx} {CX : CXT} {k : Nat} {C : Addr} {m qual : Str} {st : Stmt} {ps : List Str} {sp : Sp} {E : XK} {o e : Expr} {es : List Expr} {ta : TE} {t : TA} {apos pos : Pos} {pl : Sem Bool}
def tSm (C : Addr) (sp : Sp) (E : XK) (ta : TE) (t : TA) : TE := fun σ H Q => ta σ H fun x H1 => x = .ref C ∧ t σ H1 fun vs H2 => sp vs H2 Q E
theorem pe_sm (M : ClT CX X.prog X.w X.K X.mg X.base k C m qual st ps sp) (r : CRead X.K C (.type "type")) (hr : Room k X.A) (hx : Passes CX X E)
    (h : ∀ (kV doc pm : Value) (an : Option Addr) (cdv ct : Value) (us : List Value), us.length = ps.length → bindArgs (PySem.W.fnOf m qual (defArgs st) (defBody st) (defScope st) .none kV doc pm an cdv ct) ⟨us, []⟩ = pure (ps.zip us))
    (he : PE X o ta) (ha : PA X (e :: es) t)
    (hst : starEach (e :: es) X.env = (false, eval e X.env) :: starEach es X.env := by rfl) (hpl : (backTo pos (starEach es X.env)).any (·.1) = false := by rfl)
    (ht : eval (.Call (.Attribute o m apos) (e :: es) [] pos) X.env = (do
      let ov ← eval o X.env
      standAt apos.atName
      let (f, first) ← holding [ov] (getMethod ov m pl)
      callWith pos f first (backTo pos (starEach (e :: es) X.env)) (backToKw pos (keywordEach [] X.env))) := by rfl) :
    PE X (.Call (.Attribute o m apos) (e :: es) [] pos) (tSm C sp E ta t) := by
  obtain ⟨p, f, fd, c, h2, F⟩ := M.ex
  refine ⟨fun pins s σ H Q I h3 => ?_⟩
  refine PySem.W.methodCall_KW (pl := pl) (thn (he.run pins s σ H _ I h3) fun u s1 ⟨x, H1, I1, rx, ex, q⟩ => ?_) ht
  subst ex
  obtain rfl : u = Value.ref C := rx
  obtain ⟨rest, hp⟩ := c.rc
  refine PySem.W.method_cls I1.kIn r.ga (PySem.W.cls_bind I1.kIn r.rd c.at_ (wpAny_call (PySem.W.sm_get (s := { s1 with toks := s1.toks + 1 }) I1.kIn hp (PySem.W.handed_on rfl ?_))))
  refine PySem.W.callWith_K (first := []) (h₀ := X.base) I.ok.mod.kin c.kp (thn (ha.run pos pins _ σ H1 _ (I1.tok _) q) fun us s2 ⟨vs, H2, I2, rv, q2⟩ => ⟨I2.kIn, ?_⟩) hst hpl
  exact run_fn F hr (h2.bindsN h) .nil hx I2 rv (by rw [List.append_nil]; exact q2)
instance {σ : L2.St} {H : Hp} {Q : VK} : Step (tSm C sp E ta t σ H Q) (ta σ H fun x H1 => x = .ref C ∧ t σ H1 fun vs H2 => sp vs H2 Q E) := ⟨fun q => q⟩
instance {σ : L2.St} {H : Hp} {Q : VK} : Step (V.ref C = V.ref C ∧ t σ H fun vs H2 => sp vs H2 Q E) (t σ H fun vs H2 => sp vs H2 Q E) := ⟨fun q => ⟨rfl, q⟩⟩
end
end Gx

set_option linter.all false
set_option maxRecDepth 100000
set_option maxHeartbeats 2000000
/-! Gs: reversed lists in comprehensions, isqrt, lists of bools compared, the greatest of a list. -/
namespace Gx
open PySem PySem.Spec PyProof.Rows L2 _root_.ClX StX
/-! ### isqrt -/
section
variable {X : Cx} {K : PySem.W.Frag} {H : Hp} {Q : VK}
def rIsqrt : List V → Hp → VK → Prop := fun vs H Q => ∃ a : Int, vs = [.int a] ∧ 0 ≤ a ∧ a < 2 ^ 64 ∧ ∀ r : Int, 0 ≤ r → r * r ≤ a → a < (r + 1) * (r + 1) → Q (.int r) H
theorem callIsqrt : CallR X (.builtin "math.isqrt") rIsqrt := by
  intro pins s σ H vs us Q I r h
  obtain ⟨a, rfl, h0, h1, q⟩ := h
  obtain ⟨u, rfl, t, rfl⟩ := vals1 r
  obtain ⟨h2, h3⟩ := Float64.isqrt_spec a.toNat
  refine PySem.W.mg_isqrt h0 h1 ⟨.int _, H, I.tok _, ⟨_, rfl⟩, q _ (by omega) ?_ ?_⟩
  · have : ((Float64.isqrt a.toNat * Float64.isqrt a.toNat : Nat) : Int) ≤ (a.toNat : Int) := by exact_mod_cast h2
    rw [Int.natCast_mul] at this
    omega
  · have : (a.toNat : Int) < (((Float64.isqrt a.toNat + 1) * (Float64.isqrt a.toNat + 1) : Nat) : Int) := by exact_mod_cast h3
    rw [Int.natCast_mul] at this
    have e : ((Float64.isqrt a.toNat + 1 : Nat) : Int) = (Float64.isqrt a.toNat : Int) + 1 := rfl
    rw [e] at this
    omega
theorem g_isqrt {a : Int} (h : 0 ≤ a ∧ a < 2 ^ 64) (q : ∀ r : Int, 0 ≤ r → r * r ≤ a → a < (r + 1) * (r + 1) → Q (.int r) H) : rIsqrt [.int a] H Q := ⟨a, rfl, h.1, h.2, q⟩
end
/-! ### reversed -/
section
variable {K : PySem.W.Frag} {σ τ : L2.St} {H : Hp} {Q : VK} {ta : TA} {te : TE} {tt : TT} {g : TG}
theorem fd_rev {a : Addr} {xs : List V} : Feeds (Itv K a xs.length) xs.length (fun H => SqL K H a xs) (fun i H x H' => H' = H ∧ xs.reverse[i]? = some x) := by
  refine ⟨fun i H s h => ⟨h, xs, xs[xs.length - 1 - i], s, List.getElem?_eq_getElem (by omega)⟩, fun i H x H' s h y => ⟨y.1, ?_⟩, fun H s => Nat.le_refl _⟩
  rw [List.getElem?_reverse h]
  exact y.2 xs s
def rLcV (K : PySem.W.Frag) (us : List V) (g : TG) (tt : TT) (te : TE) (vs : List Nat) (σ : L2.St) (H : Hp) (Q : VK) : Prop := tLc (iRev K fun _ H R => R us H) g tt te vs σ H Q
instance {vs : List Nat} : Step (tLc (iRev K ta) g tt te vs σ H Q) (ta σ H fun us H1 => rLcV K us g tt te vs σ H1 Q) := ⟨fun q => q⟩
theorem lcV_F {vs : List Nat} {a : Addr} {xs : List V} (F : Nat → List V) [hx : SqC K H a xs] [hw : Wipe σ vs τ] (hF : F 0 = []) (hz : ∀ i, i < xs.length → (F i).length < 100000)
    (hs : ∀ D (i : Nat) x H', xs.reverse[i]? = some x → Nw H D → Ex H H' → At H' D (.lst (F i)) → (F i).length < 100000 → g x τ H' fun σ2 H2 => wipe σ2 vs = τ ∧ tt σ2 H2 fun b H3 =>
      if b = true then te σ2 H3 (rApp D (rW D fun ac H5 => Ex H H5 ∧ ac = F (i + 1))) else rW D (fun ac H5 => Ex H H5 ∧ ac = F (i + 1)) H3)
    (hd : ∀ D H', Nw H D → Ex H H' → At H' D (.lst (F xs.length)) → Q (.ref D) H') : rLcV K [.ref a] g tt te vs σ H Q :=
  ⟨a, xs, rfl, hx.sq, lc_F fd_rev F hF (fun _ e => e.l hx.sq) hz (fun D i H' x H'' hi hD e hp z y => by
    obtain ⟨rfl, y⟩ := y
    exact hs D i x _ y hD e hp z) hd⟩
theorem pi_revK {X : Cx} {K : PySem.W.Frag} {tg : Expr} {e : Expr} {ta : TA} {p pos : Pos} (h : X.K = K) (hg : Gl X "reversed") (hm : X.mg "reversed" = none) (ha : PA X [e] ta) (hs : starEach [e] X.env = [(false, eval e X.env)] := by rfl) : PI X tg (.Call (.Name "reversed" p) [e] [] pos) (iRev K ta) := h ▸ pi_reversed hg hm ha hs
/-- a comprehension that keeps some and turns them: what comes out -/
def fm (p : Int → Bool) (f : Int → Int) (ns : List Int) : List Int := (ns.filter p).map f
theorem fm_take {p : Int → Bool} {f : Int → Int} {ns : List Int} {i : Nat} {x : Int} (h : ns[i]? = some x) : fm p f (ns.take (i + 1)) = if p x = true then fm p f (ns.take i) ++ [f x] else fm p f (ns.take i) := by
  unfold fm
  rw [List.take_succ, h, List.filter_append, List.map_append]
  by_cases z : p x = true
  · simp [z]
  · simp [z]
theorem fm_len {p : Int → Bool} {f : Int → Int} {ns : List Int} {i : Nat} : (fm p f (ns.take i)).length ≤ ns.length := by
  unfold fm
  rw [List.length_map]
  exact Nat.le_trans (List.length_filter_le ..) (by rw [List.length_take]; omega)
end
/-! ### the greatest of a list -/
def IsMax (ns : List Int) (m : Int) : Prop := m ∈ ns ∧ ∀ y ∈ ns, y ≤ m
theorem g_max {K : PySem.W.Frag} {H : Hp} {Q : VK} {p : Addr} {ns : List Int} [h : SqC K H p (ns.map V.int)] (h0 : 0 < ns.length) (q : ∀ m, IsMax ns m → Q (.int m) H) : rMax K [.ref p] H Q := ⟨p, ns, rfl, h.sq, h0, fun m h1 h2 => q m ⟨h1, h2⟩⟩
/-! ### calls with keywords where places have defaults -/
section
variable {X : Cx} {CX : CXT} {k n : Nat} {ps ks : List Str} {sp : Sp} {E : L2.St → XK} {x : Str} {p pos : Pos} {e : Expr} {es : List Expr} {kw : List Keyword} {t tk : TA} {st : Stmt} {dvs : List V} {kws : List (Str × V)}
theorem pe_gkd (C : ClG CX X.prog X.w X.K X.mg X.base k x st ps dvs kws sp) (hr : Room k X.A) (hx : ∀ σ, PassesAt CX X σ (E σ)) (n : Nat) (ks : List Str) (ms : List (Str × V)) (g : {α : Type} → List α → List α → List α → List α → List α) (hd : dvs ≠ []) (hk : kws ≠ []) (hms : ∀ q ∈ ms, q ∈ kws)
    (hrel : ∀ {vs ds mz zs : List V} {us its mv ws : List Value}, Vals vs us → Vals ds its → Vals mz mv → Vals zs ws → Vals (g vs ds mz zs) (g us its mv ws))
    (h : ∀ (T D : Addr) (doc pm : Value) (an : Option Addr) (cdv ct : Value) (us its mv ws : List Value), us.length = n → its.length = dvs.length → mv.length = ms.length → ws.length = ks.length →
      ∃ k, bindArgs (PySem.W.fnOf x x (defArgs st) (defBody st) (defScope st) (.ref T) (.ref D) doc pm an cdv ct) ⟨us, ks.zip ws⟩ = seqItems? (.ref T) >>= k ∧ KwChain D ((ms.map (·.1)).zip mv) (k (some its.toArray)) (ps.zip (g us its mv ws)))
    (ha : PA X (e :: es) t) (hkw : PK X kw tk) (hg : Gl X x := by rfl) (hall : (backToKw pos (keywordEach kw X.env)).all (·.1.isSome) = true := by rfl) (hks : (backToKw pos (keywordEach kw X.env)).filterMap (·.1) = ks := by rfl)
    (hdb : (x == ("__debug__" : Str)) = false := by decide) (he : starEach (e :: es) X.env = (false, eval e X.env) :: starEach es X.env := by rfl)
    (hpl : ((backTo pos (starEach (e :: es) X.env)).any (·.1) || (backToKw pos (keywordEach kw X.env)).any (·.1.isNone)) = false := by rfl) :
    PE X (.Call (.Name x p) (e :: es) kw pos) (tCallNS n ks.length sp (fun vs zs => g vs dvs (ms.map (·.2)) zs) E t tk) := by
  obtain ⟨f, fd, h1, h2, h4⟩ := C.ex
  obtain ⟨its, mv, b⟩ := h2.kbinds n ks ms g hd hk hms hrel h
  exact pe_callNS h4 hr hg h1 h2.kp b hx ha hkw hall hks hdb he hpl
end
/-! ### len of a Round -/
section
variable {K : PySem.W.Frag} {H : Hp} {Q : VK} {C a : Addr} {bs : List Int} {sp : Sp} {E : XK}
instance [h : RdC C H a bs] : Step (rOwnLen C sp E [.ref a] H Q) (sp [.ref a] H (fun v H' => (∃ n : Nat, v = .int n ∧ n < 2 ^ 60) ∧ Q v H') E) := ⟨fun q => by
  obtain ⟨dx, p, h1, _⟩ := h.ex
  exact ⟨a, dx, _, rfl, h1, q⟩⟩
/-- __len__'s spec -/
def spLen (C : Addr) : Sp := fun vs H Q _ => ∃ (a : Addr) (bs : List Int), vs = [.ref a] ∧ RdC C H a bs ∧ Q (.int (bs.length : Nat)) H
theorem use_len [h : RdC C H a bs] (hl : bs.length ≤ 1000) (q : Q (.int (bs.length : Nat)) H) : spLen C [.ref a] H (fun v H' => (∃ n : Nat, v = .int n ∧ n < 2 ^ 60) ∧ Q v H') E := ⟨a, bs, rfl, h, ⟨_, rfl, by omega⟩, q⟩
end
/-! ### lists of bools compared -/
section
variable {K : PySem.W.Frag} {H : Hp} {Q : VK}
theorem ev3 {a b c d e f : Bool} : PyData.eqv (.list [.bool a, .bool b, .bool c]) (.list [.bool d, .bool e, .bool f]) = ((a == d) && ((b == e) && (c == f))) := by
  cases a <;> cases b <;> cases c <;> cases d <;> cases e <;> cases f <;> rfl
end
end Gx

set_option linter.all false
/-! the newest play by words and blocks; the formula of the life -/
namespace Lif
/-- leading zeros dropped -/
def tz (l : List Bool) : List Bool := l.dropWhile (! ·)
theorem tz_t {l : List Bool} : tz (true :: l) = true :: l := rfl
theorem tz_f {l : List Bool} : tz (false :: l) = tz l := rfl
theorem tz_app : ∀ {l : List Bool} (m : List Bool), tz l ≠ [] → tz (l ++ m) = tz l ++ m
  | [], m, h => absurd rfl h
  | true :: l, m, _ => rfl
  | false :: l, m, h => by
    show tz (l ++ m) = tz l ++ m
    exact tz_app m h
theorem tz_nil_app : ∀ {l : List Bool} (m : List Bool), tz l = [] → tz (l ++ m) = tz m
  | [], m, h => rfl
  | true :: l, m, h => by cases h
  | false :: l, m, h => tz_nil_app (l := l) m h
theorem tz_cnt : ∀ {l : List Bool}, (tz l).count true = l.count true
  | [] => rfl
  | true :: l => rfl
  | false :: l => by
    rw [tz_f, tz_cnt, List.count_cons_of_ne (by simp)]
theorem tz_len : ∀ {l : List Bool}, (tz l).length ≤ l.length
  | [] => Nat.le_refl _
  | true :: l => Nat.le_refl _
  | false :: l => Nat.le_succ_of_le (tz_len (l := l))
theorem tz_zer : ∀ {l : List Bool}, (tz l).count false ≤ l.count false
  | [] => Nat.le_refl _
  | true :: l => Nat.le_refl _
  | false :: l => Nat.le_trans (tz_zer (l := l)) (by rw [List.count_cons_self]; omega)
theorem tz_idem : ∀ {l : List Bool}, tz (tz l) = tz l
  | [] => rfl
  | true :: l => rfl
  | false :: l => tz_idem (l := l)
theorem tz_ne {l : List Bool} (h : 0 < l.count true) : tz l ≠ [] := fun e => by
  have := tz_cnt (l := l)
  rw [e] at this
  simp at this
  omega
theorem tz_nil {l : List Bool} (h : l.count true = 0) : tz l = [] := by
  induction l with
  | nil => rfl
  | cons b r ih =>
    cases b with
    | true => rw [List.count_cons_self] at h; omega
    | false => rw [List.count_cons_of_ne (by simp)] at h; exact ih h
/-- the word from its j-th one on -/
def sfx : Nat → List Bool → List Bool
  | 0, l => tz l
  | j + 1, l => tz (sfx j l).tail
theorem sfx_cnt {l : List Bool} : ∀ {j : Nat}, (sfx j l).count true = l.count true - j
  | 0 => tz_cnt
  | j + 1 => by
    have ih := sfx_cnt (l := l) (j := j)
    rw [sfx, tz_cnt]
    cases e : sfx j l with
    | nil => rw [e] at ih; simp at ih ⊢; omega
    | cons b r =>
      have hb : b = true := by
        have : ∀ {j : Nat} {l : List Bool} {b : Bool} {r : List Bool}, sfx j l = b :: r → b = true := by
          intro j l b r h
          have key : ∀ {m : List Bool} {b : Bool} {r : List Bool}, tz m = b :: r → b = true := by
            intro m
            induction m with
            | nil => intro b r h; cases h
            | cons x y ih =>
              intro b r h
              cases x with
              | true => cases h; rfl
              | false => exact ih h
          cases j with
          | zero => exact key h
          | succ j => exact key h
        exact this e
      subst hb
      rw [e, List.count_cons_self] at ih
      rw [List.tail_cons]
      omega
theorem tz_head : ∀ {m : List Bool} {b : Bool} {r : List Bool}, tz m = b :: r → b = true
  | [], _, _, h => by cases h
  | true :: _, _, _, h => by cases h; rfl
  | false :: m, _, _, h => tz_head (m := m) h
theorem sfx_head {j : Nat} {l : List Bool} {b : Bool} {r : List Bool} (h : sfx j l = b :: r) : b = true := by
  cases j with
  | zero => exact tz_head h
  | succ j => exact tz_head h
theorem sfx_ne {j : Nat} {l : List Bool} (h : j < l.count true) : sfx j l ≠ [] := fun e => by
  have := sfx_cnt (l := l) (j := j)
  rw [e] at this
  simp at this
  omega
/-- one carry -/
def car (w : List Bool) : List Bool := if w = [] then w else tz (w.tail ++ [true])
def cars : Nat → List Bool → List Bool
  | 0, w => w
  | j + 1, w => car (cars j w)
theorem car_cnt {w : List Bool} (h : tz w = w) : (car w).count true = w.count true := by
  cases w with
  | nil => rfl
  | cons b r =>
    have hb := tz_head h
    subst hb
    unfold car
    rw [if_neg (by simp), tz_cnt, List.tail_cons, List.count_append]
    simp [List.count_cons]
theorem car_tz {w : List Bool} (h : tz w = w) : tz (car w) = car w := by
  unfold car
  split
  · exact h
  · exact tz_idem
theorem cars_tz {w : List Bool} (h : tz w = w) : ∀ j, tz (cars j w) = cars j w
  | 0 => h
  | j + 1 => car_tz (cars_tz h j)
theorem cars_cnt {w : List Bool} (h : tz w = w) : ∀ j, (cars j w).count true = w.count true
  | 0 => rfl
  | j + 1 => by rw [cars, car_cnt (cars_tz h j), cars_cnt h j]
theorem car_zer {w : List Bool} : (car w).count false ≤ w.count false := by
  unfold car
  split
  · exact Nat.le_refl _
  · refine Nat.le_trans tz_zer ?_
    rw [List.count_append]
    cases w with
    | nil => simp
    | cons b r => cases b <;> simp [List.count_cons]
theorem cars_zer {w : List Bool} : ∀ j, (cars j w).count false ≤ w.count false
  | 0 => Nat.le_refl _
  | j + 1 => Nat.le_trans car_zer (cars_zer j)
def ones (n : Nat) : List Bool := List.replicate n true
theorem ones_snoc {j : Nat} : ones j ++ [true] = ones (j + 1) := by unfold ones; rw [List.replicate_succ']
/-- carries while old ones are left -/
theorem cars_sfx {l : List Bool} (T : List Bool) {B : Nat} : ∀ {j : Nat}, B + j < l.count true → cars j (sfx B l ++ T) = sfx (B + j) l ++ (T ++ ones j)
  | 0, _ => by rw [show ones 0 = [] from rfl, List.append_nil]; rfl
  | j + 1, h => by
    rw [cars, cars_sfx T (by omega)]
    have h1 := sfx_ne (l := l) (j := B + j) (by omega)
    have h2 := sfx_ne (l := l) (j := B + (j + 1)) h
    unfold car
    rw [if_neg (by simp [h1])]
    cases e : sfx (B + j) l with
    | nil => exact absurd e h1
    | cons b r =>
      have e2 : sfx (B + (j + 1)) l = tz r := by
        show tz (sfx (B + j) l).tail = _
        rw [e]
        rfl
      rw [e2] at h2 ⊢
      rw [List.cons_append, List.tail_cons, List.append_assoc, tz_app _ h2, List.append_assoc, ones_snoc]
/-- .. and beyond them: what is left is of the tail -/
theorem cars_end {l : List Bool} (T : List Bool) {B m : Nat} (h : l.count true ≤ B + m) (hB : B < l.count true) : (cars m (sfx B l ++ T)).count false ≤ T.count false := by
  obtain ⟨j, hj⟩ : ∃ j, B + j + 1 = l.count true := ⟨l.count true - B - 1, by omega⟩
  have e1 := cars_sfx (l := l) T (B := B) (j := j) (by omega)
  have h1 := sfx_ne (l := l) (j := B + j) (by omega)
  have key : (cars (j + 1) (sfx B l ++ T)).count false ≤ T.count false := by
    rw [cars, e1]
    cases e : sfx (B + j) l with
    | nil => exact absurd e h1
    | cons b r =>
      have hc := sfx_cnt (l := l) (j := B + j)
      have hb := sfx_head e
      subst hb
      rw [e, List.count_cons_self] at hc
      unfold car
      rw [if_neg (by simp), List.cons_append, List.tail_cons, List.append_assoc, tz_nil_app _ (tz_nil (by omega))]
      refine Nat.le_trans tz_zer ?_
      rw [List.count_append, List.count_append]
      have : ∀ n, (ones n).count false = 0 := fun n => by unfold ones; rw [List.count_replicate]; simp
      rw [this]
      simp
  obtain ⟨d, hd⟩ : ∃ d, m = j + 1 + d := ⟨m - (j + 1), by omega⟩
  have cars_add : ∀ a b w, cars (a + b) w = cars b (cars a w) := fun a b w => by
    induction b with
    | zero => rfl
    | succ b ih => rw [← Nat.add_assoc, cars, ih]; rfl
  rw [hd, cars_add]
  exact Nat.le_trans (cars_zer d) key
/-- the last one away -/
def zl : List Bool → List Bool
  | [] => []
  | x :: r => if r.count true = 0 then false :: r else x :: zl r
theorem zl_snoc : ∀ {w : List Bool}, zl (w ++ [true]) = w ++ [false]
  | [] => rfl
  | x :: r => by
    rw [List.cons_append, zl, if_neg (by rw [List.count_append]; simp), zl_snoc (w := r)]
    rfl
theorem zl_len : ∀ {w : List Bool}, (zl w).length = w.length
  | [] => rfl
  | x :: r => by
    rw [zl]
    split
    · rfl
    · rw [List.length_cons, zl_len (w := r), List.length_cons]
theorem zl_cnt : ∀ {w : List Bool}, (zl w).count true = w.count true - 1
  | [] => rfl
  | x :: r => by
    have ih := zl_cnt (w := r)
    rw [zl]
    split
    · rename_i h
      cases x <;> simp [List.count_cons, h]
    · rename_i h
      cases x <;> simp [List.count_cons, ih] <;> omega
theorem zl_zer : ∀ {w : List Bool}, (zl w).count false ≤ w.count false + 1
  | [] => by simp [zl]
  | x :: r => by
    have ih := zl_zer (w := r)
    rw [zl]
    split
    · cases x <;> simp [List.count_cons]
    · cases x <;> simp [List.count_cons] <;> omega
theorem tz_zl : ∀ {w : List Bool}, 2 ≤ w.count true → tz (zl w) = zl (tz w)
  | [], h => by simp at h
  | true :: r, h => by
    rw [List.count_cons_self] at h
    rw [zl, if_neg (by omega), tz_t, tz_t, zl, if_neg (by omega)]
  | false :: r, h => by
    rw [List.count_cons_of_ne (by simp)] at h
    rw [zl, if_neg (by omega), tz_f, tz_f]
    exact tz_zl h
theorem sfx_zl {l : List Bool} : ∀ {j : Nat}, j + 1 < l.count true → sfx j (zl l) = zl (sfx j l)
  | 0, h => tz_zl (by omega)
  | j + 1, h => by
    have ih := sfx_zl (l := l) (j := j) (by omega)
    have hc := sfx_cnt (l := l) (j := j)
    rw [sfx, sfx, ih]
    cases e : sfx j l with
    | nil => rw [e] at hc; simp at hc; omega
    | cons x r =>
      have hb := sfx_head e
      subst hb
      rw [e, List.count_cons_self] at hc
      rw [zl, if_neg (by omega), List.tail_cons, List.tail_cons]
      exact tz_zl (by omega)
def rel (lim : Nat) (w : List Bool) : List Bool := if w.count true < lim then w else tz (zl w)
/-- the word at put t, behind the release -/
def Uw (lim : Nat) (b : Nat → Nat) (l : List Bool) : Nat → List Bool
  | 0 => rel lim l
  | t + 1 => rel lim (cars (min (b t) ((Uw lim b l t).count true)) (Uw lim b l t) ++ [true])
section
variable {lim : Nat} {b : Nat → Nat} {l : List Bool}
theorem rel_tz {w : List Bool} (h : tz w = w) : tz (rel lim w) = rel lim w := by
  unfold rel
  split
  · exact h
  · exact tz_idem
theorem snoc_tz {w : List Bool} (h : tz w = w) : tz (w ++ [true]) = w ++ [true] := by
  cases w with
  | nil => rfl
  | cons x r =>
    have hb := tz_head h
    subst hb
    rfl
theorem Uw_tz (h : tz l = l) : ∀ t, tz (Uw lim b l t) = Uw lim b l t
  | 0 => rel_tz h
  | t + 1 => rel_tz (snoc_tz (cars_tz (Uw_tz h t) _))
theorem Uw_cnt (h : tz l = l) (hl : l.count true ≤ lim) (h1 : 1 ≤ lim) : ∀ t, (Uw lim b l t).count true = if l.count true + t < lim then l.count true + t else lim - 1
  | 0 => by
    rw [Uw, rel]
    split
    · rename_i z
      rw [if_pos (by omega)]
      rfl
    · rename_i z
      rw [if_neg (by omega), tz_cnt, zl_cnt]
      omega
  | t + 1 => by
    have ih := Uw_cnt h hl h1 t
    have hc : (cars (min (b t) ((Uw lim b l t).count true)) (Uw lim b l t) ++ [true]).count true = (Uw lim b l t).count true + 1 := by
      rw [List.count_append, cars_cnt (Uw_tz h t)]
      rfl
    rw [Uw, rel]
    split
    · rename_i z
      rw [hc] at z ⊢
      rw [ih] at z ⊢
      split at z
      · rw [if_pos (by omega), if_pos (by omega)]; omega
      · omega
    · rename_i z
      rw [hc] at z
      rw [tz_cnt, zl_cnt, hc]
      rw [ih] at z ⊢
      split at z
      · rw [if_pos (by omega), if_neg (by omega)]; omega
      · rw [if_neg (by omega), if_neg (by omega)]; omega
def bsum (b : Nat → Nat) (s : Nat) : Nat → Nat
  | 0 => 0
  | n + 1 => bsum b s n + b (s + n)
/-- the releases of records that were put within -/
def rls (o lim : Nat) : Nat → Nat
  | 0 => 0
  | t + 1 => rls o lim t + if o + (t + 1) < lim then 0 else 1
theorem rls_le {o lim : Nat} : ∀ {t : Nat}, rls o lim t ≤ t + 1 - (lim - o) ∧ (o + t < lim → rls o lim t = 0)
  | 0 => ⟨Nat.zero_le _, fun _ => rfl⟩
  | t + 1 => by
    obtain ⟨h1, h2⟩ := rls_le (o := o) (lim := lim) (t := t)
    rw [rls]
    split
    · rename_i z
      have := h2 (by omega)
      exact ⟨by omega, fun _ => by omega⟩
    · rename_i z
      refine ⟨?_, fun y => absurd y z⟩
      by_cases y : o + t < lim
      · have := h2 y
        omega
      · omega
/-- the word whose ones are carried first -/
def old (lim : Nat) (l : List Bool) : List Bool := if l.count true < lim then l else zl l
theorem old_cnt (hl : l.count true ≤ lim) (h1 : 1 ≤ lim) : (old lim l).count true = min (l.count true) (lim - 1) := by
  unfold old
  split
  · omega
  · rw [zl_cnt]; omega
theorem old_sfx {j : Nat} (hl : l.count true ≤ lim) (h1 : 1 ≤ lim) (hj : j < (old lim l).count true) : (sfx j (old lim l)).length = (sfx j l).length := by
  rw [old_cnt hl h1] at hj
  unfold old
  split
  · rfl
  · rw [sfx_zl (by omega), zl_len]
theorem Uw_zero (h : tz l = l) : Uw lim b l 0 = sfx 0 (old lim l) := by
  rw [Uw, rel, old, sfx]
  split
  · exact h.symm
  · rfl
/-- while old ones are left to be carried -/
theorem case_a (h : tz l = l) (hl : l.count true ≤ lim) (h1 : 1 ≤ lim) : ∀ {t : Nat}, bsum b 0 t < (old lim l).count true → ∃ T : List Bool, Uw lim b l t = sfx (bsum b 0 t) (old lim l) ++ T ∧ T.length = bsum b 0 t + t ∧ T.count false ≤ rls (l.count true) lim t
  | 0, _ => ⟨[], by rw [Uw_zero h, List.append_nil]; rfl, rfl, Nat.le_refl _⟩
  | t + 1, hb => by
    have e1 : bsum b 0 (t + 1) = bsum b 0 t + b t := by rw [bsum, Nat.zero_add]
    rw [e1] at hb ⊢
    obtain ⟨T, c1, c2, c3⟩ := case_a h hl h1 (t := t) (by omega)
    have hk := old_cnt hl h1
    have hu := Uw_cnt (b := b) h hl h1 t
    have hm : min (b t) ((Uw lim b l t).count true) = b t := by
      rw [hu]
      split <;> omega
    have hU : cars (min (b t) ((Uw lim b l t).count true)) (Uw lim b l t) = sfx (bsum b 0 t + b t) (old lim l) ++ (T ++ ones (b t)) := by
      rw [hm, c1, cars_sfx T hb]
    have hcnt : (cars (min (b t) ((Uw lim b l t).count true)) (Uw lim b l t) ++ [true]).count true = (Uw lim b l t).count true + 1 := by
      rw [List.count_append, cars_cnt (Uw_tz h t)]
      rfl
    have hone : (ones (b t)).count false = 0 := by unfold ones; rw [List.count_replicate]; simp
    have hnl : (ones (b t)).length = b t := List.length_replicate ..
    rw [Uw, rel, hcnt, hU, hu]
    by_cases z : l.count true + (t + 1) < lim
    · rw [if_pos (show l.count true + t < lim by omega), if_pos (by omega)]
      refine ⟨T ++ ones (b t) ++ [true], by rw [List.append_assoc, List.append_assoc], ?_, ?_⟩
      · rw [List.length_append, List.length_append, hnl, c2]; simp; omega
      · rw [List.count_append, List.count_append, hone, rls, if_pos z]
        simp
        exact c3
    · have hne := sfx_ne hb
      have hif : ¬ (if l.count true + t < lim then l.count true + t else lim - 1) + 1 < lim := by split <;> omega
      rw [if_neg hif, zl_snoc]
      refine ⟨T ++ ones (b t) ++ [false], ?_, ?_, ?_⟩
      · have hs : tz (sfx (bsum b 0 t + b t) (old lim l)) = sfx (bsum b 0 t + b t) (old lim l) := by
          cases e : sfx (bsum b 0 t + b t) (old lim l) with
          | nil => rfl
          | cons x r =>
            have hx := sfx_head e
            subst hx
            rfl
        rw [List.append_assoc, tz_app _ (by rw [hs]; exact hne), hs]
      · rw [List.length_append, List.length_append, hnl, c2]; simp; omega
      · rw [List.count_append, List.count_append, hone, rls, if_neg z]
        simp
        exact c3
/-- when all old ones have been carried -/
theorem case_b (h : tz l = l) (hl : l.count true ≤ lim) (h1 : 1 ≤ lim) : ∀ {t : Nat}, (old lim l).count true ≤ bsum b 0 t → (Uw lim b l t).count false ≤ rls (l.count true) lim t
  | 0, hb => by
    rw [Uw_zero h, sfx, tz_nil (by rw [bsum] at hb; omega)]
    simp
  | t + 1, hb => by
    have e1 : bsum b 0 (t + 1) = bsum b 0 t + b t := by rw [bsum, Nat.zero_add]
    rw [e1] at hb
    have hk := old_cnt hl h1
    have hu := Uw_cnt (b := b) h hl h1 t
    have hz : (cars (min (b t) ((Uw lim b l t).count true)) (Uw lim b l t)).count false ≤ rls (l.count true) lim t := by
      by_cases z : (old lim l).count true ≤ bsum b 0 t
      · exact Nat.le_trans (cars_zer _) (case_b h hl h1 z)
      · obtain ⟨T, c1, c2, c3⟩ := case_a (b := b) h hl h1 (t := t) (by omega)
        have hm : (old lim l).count true ≤ bsum b 0 t + min (b t) ((Uw lim b l t).count true) := by
          have hx : (old lim l).count true ≤ (Uw lim b l t).count true := by
            rw [hu]
            split <;> omega
          generalize (Uw lim b l t).count true = c at hx ⊢
          omega
        generalize min (b t) ((Uw lim b l t).count true) = m at hm ⊢
        rw [c1]
        exact Nat.le_trans (cars_end T hm (by omega)) c3
    have hcnt : (cars (min (b t) ((Uw lim b l t).count true)) (Uw lim b l t) ++ [true]).count true = (Uw lim b l t).count true + 1 := by
      rw [List.count_append, cars_cnt (Uw_tz h t)]
      rfl
    rw [Uw, rel, hcnt, rls]
    obtain ⟨W, hW⟩ : ∃ W, W = cars (min (b t) ((Uw lim b l t).count true)) (Uw lim b l t) := ⟨_, rfl⟩
    rw [← hW] at hz ⊢
    rw [hu]
    by_cases z : l.count true + (t + 1) < lim
    · rw [if_pos (show l.count true + t < lim by omega), if_pos (by omega), if_pos z, List.count_append]
      simpa using hz
    · have hif : ¬ (if l.count true + t < lim then l.count true + t else lim - 1) + 1 < lim := by split <;> omega
      rw [if_neg hif, if_neg z, zl_snoc]
      refine Nat.le_trans tz_zer ?_
      rw [List.count_append]
      simpa using hz
end

/-! ### blocks -/
def tn : List Nat → List Nat
  | [] => []
  | 0 :: r => tn r
  | (n + 1) :: r => (n + 1) :: r

def eat : List Nat → List Nat
  | [] => []
  | n :: r => if n ≤ 1 then tn r else (n - 1) :: r
theorem eat_cons {n : Nat} {r : List Nat} : eat (n :: r) = if n ≤ 1 then tn r else (n - 1) :: r := rfl
def eats : Nat → List Nat → List Nat
  | 0, N => N
  | j + 1, N => eat (eats j N)
def Can : List Nat → Prop
  | [] => True
  | n :: _ => 1 ≤ n
theorem tn_can : ∀ N, Can (tn N)
  | [] => trivial
  | 0 :: r => tn_can r
  | (n + 1) :: r => Nat.succ_le_succ (Nat.zero_le n)
theorem tn_of : ∀ {N}, Can N → tn N = N
  | [], _ => rfl
  | 0 :: r, h => absurd h (Nat.not_succ_le_zero 0)
  | (n + 1) :: r, _ => rfl
theorem tn_sum : ∀ N, (tn N).sum = N.sum
  | [] => rfl
  | 0 :: r => by rw [tn, tn_sum r, List.sum_cons, Nat.zero_add]
  | (n + 1) :: r => rfl
theorem tn_len : ∀ N, (tn N).length ≤ N.length
  | [] => Nat.le_refl _
  | 0 :: r => Nat.le_succ_of_le (tn_len r)
  | (n + 1) :: r => Nat.le_refl _
theorem eat_can {N : List Nat} (h : Can N) : Can (eat N) := by
  cases N with
  | nil => exact trivial
  | cons n r =>
    rw [eat_cons]
    by_cases z : n ≤ 1
    · rw [if_pos z]; exact tn_can r
    · rw [if_neg z]
      show 1 ≤ n - 1
      omega
theorem eat_sum {N : List Nat} (h : Can N) : (eat N).sum = N.sum - 1 := by
  cases N with
  | nil => rfl
  | cons n r =>
    have h' : 1 ≤ n := h
    rw [eat_cons]
    by_cases z : n ≤ 1
    · rw [if_pos z, tn_sum, List.sum_cons]
      omega
    · rw [if_neg z, List.sum_cons, List.sum_cons]
      omega
theorem eats_can {N : List Nat} (h : Can N) : ∀ j, Can (eats j N)
  | 0 => h
  | j + 1 => eat_can (eats_can h j)
theorem eats_sum {N : List Nat} (h : Can N) : ∀ j, (eats j N).sum = N.sum - j
  | 0 => rfl
  | j + 1 => by rw [eats, eat_sum (eats_can h j), eats_sum h j]; omega
/-- a list cut at the front: the blocks behind stay -/
theorem eats_app {A : List Nat} (B : List Nat) (h : Can A) : ∀ {j : Nat}, j < A.sum → eats j (A ++ B) = eats j A ++ B ∧ eats j A ≠ []
  | 0, hj => ⟨rfl, fun e => by rw [show A = [] from e] at hj; cases hj⟩
  | j + 1, hj => by
    obtain ⟨h1, h2⟩ := eats_app B h (j := j) (by omega)
    have h3 := eats_can h j
    have h4 := eats_sum h j
    rw [eats, eats, h1]
    cases e : eats j A with
    | nil => exact absurd e h2
    | cons n r =>
      rw [e] at h3 h4
      have h3' : 1 ≤ n := h3
      rw [List.cons_append, eat_cons, eat_cons]
      by_cases z : n ≤ 1
      · rw [if_pos z, if_pos z]
        rw [List.sum_cons] at h4
        have h5 : 0 < r.sum := by omega
        have key : ∀ r : List Nat, 0 < r.sum → tn (r ++ B) = tn r ++ B ∧ tn r ≠ [] := by
          intro r
          induction r with
          | nil => intro h; cases h
          | cons x r ih =>
            intro h
            cases x with
            | zero =>
              rw [List.sum_cons, Nat.zero_add] at h
              exact ih h
            | succ x => exact ⟨rfl, fun e => by cases e⟩
        exact key r h5
      · rw [if_neg z, if_neg z]
        exact ⟨rfl, fun e => by cases e⟩

def enc : List Nat → List Bool
  | [] => []
  | n :: r => List.replicate n true ++ false :: enc r
theorem enc_snoc : ∀ (N : List Nat) (c : Nat), enc (N ++ [c]) = enc N ++ (ones c ++ [false])
  | [], c => rfl
  | n :: r, c => by
    show List.replicate n true ++ false :: enc (r ++ [c]) = (List.replicate n true ++ false :: enc r) ++ _
    rw [enc_snoc r c, List.append_assoc]
    rfl
theorem enc_len : ∀ N : List Nat, (enc N).length = N.sum + N.length
  | [] => rfl
  | n :: r => by
    show (List.replicate n true ++ false :: enc r).length = _
    rw [List.length_append, List.length_replicate, List.length_cons, enc_len r, List.sum_cons, List.length_cons]
    omega
theorem enc_cnt : ∀ N : List Nat, (enc N).count true = N.sum
  | [] => rfl
  | n :: r => by
    show (List.replicate n true ++ false :: enc r).count true = _
    rw [List.count_append, List.count_replicate, List.count_cons_of_ne (by simp), enc_cnt r, List.sum_cons]
    simp
theorem enc_zer : ∀ N : List Nat, (enc N).count false = N.length
  | [] => rfl
  | n :: r => by
    show (List.replicate n true ++ false :: enc r).count false = _
    rw [List.count_append, List.count_replicate, List.count_cons_self, enc_zer r, List.length_cons]
    simp
theorem tz_ones {n : Nat} {l : List Bool} : tz (ones (n + 1) ++ l) = ones (n + 1) ++ l := by
  unfold ones
  rw [List.replicate_succ, List.cons_append]
  rfl
theorem tz_enc : ∀ (N : List Nat) (l : List Bool), tz l = l → tz (enc N ++ l) = enc (tn N) ++ l
  | [], l, h => h
  | 0 :: r, l, h => by
    show tz (false :: (enc r ++ l)) = _
    rw [tz_f, tn]
    exact tz_enc r l h
  | (n + 1) :: r, l, h => by
    rw [tn]
    show tz ((List.replicate (n + 1) true ++ false :: enc r) ++ l) = _
    rw [List.append_assoc]
    refine Eq.trans tz_ones ?_
    show _ = (List.replicate (n + 1) true ++ false :: enc r) ++ l
    rw [List.append_assoc]
    rfl
theorem ones_tz : ∀ {n : Nat}, tz (ones n) = ones n
  | 0 => rfl
  | n + 1 => by
    have := tz_ones (n := n) (l := [])
    rw [List.append_nil] at this
    exact this
theorem car_enc {N : List Nat} {j : Nat} (h : Can N) (h0 : N ≠ []) : car (enc N ++ ones j) = enc (eat N) ++ ones (j + 1) := by
  cases N with
  | nil => exact absurd rfl h0
  | cons n r =>
    have h' : 1 ≤ n := h
    obtain ⟨m, rfl⟩ : ∃ m, n = m + 1 := ⟨n - 1, by omega⟩
    have e : (enc ((m + 1) :: r) ++ ones j).tail ++ [true] = (List.replicate m true ++ false :: enc r) ++ ones (j + 1) := by
      rw [← ones_snoc]
      show ((List.replicate (m + 1) true ++ false :: enc r) ++ ones j).tail ++ [true] = _
      rw [List.replicate_succ, List.cons_append, List.cons_append, List.tail_cons, List.append_assoc]
    unfold car
    rw [if_neg (by show ¬ ((List.replicate (m + 1) true ++ false :: enc r) ++ ones j = []); simp), e]
    show tz (enc (m :: r) ++ ones (j + 1)) = _
    rw [tz_enc _ _ ones_tz]
    congr 1
    rw [eat_cons]
    by_cases z : m = 0
    · subst z
      rfl
    · obtain ⟨q, rfl⟩ : ∃ q, m = q + 1 := ⟨m - 1, by omega⟩
      rw [if_neg (by omega)]
      rfl
theorem cars_enc {N : List Nat} (h : Can N) : ∀ {j : Nat}, j ≤ N.sum → cars j (enc N) = enc (eats j N) ++ ones j
  | 0, _ => by rw [show ones 0 = [] from rfl, List.append_nil]; rfl
  | j + 1, hj => by
    have hne : eats j N ≠ [] := fun e => by
      have := eats_sum h j
      rw [e] at this
      simp at this
      omega
    rw [cars, cars_enc h (by omega), car_enc (eats_can h j) hne, eats]
/-- a word that ends with a zero -/
theorem enc_ex : ∀ (w : List Bool), ∃ N c, w = enc N ++ ones c
  | [] => ⟨[], 0, rfl⟩
  | true :: r => by
    obtain ⟨N, c, e⟩ := enc_ex r
    cases N with
    | nil => exact ⟨[], c + 1, by rw [e]; rfl⟩
    | cons n M => exact ⟨(n + 1) :: M, c, by rw [e]; rfl⟩
  | false :: r => by
    obtain ⟨N, c, e⟩ := enc_ex r
    exact ⟨0 :: N, c, by rw [e]; rfl⟩
theorem enc_of {w : List Bool} (h : tz w = w) (hz : w = [] ∨ w.getLast? = some false) : ∃ N, w = enc N ∧ Can N := by
  obtain ⟨N, c, e⟩ := enc_ex w
  have hc : c = 0 := by
    rcases hz with z | z
    · rw [z] at e
      cases c with
      | zero => rfl
      | succ c =>
        have := congrArg List.length e
        rw [List.length_append, ones, List.length_replicate] at this
        simp at this
    · cases c with
      | zero => rfl
      | succ c =>
        rw [e, ← ones_snoc, ← List.append_assoc, List.getLast?_concat] at z
        cases z
  subst hc
  rw [show ones 0 = [] from rfl, List.append_nil] at e
  refine ⟨N, e, ?_⟩
  cases N with
  | nil => trivial
  | cons n M =>
    cases n with
    | zero =>
      exfalso
      rw [e] at h
      have h2 : tz (false :: enc M) = false :: enc M := h
      rw [tz_f] at h2
      have := tz_len (l := enc M)
      rw [h2] at this
      simp at this
      omega
    | succ n => exact Nat.succ_le_succ (Nat.zero_le n)
/-- the blocks at the i-th put behind the growth: others k - 1, budgets b -/
def SG (N0 : List Nat) (k : Nat) (b : Nat → Nat) : Nat → List Nat
  | 0 => N0
  | i + 1 => tn (eats (min (k - 1) (b i)) (SG N0 k b i) ++ [min (k - 1) (b i)])
theorem SG_can {N0 : List Nat} {k : Nat} {b : Nat → Nat} (h : Can N0) (i : Nat) : Can (SG N0 k b i) := by
  cases i with
  | zero => exact h
  | succ i => exact tn_can _
theorem SG_sum {N0 : List Nat} {k : Nat} {b : Nat → Nat} (h : Can N0) (hs : N0.sum = k - 1) : ∀ i, (SG N0 k b i).sum = k - 1
  | 0 => hs
  | i + 1 => by
    rw [SG, tn_sum, List.sum_append, eats_sum (SG_can h i), SG_sum h hs i]
    simp
    omega
theorem SG_long {N0 : List Nat} {k g w : Nat} {b : Nat → Nat} (hc0 : Can N0) (hs0 : N0.sum = k - 1) (hk : 2 ≤ k) (h : bsum b w g ≤ k - 2) : g + 1 ≤ (SG N0 k b (w + g)).length := by
  have key : ∀ i, i ≤ g → ∃ A B : List Nat, SG N0 k b (w + i) = A ++ B ∧ B.length = i ∧ Can A ∧ A.sum + bsum b w i = k - 1 := by
    have mono : ∀ i j, i ≤ j → bsum b w i ≤ bsum b w j := by
      intro i j hij
      induction j with
      | zero => rw [Nat.le_zero.mp hij]; exact Nat.le_refl _
      | succ j ih =>
        rcases Nat.lt_or_ge j i with z | z
        · rw [show i = j + 1 from by omega]; exact Nat.le_refl _
        · exact Nat.le_trans (ih z) (Nat.le_add_right _ _)
    intro i
    induction i with
    | zero => exact fun _ => ⟨SG N0 k b w, [], by rw [List.append_nil]; rfl, rfl, SG_can hc0 w, by rw [SG_sum hc0 hs0]; rfl⟩
    | succ i ih =>
      intro hi
      obtain ⟨A, B, h1, h2, h3, h4⟩ := ih (by omega)
      have h5 := mono (i + 1) g hi
      have h6 : bsum b w (i + 1) = bsum b w i + b (w + i) := rfl
      have hlt : b (w + i) < A.sum := by omega
      have hle : b (w + i) ≤ k - 1 := by omega
      have hsum : A.sum - b (w + i) + (bsum b w i + b (w + i)) = k - 1 := by omega
      have h7 : min (k - 1) (b (w + i)) = b (w + i) := Nat.min_eq_right hle
      obtain ⟨h8, h9⟩ := eats_app B h3 (j := b (w + i)) hlt
      have hc := eats_can h3 (b (w + i))
      refine ⟨eats (b (w + i)) A, B ++ [b (w + i)], ?_, by rw [List.length_append, h2]; rfl, hc, by rw [eats_sum h3]; exact hsum⟩
      rw [← Nat.add_assoc, SG, h7, h1, h8, List.append_assoc]
      refine tn_of ?_
      cases e : eats (b (w + i)) A with
      | nil => exact absurd e h9
      | cons n r => rw [e] at hc; exact hc
  obtain ⟨A, B, h1, h2, h3, h4⟩ := key g (Nat.le_refl _)
  have : A ≠ [] := fun e => by
    rw [e] at h4
    simp at h4
    omega
  have := List.length_pos_iff.mpr this
  rw [h1, List.length_append, h2]
  omega
theorem tn_tail : ∀ (r : List Nat) {n' : Nat} {r' : List Nat}, tn r = n' :: r' → ∃ q, r = q ++ r'
  | [], _, _, h => by cases h
  | 0 :: r, n', r', h => by
    obtain ⟨q, e⟩ := tn_tail r h
    exact ⟨0 :: q, by rw [e]; rfl⟩
  | (n + 1) :: r, n', r', h => by
    cases h
    exact ⟨[n + 1], rfl⟩
theorem eats_tail {n : Nat} {r : List Nat} : ∀ {j : Nat} {n' : Nat} {r' : List Nat}, eats j (n :: r) = n' :: r' → ∃ q, r = q ++ r'
  | 0, n', r', h => by
    cases h
    exact ⟨[], rfl⟩
  | j + 1, n', r', h => by
    rw [eats] at h
    cases e : eats j (n :: r) with
    | nil => rw [e] at h; cases h
    | cons x y =>
      obtain ⟨q, hq⟩ := eats_tail e
      rw [e, eat_cons] at h
      by_cases z : x ≤ 1
      · rw [if_pos z] at h
        obtain ⟨p, hp⟩ := tn_tail y h
        exact ⟨q ++ p, by rw [hq, hp, List.append_assoc]⟩
      · rw [if_neg z] at h
        cases h
        exact ⟨q, hq⟩

theorem SG_hist {N0 : List Nat} {k : Nat} {b : Nat → Nat} (hc0 : Can N0) : ∀ {i n : Nat} {r : List Nat}, SG N0 k b i = n :: r → ∀ g, g ≤ r.length → g ≤ i → (r.drop (r.length - g)).sum = bsum (fun x => min (k - 1) (b x)) (i - g) g
  | 0, n, r, h => fun g hg hi => by
    rw [Nat.le_zero.mp hi]
    simp [bsum]
  | i + 1, n, r, h => by
    rw [SG] at h
    obtain ⟨m, hm⟩ : ∃ m, m = min (k - 1) (b i) := ⟨_, rfl⟩
    rw [← hm] at h
    cases e : eats m (SG N0 k b i) with
    | nil =>
      rw [e] at h
      have hr : r = [] := by
        cases m with
        | zero => cases h
        | succ m => cases h; rfl
      subst hr
      intro g hg hi
      rw [Nat.le_zero.mp hg]
      rfl
    | cons x y =>
      have hc := eats_can (SG_can (k := k) (b := b) hc0 i) m
      rw [e] at h hc
      have hc' : Can ((x :: y) ++ [m]) := hc
      rw [tn_of hc'] at h
      rw [List.cons_append] at h
      obtain ⟨h1, h2⟩ := List.cons.inj h
      subst h1 h2
      cases e2 : SG N0 k b i with
      | nil =>
        rw [e2] at e
        exfalso
        have : ∀ j, eats j [] = [] := fun j => by
          induction j with
          | zero => rfl
          | succ j ih => rw [eats, ih]; rfl
        rw [this] at e
        cases e
      | cons n0 r0 =>
        rw [e2] at e
        obtain ⟨q, hq⟩ := eats_tail e
        have h4 := SG_hist hc0 e2
        have hl : r0.length = q.length + y.length := by rw [hq, List.length_append]
        intro g hg hi
        rw [List.length_append] at hg ⊢
        cases g with
        | zero => simp [bsum]
        | succ g =>
          have hg' : g ≤ y.length := by simpa using hg
          have h5 := h4 g (by omega) (by omega)
          have e3 : r0.drop (r0.length - g) = y.drop (y.length - g) := by
            rw [hq, List.length_append, show q.length + y.length - g = q.length + (y.length - g) from by omega, List.drop_append, List.drop_eq_nil_of_le (by omega), List.nil_append]
            congr 1
            omega
          rw [show y.length + [m].length - (g + 1) = y.length - g from by simp, List.drop_append_of_le_length (by omega), List.sum_append, ← e3, h5]
          show _ = bsum (fun x => min (k - 1) (b x)) (i + 1 - (g + 1)) g + min (k - 1) (b (i + 1 - (g + 1) + g))
          rw [show i + 1 - (g + 1) = i - g from by omega, show i - g + g = i from by omega, hm]
          simp
theorem drop_sum_le : ∀ (r : List Nat) (n : Nat), (r.drop n).sum ≤ r.sum
  | [], n => by simp
  | x :: r, 0 => Nat.le_refl _
  | x :: r, n + 1 => Nat.le_trans (drop_sum_le r n) (by rw [List.sum_cons]; omega)
theorem bsum_min {c : Nat} {b : Nat → Nat} {s : Nat} : ∀ {g : Nat}, bsum (fun x => min c (b x)) s g < c → bsum b s g = bsum (fun x => min c (b x)) s g
  | 0, _ => rfl
  | g + 1, h => by
    have h1 : bsum (fun x => min c (b x)) s g + min c (b (s + g)) < c := h
    have h2 : min c (b (s + g)) < c := Nat.lt_of_le_of_lt (Nat.le_add_left _ _) h1
    have h3 : b (s + g) ≤ c := by
      rcases Nat.le_total (b (s + g)) c with z | z
      · exact z
      · rw [Nat.min_eq_left z] at h2; exact absurd h2 (Nat.lt_irrefl _)
    have h4 := bsum_min (s := s) (b := b) (g := g) (Nat.lt_of_le_of_lt (Nat.le_add_right _ _) h1)
    show bsum b s g + b (s + g) = bsum (fun x => min c (b x)) s g + min c (b (s + g))
    rw [h4, Nat.min_eq_right h3]

theorem SG_short {N0 : List Nat} {k g i : Nat} {b : Nat → Nat} (hc0 : Can N0) (hs0 : N0.sum = k - 1) (hi : g ≤ i) (h : g + 1 ≤ (SG N0 k b i).length) : 2 ≤ k ∧ bsum b (i - g) g ≤ k - 2 := by
  cases e : SG N0 k b i with
  | nil => rw [e] at h; cases h
  | cons n r =>
    have hc := SG_can (k := k) (b := b) hc0 i
    have hs := SG_sum (k := k) (b := b) hc0 hs0 i
    rw [e] at h hc hs
    have hn : 1 ≤ n := hc
    rw [List.sum_cons] at hs
    rw [List.length_cons] at h
    have h3 := SG_hist hc0 e g (by omega) hi
    have h4 := drop_sum_le r (r.length - g)
    have h5 : bsum (fun x => min (k - 1) (b x)) (i - g) g < k - 1 := by omega
    have h6 := bsum_min h5
    refine ⟨by omega, ?_⟩
    rw [h6]
    omega

/-! ### the formula -/
section
variable {lim : Nat} {b : Nat → Nat} {l : List Bool}
theorem tz_last {w : List Bool} (h : w.getLast? = some false) : tz w = [] ∨ (tz w).getLast? = some false := by
  induction w with
  | nil => cases h
  | cons x r ih =>
    cases x with
    | true => exact .inr h
    | false =>
      cases r with
      | nil => exact .inl rfl
      | cons y t => exact ih (by rw [← h]; simp [List.getLast?_cons_cons])
theorem zl_last : ∀ {w : List Bool}, zl w = [] ∨ (zl w).getLast? = some false
  | [] => .inl rfl
  | x :: r => by
    right
    rw [zl]
    split
    · rename_i h
      induction r with
      | nil => rfl
      | cons y t ih =>
        cases y with
        | true => rw [List.count_cons_self] at h; omega
        | false =>
          rw [List.count_cons_of_ne (by simp)] at h
          have := ih h
          rw [List.getLast?_cons_cons]
          exact this
    · rename_i h
      cases e : zl r with
      | nil =>
        have := zl_len (w := r)
        rw [e] at this
        cases r with
        | nil => simp at h
        | cons y t => simp at this
      | cons y t =>
        rcases zl_last (w := r) with z | z
        · rw [e] at z; cases z
        · rw [e] at z
          rw [List.getLast?_cons_cons]
          exact z
theorem rel_enc {w : List Bool} (hc : lim ≤ w.count true) : ∃ N, rel lim w = enc N ∧ Can N := by
  have h : tz (rel lim w) = rel lim w := by
    unfold rel
    rw [if_neg (by omega)]
    exact tz_idem
  refine enc_of h ?_
  unfold rel
  rw [if_neg (by omega)]
  rcases zl_last (w := w) with z | z
  · rw [z]; exact .inl rfl
  · exact tz_last z
/-- behind the growth the word is told by its blocks -/
theorem steady (h : tz l = l) (hl : l.count true ≤ lim) (h1 : 1 ≤ lim) : ∃ N0, Can N0 ∧ N0.sum = lim - 1 ∧ ∀ i, Uw lim b l (lim - l.count true + i) = enc (SG N0 lim (fun j => b (lim - l.count true + j)) i) := by
  have h0 : ∃ N0, Uw lim b l (lim - l.count true) = enc N0 ∧ Can N0 := by
    rcases Nat.lt_or_ge (l.count true) lim with z | z
    · obtain ⟨g, hg⟩ : ∃ g, lim - l.count true = g + 1 := ⟨lim - l.count true - 1, by omega⟩
      rw [hg, Uw]
      refine rel_enc ?_
      rw [List.count_append, cars_cnt (Uw_tz h g), Uw_cnt h hl h1, if_pos (by omega)]
      simp
      omega
    · rw [show lim - l.count true = 0 from by omega, Uw]
      exact rel_enc z
  obtain ⟨N0, e0, c0⟩ := h0
  have s0 : N0.sum = lim - 1 := by
    rw [← enc_cnt, ← e0, Uw_cnt h hl h1, if_neg (by omega)]
  refine ⟨N0, c0, s0, fun i => ?_⟩
  induction i with
  | zero => exact e0
  | succ i ih =>
    have hs := SG_sum (b := fun j => b (lim - l.count true + j)) c0 s0 i
    have hcan := SG_can (k := lim) (b := fun j => b (lim - l.count true + j)) c0 i
    have hcn : (Uw lim b l (lim - l.count true + i)).count true = lim - 1 := by rw [ih, enc_cnt, hs]
    rw [← Nat.add_assoc, Uw, hcn, ih, Nat.min_comm, cars_enc hcan (by rw [hs]; exact Nat.min_le_left _ _)]
    unfold rel
    rw [if_neg (by
      rw [List.count_append, List.count_append, enc_cnt, eats_sum hcan, hs]
      have h2 : (ones (min (lim - 1) (b (lim - l.count true + i)))).count true = min (lim - 1) (b (lim - l.count true + i)) := by unfold ones; rw [List.count_replicate]; simp
      rw [h2]
      have h3 := Nat.min_le_left (lim - 1) (b (lim - l.count true + i))
      generalize min (lim - 1) (b (lim - l.count true + i)) = m at h3 ⊢
      simp
      omega), zl_snoc, List.append_assoc, ← enc_snoc]
    have := tz_enc (eats (min (lim - 1) (b (lim - l.count true + i))) (SG N0 lim (fun j => b (lim - l.count true + j)) i) ++ [min (lim - 1) (b (lim - l.count true + i))]) [] rfl
    rw [List.append_nil, List.append_nil] at this
    rw [this]
    rfl
def BlkN (l : List Bool) (lim C : Nat) (b : Nat → Nat) (t : Nat) : Prop := bsum b 0 t < l.count true ∧ bsum b 0 t < lim - 1 ∧ C ≤ (sfx (bsum b 0 t) l).length + bsum b 0 t + t
def ShtN (o lim C : Nat) (b : Nat → Nat) (t : Nat) : Prop := C ≤ t + o ∧ bsum b (t - (C - lim)) (C - lim) < lim - 1
theorem bsum_shift {b : Nat → Nat} {s d : Nat} : ∀ {n : Nat}, bsum (fun j => b (d + j)) s n = bsum b (d + s) n
  | 0 => rfl
  | n + 1 => by rw [bsum, bsum, bsum_shift, Nat.add_assoc]
theorem len_split (w : List Bool) : w.length = w.count true + w.count false := by
  induction w with
  | nil => rfl
  | cons x r ih => cases x <;> simp [List.count_cons, ih] <;> omega
/-- the word is full exactly if the formula says so -/
theorem full_iff (h : tz l = l) (hl : l.count true ≤ lim) (h1 : 1 ≤ lim) {C : Nat} (hC : lim ≤ C) (t : Nat) : C ≤ (Uw lim b l t).length ↔ (BlkN l lim C b t ∨ ShtN (l.count true) lim C b t) := by
  have hk := old_cnt hl h1
  have hu := Uw_cnt (b := b) h hl h1 t
  have hsh : ShtN (l.count true) lim C b t → C ≤ (Uw lim b l t).length := by
    rintro ⟨s1, s2⟩
    obtain ⟨N0, c0, s0, hst⟩ := steady (b := b) h hl h1
    have e := hst (t - (lim - l.count true))
    rw [show lim - l.count true + (t - (lim - l.count true)) = t from by omega] at e
    have h2 := SG_long (w := t - (lim - l.count true) - (C - lim)) (g := C - lim) (b := fun j => b (lim - l.count true + j)) c0 s0 (by omega) (by
      rw [bsum_shift, show lim - l.count true + (t - (lim - l.count true) - (C - lim)) = t - (C - lim) from by omega]
      omega)
    rw [show t - (lim - l.count true) - (C - lim) + (C - lim) = t - (lim - l.count true) from by omega] at h2
    rw [e, enc_len, SG_sum c0 s0]
    omega
  by_cases ha : bsum b 0 t < (old lim l).count true
  · obtain ⟨T, c1, c2, c3⟩ := case_a (b := b) h hl h1 ha
    have hlen : (Uw lim b l t).length = (sfx (bsum b 0 t) l).length + bsum b 0 t + t := by
      rw [c1, List.length_append, c2, old_sfx hl h1 ha]
      omega
    rw [hk] at ha
    constructor
    · intro z
      rw [hlen] at z
      exact .inl ⟨by omega, by omega, z⟩
    · rintro (⟨_, _, z⟩ | z)
      · rw [hlen]; exact z
      · exact hsh z
  · constructor
    · intro z
      right
      have hz := case_b (b := b) h hl h1 (t := t) (by omega)
      have hr := rls_le (o := l.count true) (lim := lim) (t := t)
      rw [len_split, hu] at z
      by_cases y : l.count true + t < lim
      · rw [if_pos y] at z
        have := hr.2 y
        omega
      · rw [if_neg y] at z
        obtain ⟨N0, c0, s0, hst⟩ := steady (b := b) h hl h1
        have e := hst (t - (lim - l.count true))
        rw [show lim - l.count true + (t - (lim - l.count true)) = t from by omega] at e
        have hz2 := hr.1
        rw [e, enc_zer] at z hz
        obtain ⟨q1, q2⟩ := SG_short (g := C - lim) c0 s0 (by omega) (i := t - (lim - l.count true)) (b := fun j => b (lim - l.count true + j)) (by omega)
        rw [bsum_shift, show lim - l.count true + (t - (lim - l.count true) - (C - lim)) = t - (C - lim) from by omega] at q2
        exact ⟨by omega, by omega⟩
    · rintro (⟨z1, z2, _⟩ | z)
      · rw [hk] at ha
        omega
      · exact hsh z
end
end Lif

set_option Elab.async false
set_option linter.all false
set_option maxRecDepth 100000
set_option maxHeartbeats 4000000
/-! generators: a for loop in a generator's body -/
namespace Gx
open PySem PySem.Spec PyProof.Rows L2 GenW
def notedK (env : Env) (e : Value) : Sem PySem.Fin := (do noteFrame e env; theTreesLotGoes e : Sem Unit).wrap (fun _ => .raise e) .raise id id
section
variable {prog : Program} {w : World} {A : Around} {R : GenEnd} {Y : Protocol} {n : Nat} {s₀ : Shared} {c : Code} {fs : List Frame} {s : Shared} {env : Env}
theorem seg_forLoop {target : Expr} {itv : Value} {body : List Stmt}
    (h : wpAny (model prog w) (A.over (.forLoop target itv body [] env) fs) (pyNext itv) (fun r s1 => match r with
        | none => Seg (model prog w) A R Y n s₀ (.forLoop target itv body [] env) (.pure (.again (.block [] env))) fs s1
        | some v => wpAny (model prog w) (A.over (.forLoop target itv body [] env) fs) (letOwnedTupleGo target itv v) (fun _ s2 =>
            wpAny (model prog w) (A.over (.forLoop target itv body [] env) fs) (assign target env v) (fun _ s3 =>
              Seg (model prog w) A R Y n s₀ (.forLoop target itv body [] env) ((execs body env).wrap (fun f => match f with
                | .next | .cont => .pure (.again (.forLoop target itv body [] env))
                | .brk => .pure (.done .next)
                | .ret v => .pure (.done (.ret v))) (notedK env) id id) fs s3) (fun x s' => Seg (model prog w) A R Y n s₀ (.forLoop target itv body [] env) (notedK env x) fs s') s2) (fun x s' => Seg (model prog w) A R Y n s₀ (.forLoop target itv body [] env) (notedK env x) fs s') s1)
      (fun x s' => Seg (model prog w) A R Y n s₀ (.forLoop target itv body [] env) (notedK env x) fs s') s) :
    Seg (model prog w) A R Y n s₀ (.forLoop target itv body [] env) ((model prog w).den (.forLoop target itv body [] env)) fs s := by
  show Seg _ A R Y n s₀ _ ((forTurn target itv body [] env).onRaise (fun x => do noteFrame x env; theTreesLotGoes x)) fs s
  have hN : ∀ e : Value, (do noteFrame e env; theTreesLotGoes e : Sem Unit).bind (fun _ => (.raise e : Sem PySem.Fin)) = notedK env e := fun e => by
    rw [Sem.bind_eq_wrap]; rfl
  unfold forTurn
  rw [Sem.onRaise_eq_wrap]
  refine seg_bind_wrap (wpAny_standAt ?_)
  refine seg_bind_wrap (wpAny_onRaise (wpAny_mono h (fun r s1 h1 => ?_) fun x s' hx => wpAny_standAt (by rw [hN]; exact hx)))
  cases r with
  | none => exact h1
  | some v =>
    refine seg_bind_wrap (wpAny_mono h1 (fun _ s2 h2 => ?_) fun x s' hx => by rw [hN]; exact hx)
    refine seg_bind_wrap (wpAny_mono h2 (fun _ s3 h3 => ?_) fun x s' hx => by rw [hN]; exact hx)
    rw [Sem.bind_eq_wrap', Sem.wrap_wrap]
    refine Eq.mpr (congrArg (fun t => Seg (model prog w) A R Y n s₀ (.forLoop target itv body [] env) t fs s3) (Sem.wrap_congr (execs body env) _ _ (K' := fun f => match f with
                | .next | .cont => .pure (.again (.forLoop target itv body [] env))
                | .brk => .pure (.done .next)
                | .ret v => .pure (.done (.ret v))) (H' := notedK env) (fun f => by cases f <;> rfl) (fun e => hN e))) h3
theorem seg_For {target iter : Expr} {body : List Stmt} {pos : Pos} {K : Flow → Sem PySem.Fin} {J : Value → Sem PySem.Fin} {gd : Bool → Bool} {lv : List Value → List Value}
    (h : wpAny (model prog w) (A.over c fs) (eval iter env) (fun x s1 => wpAny (model prog w) (A.over c fs) (pyIter x) (fun itv s2 =>
      ∀ p, Seg (model prog w) A R Y n s₀ (.forLoop target itv body [] env) ((model prog w).den (.forLoop target itv body [] env))
        (.ret (fun r => ((match r with | .ok f => (.pure f : Sem Flow) | .error e => .raise e).onRaise (cameBack env)).wrap K J gd lv) none (gd false) (lv []) c p [] :: fs) s2)
        (fun x s' => Seg (model prog w) A R Y n s₀ c (J x) fs s') s1) (fun x s' => Seg (model prog w) A R Y n s₀ c (J x) fs s') s)
    (hs : ∀ x, foldedSetIterable iter env x = pure x := by intro _; rfl) :
    Seg (model prog w) A R Y n s₀ c ((exec (.For target iter body [] pos) env).wrap K J gd lv) fs s := by
  rw [exec_For]
  refine seg_bind_wrap (wpAny_standAt ?_)
  refine seg_bind_wrap (wpAny_mono h (fun x s1 h1 => ?_) fun _ _ h' => h')
  refine seg_bind_wrap (wpAny_of_eq (hs x) ?_)
  refine seg_bind_wrap (wpAny_standAt ?_)
  refine seg_bind_wrap (wpAny_holding (wpAny_mono h1 (fun itv s2 h2 => ?_) fun _ _ h' => h'))
  exact seg_call h2
end
/-- W: the invariant by the turn and a measure; N: what the body is to reach -/
def tGFor (wi : TI) (g : TG) (tb : TGn) : TGn := fun D ys σ H => wi σ H fun J H1 => ∃ W : Nat → Nat → List V → L2.St → Hp → Prop, (∃ m, W 0 m ys σ H1) ∧ ∀ i m ys σ H, W i m ys σ H →
  (J.stop i H ∧ D.nx ys σ H) ∨ (J.go i H ∧ ∃ N : List V → L2.St → Hp → Prop, (∀ ys' σ' H', N ys' σ' H' → ∃ m', m' < m ∧ W (i + 1) m' ys' σ' H') ∧ ∀ x H', J.yld i H x H' → g x σ H' fun σ2 H2 => tb { D with nx := N, ct := N, bk := D.nx } ys σ2 H2)
section
variable {X : Cx} {tg : Expr}
theorem gs_for {iter : Expr} {body : List Stmt} {wi : TI} {g : TG} {tb : TGn} {pos : Pos} (hp : PassesOwn (model X.prog X.w) X.A X.env X.xe) (hc : X.calm = true) (hi : PI X tg iter wi) (hg : PG X tg g) (hb : GSs X body tb)
    (hs : ∀ x, foldedSetIterable iter X.env x = pure x := by intro _; rfl) : GS X (.For tg iter body [] pos) (tGFor wi g tb) := by
  refine ⟨fun A S ip R n ys s₀ c fs K J gd lv s σ H D gc hn k hI ht => ?_⟩
  obtain ⟨acc0, cc0, r0, I0⟩ := hI
  refine seg_For ?_ hs
  rw [gc.over]
  refine wpAny_mono (hi.run _ s σ H _ I0 ht) (fun v s1 h1 => wpAny_mono h1 (fun itv s2 h2 => ?_) fun x s' hx => k.exc n s₀ x s' hx) fun x s' hx => k.exc n s₀ x s' hx
  intro p
  obtain ⟨it, fp, tn, JJ, H2, e, I2, T, st2, f2, W, ⟨m0, w0⟩, turn⟩ := h2
  subst e
  have gl := fun (kk : Result → Sem PySem.Fin) => gc_loop (k := kk) (c' := .forLoop tg (.ref it) body [] X.env) (l := lv []) (kp := []) (p := p) gc rfl rfl
  have hfS : ∀ b ∈ fp, b ≠ S := fun b hb e => (f2 b hb).2.2.2.2.2 (S, lstObj acc0 cc0) (List.mem_append_right _ List.mem_cons_self) e.symm
  -- what stays true of the iterator's objects through the loop
  have stat : ∀ {H' : Hp} {acc : Array Value} {cc : Nat}, (∀ b ∈ fp, H' b = none) → ∀ b ∈ fp, FpOk X ((S, lstObj acc cc) :: ip) H' b := fun {H' acc cc} hn b hb => ⟨hn b hb, (f2 b hb).2.1, (f2 b hb).2.2.1, (f2 b hb).2.2.2.1, (f2 b hb).2.2.2.2.1, fun q hq => by
    rcases List.mem_append.mp hq with z | z
    · exact (f2 b hb).2.2.2.2.2 q (List.mem_append_left _ z)
    · rcases List.mem_cons.mp z with z | z
      · rw [z]; exact Ne.symm (hfS b hb)
      · exact (f2 b hb).2.2.2.2.2 q (List.mem_append_right _ (List.mem_cons_of_mem _ z))⟩
  have loop : ∀ (m i n : Nat) (ys : List V) (s₀ s : Shared) (σ : L2.St) (H : Hp), n + ys.length = sizeLine → W i m ys σ H → GI X S ip ys σ H s → tn i s.heap → (∀ b ∈ fp, H b = none) →
      Seg (model X.prog X.w) A R (GY X S) n s₀ (.forLoop tg (.ref it) body [] X.env) ((model X.prog X.w).den (.forLoop tg (.ref it) body [] X.env))
        (.ret (fun r => ((match r with | .ok f => (.pure f : Sem Flow) | .error e => .raise e).onRaise (cameBack X.env)).wrap K J gd lv) none (gd false) (lv []) c p [] :: fs) s := by
    intro m
    induction m using Nat.strongRecOn with
    | ind m ih =>
      intro i n ys s₀ s3 σ3 H3 hn w3 hI st3 fr3
      have ee : ∀ (n : Nat) (s₀ : Shared) (x : Value) (s' : Shared), X.xe x s' → Seg (model X.prog X.w) A R (GY X S) n s₀ (.forLoop tg (.ref it) body [] X.env)
          (notedK X.env x)
          (.ret (fun r => ((match r with | .ok f => (.pure f : Sem Flow) | .error e => .raise e).onRaise (cameBack X.env)).wrap K J gd lv) none (gd false) (lv []) c p [] :: fs) s' := fun n s₀ x s' hx => by
        unfold notedK
        refine seg_wrap ?_
        rw [(gl _).over]
        refine wpAny_bind (wpAny_mono (hp x s' hx) (fun _ s'' hcb => wpAny_theTreesLotGoes ?_) fun y s'' hcb => ?_)
        · exact seg_leaf (.error x) (seg_cameBack gc k hcb)
        · exact seg_leaf (.error y) (seg_cameBack gc k hcb)
      obtain ⟨acc, cc, r, I3⟩ := hI
      refine seg_forLoop ?_
      rw [(gl _).over]
      rcases turn i m ys σ3 H3 w3 with ⟨stop, qn⟩ | ⟨go, N, hN, step⟩
      · refine wpAny_mono (T.done X rfl rfl rfl hc i _ s3 σ3 H3 X.xe I3 (stat fr3) st3 stop) (fun r4 s4 h4 => ?_) fun x s' hx => ee n s₀ x s' hx
        obtain ⟨hr, I4⟩ := h4
        subst hr
        refine seg_again rfl ?_
        show Seg _ _ _ _ n s₀ _ ((execs [] X.env).onRaise (fun x => do noteFrame x X.env; theTreesLotGoes x) >>= fun f => Sem.pure (PySem.Fin.done f)) _ s4
        rw [Sem.bind_eq_wrap', Sem.onRaise_eq_wrap, Sem.wrap_wrap]
        refine seg_execs_nil ?_
        exact seg_leaf (.ok .next) (k.ok n ys s₀ s4 .next hn ⟨σ3, H3, ⟨acc, cc, r, I4⟩, qn⟩)
      · refine wpAny_mono (T.item X rfl rfl rfl hc i _ s3 σ3 H3 X.xe I3 (stat fr3) st3 go) (fun r4 s4 h4 => ?_) fun x s' hx => ee n s₀ x s' hx
        obtain ⟨u, hr, h4⟩ := h4
        subst hr
        refine wpAny_mono h4 (fun _ s5 h5 => ?_) fun x s' hx => ee n s₀ x s' hx
        obtain ⟨x, H5, I5, r5, y5, st5, fr5⟩ := h5
        have I5' := I5.pinned (stat fr5) (T.obj _ _ st5)
        refine wpAny_mono (hg.run _ s5 σ3 H5 x u _ I5' r5 (step x H5 y5)) (fun _ s6 h6 => ?_) fun x s' hx => ee n s₀ x s' hx
        obtain ⟨σ6, H6, I6, q6⟩ := h6
        have gcp : ∀ kk : Result → Sem PySem.Fin, GC X S (ip ++ pinsAt fp s5.heap) A (.forLoop tg (.ref it) body [] X.env) (.ret kk none (gd false) (lv []) c p [] :: fs) id := fun kk => ⟨(gl kk).pn, fun q hq => (List.mem_append.mp hq).elim ((gl kk).ip q) fun z => hfS _ (of_pinsAt z).1, (gl kk).apart, (gl kk).over, (gl kk).split, (gl kk).guard, (gl kk).gd⟩
        have unp : ∀ {ys7 : List V} {σ7 : L2.St} {H7 : Hp} {s7 : Shared}, GI X S (ip ++ pinsAt fp s5.heap) ys7 σ7 H7 s7 → GI X S ip ys7 σ7 H7 s7 := fun {ys7 σ7 H7 s7} h7 => by
          obtain ⟨a7, c7, r7, I7⟩ := h7
          exact ⟨a7, c7, r7, Inv.unpinned (pins := (S, lstObj a7 c7) :: ip) (pl := pinsAt fp s5.heap) I7⟩
        have again : ∀ {n' : Nat} {ys7 : List V} {s₀' s7 : Shared} {σ7 : L2.St} {H7 : Hp}, n' + ys7.length = sizeLine → GI X S (ip ++ pinsAt fp s5.heap) ys7 σ7 H7 s7 → N ys7 σ7 H7 → Seg (model X.prog X.w) A R (GY X S) n' s₀' (.forLoop tg (.ref it) body [] X.env) (.pure (.again (.forLoop tg (.ref it) body [] X.env)))
            (.ret (fun r => ((match r with | .ok f => (.pure f : Sem Flow) | .error e => .raise e).onRaise (cameBack X.env)).wrap K J gd lv) none (gd false) (lv []) c p [] :: fs) s7 := fun {n' ys7 s₀' s7 σ7 H7} hn' G7 n7 => by
          obtain ⟨m', hm, w7⟩ := hN ys7 σ7 H7 n7
          obtain ⟨a7, c7, r7, I7⟩ := id G7
          refine seg_again rfl (ih m' hm (i + 1) n' ys7 s₀' s7 σ7 H7 hn' w7 (unp G7) (T.keep _ _ _ st5 fun b hb o e => (I7.pin (b, o) (List.mem_append_right _ (List.mem_cons_of_mem _ (List.mem_append_right _ (mem_pinsAt hb e))))).1) fun b hb => ?_)
          obtain ⟨o, e, d⟩ := T.obj _ _ st5 b hb
          exact (I7.pin (b, o) (List.mem_append_right _ (List.mem_cons_of_mem _ (List.mem_append_right _ (mem_pinsAt hb e))))).2.1
        refine hb.run A S (ip ++ pinsAt fp s5.heap) R n ys s₀ _ _ _ _ id id s6 σ6 H6 { D with nx := N, ct := N, bk := D.nx } (gcp _) hn ⟨fun n' ys' s₀' s7 f hn' hs => ?_, fun n' s₀' x s7 hx => ee n' s₀' x s7 hx⟩ ⟨acc, cc, r, I6⟩ q6
        cases f with
        | next =>
          obtain ⟨σ7, H7, I7, n7⟩ := hs
          exact again hn' I7 n7
        | cont =>
          obtain ⟨σ7, H7, I7, n7⟩ := hs
          exact again hn' I7 n7
        | brk =>
          obtain ⟨σ7, H7, I7, q7⟩ := hs
          exact seg_leaf (.ok .next) (k.ok n' ys' s₀' s7 .next hn' ⟨σ7, H7, unp I7, q7⟩)
        | ret v =>
          obtain ⟨x7, σ7, H7, I7, r7, q7⟩ := hs
          exact seg_leaf (.ok (.ret v)) (k.ok n' ys' s₀' s7 (.ret v) hn' ⟨x7, σ7, H7, unp I7, r7, q7⟩)
  exact loop m0 0 n ys s₀ s2 σ H2 hn w0 ⟨acc0, cc0, r0, I2⟩ st2 fun b hb => (f2 b hb).1
end

/-! ### a generator def -/
structure ClY (P : Program) (w : World) (K : PySem.W.Frag) (mg : Str → Option Value) (base : Heap) (k : Nat) (x : Str) (st : Stmt) (ps : List Str) (dvs : List V) (kws : List (Str × V)) (sp : SpG) : Prop where
  ex : ∃ (f : Addr) (fd : FuncData), mg x = some (.ref f) ∧ FunD K x x (defArgs st) (defBody st) (defScope st) dvs kws f fd ∧ GFn P w K mg base k f fd ps sp
theorem DfG.okY {P : Program} {w : World} {K : PySem.W.Frag} {mg : Str → Option Value} {base : Heap} {x : Str} {st : Stmt} {N ps : List Str} {dvs : List V} {kws : List (Str × V)} {k : Nat} {sp : SpG} (D : DfG K mg x st dvs kws) (S : GScope N ps (defScope st)) (len : ∀ vs H Q E, sp vs H Q E → vs.length = ps.length)
    (hbody : ∀ (f : Addr) (cdv : Value) (A : Around) (outer : List Env) (s : Shared) (H : Hp) (vs : List V) (Q : List V → Hp → Prop) (E : XK) (pn : List (Addr × Obj)), Room k (A.deeper (envOfC x (defScope st) s.heap.objs.size f cdv)) → sp vs H Q E →
      ∃ t, GSs (gcxOf P w K mg base N x (defScope st) f cdv A outer s H E pn) (defBody st) t ∧ t { nx := fun ys _ H' => Q ys H', rt := fun ys v H' => v = .non ∧ Q ys H' } [] (start N vs) H) : ClY P w K mg base (k + 1) x st ps dvs kws sp := by
  obtain ⟨f, fd, h1, h2⟩ := D.ex
  obtain ⟨oc, od, dV, kV, doc, pm, an, cdv, ct, osl, rfl, lk, hcd, _, _⟩ := id h2.ex
  exact ⟨f, _, h1, h2, gfn_of lk hcd S len fun A outer s H vs Q E pn hr hsp => hbody f cdv A outer s H vs Q E pn hr hsp⟩
section
variable {X : Cx} {k n : Nat} {f : Addr} {fd : FuncData} {ps ks : List Str} {sp : SpG} {x : Str} {p pos : Pos} {e : Expr} {es : List Expr} {kw : List Keyword} {t tk : TA} {st : Stmt} {dvs : List V} {kws : List (Str × V)} {g : List Value → List Value → List Value} {gV : List V → List V → List V} {EE : XK}
theorem run_gfnNS {pins : List (Addr × Obj)} {σ : L2.St} {H : Hp} {s : Shared} {cont : List V → Hp → Prop} {E1 : Value → Shared → Prop} {us ws : List Value} {vs zs : List V} (F : GFn X.prog X.w X.K X.mg X.base k f fd ps sp) (hr : Room k X.A) (hb : KBn X.K fd ps n ks g gV)
    (I : Inv X pins σ H s) (r : Vals vs us) (rz : Vals zs ws) (l1 : vs.length = n) (l2 : zs.length = ks.length) (h : sp (gV vs zs) H cont EE) :
    wpAny (model X.prog X.w) X.A (call (.ref f) us (ks.zip ws)) (fun u s' => ∃ H1 sc ex, Inv X pins σ H1 sc ∧ ExOk X pins ex ∧ GMade X.prog X.w k X.stack H1 sc ex cont EE u s') E1 s := by
  have r2 := hb.rel r rz
  refine wpAny_call (codeAny_mono (F.run X.A X.stack s H ⟨us, ks.zip ws⟩ (g us ws) (gV vs zs) cont EE hr I.env0 (hb.to s us ws I.kIn (r.length.symm.trans l1) (rz.length.symm.trans l2)) r2 h) fun r s' hq => ?_)
  cases r with
  | error e => exact False.elim hq
  | ok fl =>
    cases fl with
    | ret u => exact ⟨H, s, [], I, .nil, hq⟩
    | next => exact False.elim hq
    | brk => exact False.elim hq
    | cont => exact False.elim hq
def tCallGN (n m : Nat) (sp : SpG) (gV : List V → List V → List V) (E : XK) (t tk : TA) : TGen := fun σ H cont => t σ H fun vs H1 => tk σ H1 fun zs H2 => vs.length = n ∧ zs.length = m ∧ sp (gV vs zs) H2 cont E
theorem pgen_kd (C : ClY X.prog X.w X.K X.mg X.base k x st ps dvs kws sp) (hr : Room k X.A) (n : Nat) (ks : List Str) (ms : List (Str × V)) (g : {α : Type} → List α → List α → List α → List α → List α) (hd : dvs ≠ []) (hk : kws ≠ []) (hms : ∀ q ∈ ms, q ∈ kws)
    (hrel : ∀ {vs ds mz zs : List V} {us its mv ws : List Value}, Vals vs us → Vals ds its → Vals mz mv → Vals zs ws → Vals (g vs ds mz zs) (g us its mv ws))
    (h : ∀ (T D : Addr) (doc pm : Value) (an : Option Addr) (cdv ct : Value) (us its mv ws : List Value), us.length = n → its.length = dvs.length → mv.length = ms.length → ws.length = ks.length →
      ∃ k, bindArgs (PySem.W.fnOf x x (defArgs st) (defBody st) (defScope st) (.ref T) (.ref D) doc pm an cdv ct) ⟨us, ks.zip ws⟩ = seqItems? (.ref T) >>= k ∧ KwChain D ((ms.map (·.1)).zip mv) (k (some its.toArray)) (ps.zip (g us its mv ws)))
    (ha : PA X (e :: es) t) (hkw : PK X kw tk) (hg : Gl X x := by rfl) (hall : (backToKw pos (keywordEach kw X.env)).all (·.1.isSome) = true := by rfl) (hks : (backToKw pos (keywordEach kw X.env)).filterMap (·.1) = ks := by rfl)
    (hdb : (x == ("__debug__" : Str)) = false := by decide) (he : starEach (e :: es) X.env = (false, eval e X.env) :: starEach es X.env := by rfl)
    (hpl : ((backTo pos (starEach (e :: es) X.env)).any (·.1) || (backToKw pos (keywordEach kw X.env)).any (·.1.isNone)) = false := by rfl) :
    PGen X k (.Call (.Name x p) (e :: es) kw pos) (tCallGN n ks.length sp (fun vs zs => g vs dvs (ms.map (·.2)) zs) E0 t tk) E0 := by
  obtain ⟨f, fd, h1, h2, h4⟩ := C.ex
  obtain ⟨its, mv, hb⟩ := h2.kbinds n ks ms g hd hk hms hrel h
  refine ⟨fun pins s σ H cont I q => ?_⟩
  refine wpAny_Call_Name_kw (ld_glob I hg h1 ?_ hdb)
  refine PySem.W.callWith_KW (h₀ := X.base) I.ok.mod.kin h2.kp hall (thn (ha.run pos pins s σ H _ I q) fun us s1 ⟨vs, H1, I1, r, q⟩ => ?_) hpl he
  refine thn (hkw.run pos pins s1 σ H1 _ I1 q) fun ws s2 ⟨zs, H2, I2, rz, l1, l2, q2⟩ => ⟨I2.kIn, ?_⟩
  rw [hks]
  exact run_gfnNS h4 hr hb I2 r rz l1 l2 q2
theorem passY0 {X : Cx} : Passes (L2.CX X.prog X.w) X E0 := fun _ _ _ _ _ _ _ h => by
  obtain ⟨_, _, _, _, _, _, _, _, _, _, _, _, h⟩ := h
  exact h.elim
theorem noStop0 {K : PySem.W.Frag} : NoStop K E0 := fun _ _ _ h => h.elim
theorem pe_lsG {tg : TGen} (h : PGen X k e tg E0) (hr : Room (k + 3) X.A) (hg : Gl X "list") (hmg : X.mg "list" = none)
    (he : starEach [e] X.env = (false, eval e X.env) :: starEach [] X.env := by rfl) : PE X (.Call (.Name "list" p) [e] [] pos) (tListG tg) := pe_listG h passY0 noStop0 hr hg hmg (by decide +kernel) (he := he)
end
/-! ### steps -/
section
variable {D : GEnds} {ys : List V} {σ τ : L2.St} {H : Hp} {Q : VK}
/-- what comes of a generator that is drained at once -/
def rNewG (sp : List V → Hp → (List V → Hp → Prop) → XK → Prop) (vs : List V) (E : XK) (H : Hp) (Q : VK) : Prop := sp vs H (fun out H2 => ∀ p, H2 p = none → Q (.ref p) (upd H2 p (.lst out))) E
instance {n m : Nat} {sp : SpG} {gV : List V → List V → List V} {E : XK} {t tk : TA} : Step (tListG (tCallGN n m sp gV E t tk) σ H Q) (t σ H fun vs H1 => tk σ H1 fun zs H2 => vs.length = n ∧ zs.length = m ∧ rNewG sp (gV vs zs) E H2 Q) := ⟨fun q => q⟩
theorem g_newG {out : List V} {H2 : Hp} (q : ∀ p H3, Nw H2 p → Ex H2 H3 → At H3 p (.lst out) → Q (.ref p) H3) : ∀ p, H2 p = none → Q (.ref p) (upd H2 p (.lst out)) := fun p hp => q p _ ⟨hp⟩ (Ex.mk hp) ⟨upd_same⟩
/-- a generator's ends, taken apart -/
instance {t : TS} : Step (tPlain t D ys σ H) (t (Ends.mk (D.nx ys) (D.rt ys) (D.bk ys) (D.ct ys)) σ H) := ⟨fun q => q⟩
instance {t u : TGn} : Step (tGThen t u D ys σ H) (t (GEnds.mk (fun ys' σ' H' => u D ys' σ' H') D.rt D.bk D.ct) ys σ H) := ⟨fun q => q⟩
instance : Step (tG0 D ys σ H) (D.nx ys σ H) := ⟨fun q => q⟩
section
variable {a : List V → L2.St → Hp → Prop} {r : List V → VK} {b c : List V → L2.St → Hp → Prop}
instance : Step ((GEnds.mk a r b c).nx ys σ H) (a ys σ H) := ⟨fun q => q⟩
instance : Step ((GEnds.mk a r b c).rt ys v H) (r ys v H) := ⟨fun q => q⟩
instance : Step ((GEnds.mk a r b c).bk ys σ H) (b ys σ H) := ⟨fun q => q⟩
instance : Step ((GEnds.mk a r b c).ct ys σ H) (c ys σ H) := ⟨fun q => q⟩
end
theorem g_yield {te : TE} (hz : ys.length < 100000) (q : te σ H fun x H1 => D.nx (ys ++ [x]) σ H1) : tGYield te D ys σ H := ⟨Nat.lt_of_lt_of_le hz (by decide), q⟩
def GLI (bs : List Addr) (H : Hp) (Pv : List V → L2.St → Hp → Prop) : List V → L2.St → Hp → Prop := fun ys σ' H' => Chg bs H H' ∧ Pv ys σ' H'
theorem gli {bs : List Addr} {H H' : Hp} {Pv : List V → L2.St → Hp → Prop} {ys : List V} {σ' : L2.St} [r : RelC bs H H'] [k : Anc H H'] (h : Pv ys σ' H') : GLI bs H Pv ys σ' H' := ⟨rel, h⟩
abbrev GForW (J : It) (g : TG) (tb : TGn) (D : GEnds) (ys : List V) (σ : L2.St) (H : Hp) : Prop := ∃ W : Nat → Nat → List V → L2.St → Hp → Prop, (∃ m, W 0 m ys σ H) ∧ ∀ i m ys σ H, W i m ys σ H →
  (J.stop i H ∧ D.nx ys σ H) ∨ (J.go i H ∧ ∃ N : List V → L2.St → Hp → Prop, (∀ ys' σ' H', N ys' σ' H' → ∃ m', m' < m ∧ W (i + 1) m' ys' σ' H') ∧ ∀ x H', J.yld i H x H' → g x σ H' fun σ2 H2 => tb { D with nx := N, ct := N, bk := D.nx } ys σ2 H2)
theorem gfor_feeds {J : It} {n : Nat} {S : Hp → Prop} {Y : Nat → Hp → V → Hp → Prop} {g : TG} {tb : TGn} (F : Feeds J n S Y) (bs : List Addr) (Pv : Nat → List V → L2.St → Hp → Prop) (h0 : Pv 0 ys σ H) (hS : ∀ H', Chg bs H H' → S H')
    (hs : ∀ (i : Nat) ys' σ' H' x H'', i < n → Chg bs H H' → Pv i ys' σ' H' → Y i H' x H'' → g x σ' H'' fun σ2 H2 => tb (GEnds.mk (GLI bs H (Pv (i + 1))) D.rt D.nx (GLI bs H (Pv (i + 1)))) ys' σ2 H2) (hd : ∀ ys' σ' H', Chg bs H H' → Pv n ys' σ' H' → D.nx ys' σ' H') :
    GForW J g tb D ys σ H := by
  refine ⟨fun i m ys' σ' H' => m = n - i ∧ i ≤ n ∧ GLI bs H (Pv i) ys' σ' H', ⟨n, rfl, Nat.zero_le _, Chg.refl _ _, h0⟩, ?_⟩
  rintro i m ys' σ' H' ⟨rfl, hi, r, p⟩
  have q := hS H' r
  by_cases hlt : i < n
  · exact .inr ⟨F.go i H' q hlt, GLI bs H (Pv (i + 1)), fun ys' σ' H' p' => ⟨n - (i + 1), by omega, rfl, hlt, p'⟩, fun v H'' y => hs i ys' σ' H' v H'' hlt r p (F.yld i H' v H'' q hlt y)⟩
  · have e : i = n := by omega
    subst e
    exact .inl ⟨F.stop H' q, hd ys' σ' H' r p⟩
def rGFor1 (vs : List V) (g : TG) (tb : TGn) (D : GEnds) (ys : List V) (σ : L2.St) (H : Hp) : Prop := tGFor (iRng1 fun _ H R => R vs H) g tb D ys σ H
def rGForL (K : PySem.W.Frag) (v : V) (g : TG) (tb : TGn) (D : GEnds) (ys : List V) (σ : L2.St) (H : Hp) : Prop := tGFor (iList K fun _ H R => R v H) g tb D ys σ H
instance {ta : TA} {g : TG} {tb : TGn} : Step (tGFor (iRng1 ta) g tb D ys σ H) (ta σ H fun vs H1 => rGFor1 vs g tb D ys σ H1) := ⟨fun q => q⟩
instance {K : PySem.W.Frag} {tl : TE} {g : TG} {tb : TGn} : Step (tGFor (iList K tl) g tb D ys σ H) (tl σ H fun v H1 => rGForL K v g tb D ys σ H1) := ⟨fun q => q⟩
theorem gfor1 {n : Int} {g : TG} {tb : TGn} (bs : List Addr) (Pv : Nat → List V → L2.St → Hp → Prop) (hn : -(2 ^ 62) ≤ n ∧ n < 2 ^ 62) (h0 : Pv 0 ys σ H)
    (hs : ∀ (i : Nat) ys' σ' H', (i : Int) < n → Chg bs H H' → Pv i ys' σ' H' → g (.int (i : Int)) σ' H' fun σ2 H2 => tb (GEnds.mk (GLI bs H (Pv (i + 1))) D.rt D.nx (GLI bs H (Pv (i + 1)))) ys' σ2 H2)
    (hd : ∀ ys' σ' H', Chg bs H H' → Pv n.toNat ys' σ' H' → D.nx ys' σ' H') : rGFor1 [.int n] g tb D ys σ H :=
  ⟨n, rfl, hn.1, hn.2, gfor_feeds (fd_rng (lo := 0)) bs Pv h0 (fun _ _ => trivial) (fun i ys' σ' H' x H'' hi r p y => by
    obtain ⟨rfl, rfl⟩ := y
    rw [Int.zero_add]
    exact hs i ys' σ' _ (by omega) r p) hd⟩
theorem gforL {K : PySem.W.Frag} {a : Addr} {xs : List V} {g : TG} {tb : TGn} (bs : List Addr) (Pv : Nat → List V → L2.St → Hp → Prop) [hx : SqC K H a xs] [hn : NotIn a bs] (h0 : Pv 0 ys σ H)
    (hs : ∀ (i : Nat) x ys' σ' H', xs[i]? = some x → Chg bs H H' → Pv i ys' σ' H' → g x σ' H' fun σ2 H2 => tb (GEnds.mk (GLI bs H (Pv (i + 1))) D.rt D.nx (GLI bs H (Pv (i + 1)))) ys' σ2 H2)
    (hd : ∀ ys' σ' H', Chg bs H H' → Pv xs.length ys' σ' H' → D.nx ys' σ' H') : rGForL K (.ref a) g tb D ys σ H :=
  ⟨a, rfl, ⟨xs, hx.sq⟩, gfor_feeds fd_list bs Pv h0 (fun _ r => r.l hn.out hx.sq) (fun i ys' σ' H' x H'' hi r p y => by
    obtain ⟨rfl, y⟩ := y
    exact hs i x ys' σ' _ y r p) hd⟩
end
end Gx

set_option Elab.async false
set_option linter.all false
set_option maxRecDepth 100000
set_option maxHeartbeats 4000000
/-! texts of any signs; x.replace(c, "") of two written texts -/
namespace Gx
open PySem PySem.Spec PyProof.Rows L2
section
variable {X : Cx} {o a b e : Expr} {rest : List Expr} {to ta tb : TE} {apos cpos pos : Pos} {y z : Str} {j0 j1 : Nat} {c0 c1 : Pos}
/-- a test where a token is out; one behind which a token is out -/
def PTT (X : Cx) (e : Expr) (t : TT) : Prop := ∀ (pins : List (Addr × Obj)) (s : Shared) (σ : L2.St) (H : Hp) (Q : Bool → Hp → Prop), 1 ≤ s.toks → Inv X pins σ H s → t σ H Q →
  wpAny (model X.prog X.w) X.A (isTrue e X.env (eval e X.env)) (TP X pins σ Q) X.xe s
def PT1 (X : Cx) (e : Expr) (t : TT) : Prop := ∀ (pins : List (Addr × Obj)) (s : Shared) (σ : L2.St) (H : Hp) (Q : Bool → Hp → Prop), Inv X pins σ H s → t σ H Q →
  wpAny (model X.prog X.w) X.A (isTrue e X.env (eval e X.env)) (fun v s' => 1 ≤ s'.toks ∧ TP X pins σ Q v s') X.xe s
theorem pet_of {t : TE} (h : PE X e t) : PET X e t := fun pins s σ H Q _ I q => h.run pins s σ H Q I q
def tRepC (y z : Str) (to : TE) : TE := fun σ H Q => to σ H fun x H1 => ∃ u : Str, x = .str u ∧ u.length ≤ 100000 ∧ Q (.str (Txt.replace u y z)) H1
theorem pet_rep (hyz : (y == z) = false) (hz : z.length ≤ 14) (ho : PET X o to)
    (hbase : attributeBase o "replace" X.env (eval o X.env) = eval o X.env := by rfl)
    (hfew : ((backTo cpos (starEach [.Constant (.str y) j0 c0, .Constant (.str z) j1 c1] X.env)).all (fun x => !x.1) && (backToKw cpos (keywordEach [] X.env)).all (fun x => x.1.isSome)
      && decide (([.Constant (.str y) j0 c0, .Constant (.str z) j1 c1] : List Expr).length + ([] : List Keyword).length + (if ([] : List Keyword).isEmpty then 0 else 1) < 30)) = true := by rfl)
    (hline : (apos.endLine == cpos.line) = true := by rfl) :
    PET X (.Call (.Attribute o "replace" apos) [.Constant (.str y) j0 c0, .Constant (.str z) j1 c1] [] cpos) (tRepC y z to) := by
  intro pins s σ H Q h0 I h
  refine wpAny_Call_method_late hbase hfew hline rfl ?_
  refine wpAny_mono (PySem.wpAny_toks (ho pins s σ H _ h0 I h)) (fun v s1 q => ?_) fun _ _ q => q.2
  obtain ⟨hk, x, H1, I1, r1, u, rfl, hu, q1⟩ := q
  obtain ⟨h1, h2⟩ := tyV_is (T := "str") I1 r1 rfl
  refine ⟨"str", "str.replace", PySem.F.plainAttrs_str, PySem.F.slot_str_replace, PySem.F.type_str_replace, h1, h2, ?_⟩
  refine Calls.callWith_builtin (by rfl) (Calls.evalArgs_plain ?_)
  show wpAny _ _ (spliced ((false, eval (.Constant (.str y) j0 c0) X.env) :: backTo cpos (starEach [.Constant (.str z) j1 c1] X.env))) _ _ s1
  refine Calls.spliced_cons (Calls.Constant_str ?_)
  show wpAny _ _ (spliced ((false, eval (.Constant (.str z) j1 c1) X.env) :: backTo cpos (starEach [] X.env))) _ _ _
  refine Calls.spliced_cons (Calls.Constant_str (Calls.spliced_nil ?_))
  obtain ⟨t, rfl⟩ := r1
  have k1 : s1.toks ≠ 0 := by omega
  have k2 : s1.toks + 1 ≠ 0 := by omega
  have k3 : s1.toks ≠ s1.toks + 1 := by omega
  refine SC.replaceW k1 k2 k3 hyz (by omega) hz fun t' n => ?_
  exact ⟨.str (Txt.replace u y z), H1, I1.tok _, ⟨_, rfl⟩, q1⟩
theorem ptt_cmpR {op : CmpOp} {r : R2} (ho : OpR X (compareOp op) r) (ha : PET X a ta) (hb : PE X b tb) (hm : behindInMarks op b = false) : PTT X (.Compare a [op] [b] pos) (tTest (tOp r ta tb)) := by
  intro pins s σ H Q h0 I h
  refine wpAny_isTrue_Compare1 (thn (ha pins s σ H _ h0 I h) fun v s1 ⟨x, H1, I1, r1, q1⟩ => thn (hb.run pins s1 σ H1 _ I1 q1) fun u s2 ⟨w, H2, I2, r2, q2⟩ =>
    thn (ho pins s2 σ H2 x w v u _ I2 r1 r2 q2) fun c s3 q3 => ?_) hm
  obtain ⟨k, H3, I3, r3, d, rfl, q3⟩ := q3
  cases r3
  exact wpAny_truthy_bool ⟨H3, I3, q3⟩
theorem pt1_cmpC {op : CmpOp} {r : R2} (ho : OpR X (compareOp op) r) (ha : PE X a ta) (hm : behindInMarks op (.Constant (.str y) j0 c0) = false) : PT1 X (.Compare a [op] [.Constant (.str y) j0 c0] pos) (tTest (tOp r ta (tC (.str y)))) := by
  intro pins s σ H Q I h
  refine wpAny_isTrue_Compare1 (thn (ha.run pins s σ H _ I h) fun v s1 ⟨x, H1, I1, r1, q1⟩ => Calls.Constant_str ?_) hm
  refine wpAny_mono (PySem.wpAny_toks (ho pins { s1 with toks := s1.toks + 1 } σ H1 x (.str y) v _ _ (I1.tok _) r1 ⟨_, rfl⟩ q1)) (fun c s3 q3 => ?_) fun _ _ q => q.2
  obtain ⟨hk, k, H3, I3, r3, d, rfl, q3⟩ := q3
  have hk : s1.toks + 1 ≤ s3.toks := hk
  cases r3
  exact wpAny_truthy_bool ⟨by omega, H3, I3, q3⟩
theorem pw_orT {tA tB' : TT} (ha : PT1 X a tA) (hb : PTT X b tB') : PW X (.BoolOp .Or [a, b] pos) (tOr tA tB') := by
  refine ⟨fun wh pins s σ H Q I h => ?_⟩
  refine isTrue_or (thn (ha pins s σ H _ I h) fun c s1 ⟨h0, H1, I1, q1⟩ => ?_)
  cases c with
  | true => exact ⟨H1, I1, q1⟩
  | false =>
    refine isTrue_or (thn (hb pins s1 σ H1 Q h0 I1 q1) fun d s2 q2 => ?_)
    cases d with
    | false => exact isTrue_or_nil q2
    | true => exact q2
end
end Gx

set_option Elab.async false
set_option linter.all false
set_option maxRecDepth 100000
set_option maxHeartbeats 4000000
/-! list(gen(..)) where the generator may raise: what is raised, told at the state of the call -/
namespace Gx
open PySem PySem.Spec PyProof.Rows L2 GenW
/-- exceptions of one class alone -/
def rOnly (C : Value) (E : XK) : XK := fun cls d H => cls = C ∧ E cls d H
theorem only_of {C : Value} {E : XK} {d : Option Addr} {H : Hp} (q : E C d H) : rOnly C E C d H := ⟨rfl, q⟩
structure PGenA (X : Cx) (k : Nat) (e : Expr) (tg : TGen) (E : L2.St → XK) : Prop where
  go : ∀ (pins : List (Addr × Obj)) (s : Shared) (σ : L2.St) (H : Hp) (cont : List V → Hp → Prop), Inv X pins σ H s → tg σ H cont →
    wpAny (model X.prog X.w) X.A (eval e X.env) (fun u s' => ∃ H1 sc ex, Inv X pins σ H1 sc ∧ ExOk X pins ex ∧ GMade X.prog X.w k X.stack H1 sc ex cont (E σ) u s') X.xe s
section
variable {X : Cx} {k n : Nat} {f : Addr} {fd : FuncData} {ps ks : List Str} {sp : SpG} {x : Str} {p pos : Pos} {e : Expr} {es : List Expr} {kw : List Keyword} {t tk : TA} {st : Stmt} {dvs : List V} {kws : List (Str × V)} {tg : TGen} {C : Value} {W : WX}
def tCallGA (n m : Nat) (sp : SpG) (gV : List V → List V → List V) (E : L2.St → XK) (t tk : TA) : TGen := fun σ H cont => t σ H fun vs H1 => tk σ H1 fun zs H2 => vs.length = n ∧ zs.length = m ∧ sp (gV vs zs) H2 cont (E σ)
theorem pgen_kdA (E : L2.St → XK) (C : ClY X.prog X.w X.K X.mg X.base k x st ps dvs kws sp) (hr : Room k X.A) (n : Nat) (ks : List Str) (ms : List (Str × V)) (g : {α : Type} → List α → List α → List α → List α → List α) (hd : dvs ≠ []) (hk : kws ≠ []) (hms : ∀ q ∈ ms, q ∈ kws)
    (hrel : ∀ {vs ds mz zs : List V} {us its mv ws : List Value}, Vals vs us → Vals ds its → Vals mz mv → Vals zs ws → Vals (g vs ds mz zs) (g us its mv ws))
    (h : ∀ (T D : Addr) (doc pm : Value) (an : Option Addr) (cdv ct : Value) (us its mv ws : List Value), us.length = n → its.length = dvs.length → mv.length = ms.length → ws.length = ks.length →
      ∃ k, bindArgs (PySem.W.fnOf x x (defArgs st) (defBody st) (defScope st) (.ref T) (.ref D) doc pm an cdv ct) ⟨us, ks.zip ws⟩ = seqItems? (.ref T) >>= k ∧ KwChain D ((ms.map (·.1)).zip mv) (k (some its.toArray)) (ps.zip (g us its mv ws)))
    (ha : PA X (e :: es) t) (hkw : PK X kw tk) (hg : Gl X x := by rfl) (hall : (backToKw pos (keywordEach kw X.env)).all (·.1.isSome) = true := by rfl) (hks : (backToKw pos (keywordEach kw X.env)).filterMap (·.1) = ks := by rfl)
    (hdb : (x == ("__debug__" : Str)) = false := by decide) (he : starEach (e :: es) X.env = (false, eval e X.env) :: starEach es X.env := by rfl)
    (hpl : ((backTo pos (starEach (e :: es) X.env)).any (·.1) || (backToKw pos (keywordEach kw X.env)).any (·.1.isNone)) = false := by rfl) :
    PGenA X k (.Call (.Name x p) (e :: es) kw pos) (tCallGA n ks.length sp (fun vs zs => g vs dvs (ms.map (·.2)) zs) E t tk) E := by
  obtain ⟨f, fd, h1, h2, h4⟩ := C.ex
  obtain ⟨its, mv, hb⟩ := h2.kbinds n ks ms g hd hk hms hrel h
  refine ⟨fun pins s σ H cont I q => ?_⟩
  refine wpAny_Call_Name_kw (ld_glob I hg h1 ?_ hdb)
  refine PySem.W.callWith_KW (h₀ := X.base) I.ok.mod.kin h2.kp hall (thn (ha.run pos pins s σ H _ I q) fun us s1 ⟨vs, H1, I1, r, q⟩ => ?_) hpl he
  refine thn (hkw.run pos pins s1 σ H1 _ I1 q) fun ws s2 ⟨zs, H2, I2, rz, l1, l2, q2⟩ => ⟨I2.kIn, ?_⟩
  rw [hks]
  exact run_gfnNS h4 hr hb I2 r rz l1 l2 q2
theorem cx_weak {P : Program} {w : World} {outer : List Env} {H : Hp} {s s' : Shared} {E E' : XK} {v : Value} (hE : ∀ cls d H, E cls d H → E' cls d H) (c : L2.CX P w outer H s E v s') : L2.CX P w outer H s E' v s' := by
  obtain ⟨a, B, H', cls, d, q1, q2, q3, q4, q5, q6, q7, q8⟩ := c
  exact ⟨a, B, H', cls, d, q1, q2, q3, q4, q5, q6, q7, hE _ _ _ q8⟩
theorem cx_in {σ : L2.St} {H1 : Hp} {sc s' : Shared} {pins : List (Addr × Obj)} {E : XK} {v : Value} (I1 : Inv X pins σ H1 sc) (c : L2.CX X.prog X.w X.stack H1 sc E v s') : X.K.In s'.heap := by
  obtain ⟨_, _, _, _, _, _, f1, _, u1, _⟩ := c
  exact I1.ok.mod.kin.keeps fun b o eb => f1.1 b o (u1.keep b o (I1.bs b o eb).1 (I1.bs b o eb).2 fun hm =>
    (List.mem_cons.mp (I1.stkSub b hm)).elim (fun z => absurd (Heap.lt_size eb) (by rw [z]; exact Nat.not_lt.mpr (Nat.le_trans I1.ok.bsz I1.ok.above))) (I1.ok.nofr eb))
theorem cx_fin {outer : List Env} {H : Hp} {sc s' : Shared} {E : XK} {v : Value} {g : Nat} (c : L2.CX X.prog X.w outer H sc E v s') : L2.CX X.prog X.w outer H sc E v (s'.setGen g .finished) := by
  obtain ⟨a, B, H', cls, d, q1, q2, q3, q4, q5, q6, q7, q8⟩ := c
  exact ⟨a, B, H', cls, d, q1, q2, q3, q4, q5, q6, allBare_setGen q7 rfl, q8⟩
theorem pe_lsGA (h : PGenA X k e tg (fun σ => rOnly C (WE W σ))) (tk : Takes X W) (hns : PySem.W.subIn X.K C (.type "StopIteration") = some false) (hr : Room (k + 3) X.A) (hg : Gl X "list") (hmg : X.mg "list" = none)
    (he : starEach [e] X.env = (false, eval e X.env) :: starEach [] X.env := by rfl) : PE X (.Call (.Name "list" p) [e] [] pos) (tListG tg) := by
  have hb : bootBuiltins "list" = some (.type "list") := by decide +kernel
  constructor
  intro pins s σ H Q I hq
  refine wpAny_Call_Name_kw (ld_blt I hg hmg hb (PyProof.Rows.callWith_type1 ?_ he rfl) (by decide) (by decide))
  rw [he]
  show wpAny _ _ (spliced ((false, eval e X.env) :: backTo pos (starEach [] X.env))) _ _ s
  refine Calls.spliced_cons (thn (h.go pins s σ H _ I hq) ?_)
  rintro u s1 ⟨H1, sc, ex, I1, hex, hG⟩
  have hup : sc.heap.objs.size ≤ s1.heap.objs.size := let ⟨_, _, _, _, z1, z2, _⟩ := hG; Nat.le_trans z1 (Nat.le_of_lt z2)
  refine Calls.spliced_nil (call_list_new hr I1.ok.frames hG ?_ ?_)
  · intro S s' acc c H' ys r0 r1 r2 r3 r4 r5 r6 r7 r8 r9
    exact ⟨.ref S, upd H' S (.lst ys), Inv.drained I1 (Nat.le_trans hup r0) r3 r1 r2 hex r4 r5 r6 r7 r8, rfl, r9 S r8⟩
  · intro v s' g c
    refine ⟨notStop_of (K := X.K) (fun cls d H' hE => ?_) (cx_in I1 c) c, passC tk σ pins H1 sc v _ I1 (cx_weak (fun cls d H' hE => hE.2) (cx_fin c))⟩
    rw [hE.1]
    exact hns
end
section
variable {σ : L2.St} {H : Hp} {Q : VK}
instance {n m : Nat} {sp : SpG} {gV : List V → List V → List V} {E : L2.St → XK} {t tk : TA} : Step (tListG (tCallGA n m sp gV E t tk) σ H Q) (t σ H fun vs H1 => tk σ H1 fun zs H2 => vs.length = n ∧ zs.length = m ∧ rNewG sp (gV vs zs) (E σ) H2 Q) := ⟨fun q => q⟩
end
end Gx

set_option Elab.async false
set_option linter.all false
set_option maxRecDepth 100000
set_option maxHeartbeats 4000000
/-! try with several clauses, some with a name -/
namespace Gx
open PySem PySem.Spec PyProof.Rows L2
/-- an exception that has come down in the frame of the try -/
def Ld (X : Cx) (pins : List (Addr × Obj)) (a : Addr) (cls : Value) (d : Option Addr) (σ : L2.St) (H : Hp) (s : Shared) : Prop :=
  ∃ (B : Heap) (t : Shared), Inv X pins σ H t ∧ (∀ b o, t.heap.get? b = some o → b ∉ frs X.stack → B.get? b = some o) ∧ t.heap.UpToSlots s.heap ∧ HandSPX.FlyingZ B (X.env :: X.outer) a (Zc cls d) s.heap ∧ H a = none ∧ s.os = t.os ∧ AllBare s.gens
section
variable {X : Cx} {pins : List (Addr × Obj)} {a : Addr} {cls c : Value} {d : Option Addr} {σ : L2.St} {H : Hp} {s : Shared} {x n : Str} {i : Nat} {W2 : Ends → WX} {Wout : WX} {hds : List ExceptHandler} {b₀ : Stmt} {suite body : List Stmt} {np pos pos' : Pos} {ts : Addr → Value → Option Addr → TS} {tb : WX → TS}
theorem Ld.inv (L : Ld X pins a cls d σ H s) : Inv X pins σ H s := by
  obtain ⟨B, t, J, nb, up, fl, _, os, ag⟩ := L
  exact Inv.landed J nb fl.1 up os ag
theorem Ld.again {A : Around} {Q : Unit → Shared → Prop} {E : Value → Shared → Prop} (L : Ld X pins a cls d σ H s) (q : ∀ s', Ld X pins a cls d σ H s' → Q () s') : wpAny (model X.prog X.w) A (setFlight (.ref a) none) Q E s := by
  obtain ⟨B, t, J, nb, up, fl, na, os, ag⟩ := L
  exact HandSPX.lands_againZ fl fun h fl' up' => q _ ⟨B, t, J, nb, up.trans up', fl', na, os, ag⟩
theorem Ld.hot (hf : X.env.frame = some X.env.locals) (L : Ld X pins a cls d σ H s) : ∃ oe, s.heap.get? a = some oe ∧ Zc cls d oe ∧ (∃ vs, oe.data = .fields vs) ∧ Inv (X.suite a ((a, oe) :: (X.pn ++ pins))) [] σ H s := by
  have J := L.inv
  obtain ⟨B, t, _, nb, up, fl, na, os, ag⟩ := L
  obtain ⟨oe, vs, e1, z1, d1⟩ := fl.there
  have off : a ∉ frs (X.env :: X.outer) := fun hm => by
    obtain ⟨_, o, e2, h2⟩ := fl.2.2.1.mem hm
    rw [e1] at e2
    cases e2
    exact h2 _ d1
  refine ⟨oe, e1, z1, ⟨vs, d1⟩, Inv.suite J e1 d1 na ?_ ?_⟩
  · intro z
    exact off (List.mem_filterMap.mpr ⟨X.env, List.mem_cons_self .., by rw [hf, z]⟩)
  · intro hm
    obtain ⟨e, h1, h2⟩ := List.mem_filterMap.mp hm
    exact off (List.mem_filterMap.mpr ⟨e, List.mem_cons_of_mem _ h1, h2⟩)
theorem Ld.test {b : Bool} {Q : Bool → Shared → Prop} {E1 E2 : Value → Shared → Prop} (hf : X.env.frame = some X.env.locals) (L : Ld X pins a cls d σ H s) (hc : Names X x c) (hb : PySem.W.exmOne X.K cls c = some b) (q : Q b s) :
    wpAny (model X.prog X.w) (X.A.mark (some (.ref a))) (eval (.Name x np) X.env) (fun v s1 => wpAny (model X.prog X.w) (X.A.mark (some (.ref a))) (excMatches (.ref a) v) Q E2 s1) E1 s := by
  obtain ⟨oe, e1, z1, _, S⟩ := L.hot hf
  have ty : PySem.W.Looks (model X.prog X.w) s.heap (typeOf (.ref a)) cls := fun A Q E s' kp qq => wpAny_typeOf_ref (kp _ _ e1) (by rw [z1.1]; exact qq)
  have ok := (PySem.W.exm_one (M := model X.prog X.w) L.inv.kIn ty hb)
  obtain ⟨g1, g2, g3⟩ := hc
  rcases g3 with g3 | ⟨g3, g4, g5⟩
  · exact ld_glob S g1 g3 (ok.here q) g2
  · exact ld_blt S g1 g3 g4 (ok.here q) g5 g2
theorem Ld.pass {z : String} {D : Ends} (hs : X.stack = X.env :: X.outer) (hf : X.env.frame = some X.env.locals) (L : Ld X pins a cls d σ H s) (tk : Takes X Wout) (w : Wout cls d σ H) : wpAny (model X.prog X.w) X.A (PySem.passOn z (.ref a) X.env : Sem Flow) (SP X pins D) X.xe s := by
  obtain ⟨B, t, J, nb, up, fl, na, os, ag⟩ := L
  have out : ∀ h4, HandSPX.HeldZ B (X.env :: X.outer) a (Zc cls d) X.env.locals h4 → s.heap.UpToSlots h4 → X.xe (.ref a) { s with heap := h4 } := fun h4 hh up4 =>
    tk _ _ ⟨a, B, t, pins, σ, H, cls, d, rfl, J, nb, up.trans up4, .inr (.inr (by rw [hs]; exact hh)), na, os, ag, w⟩
  have go : wpAny (model X.prog X.w) X.A (setFlight (.ref a) X.env.frame) (fun _ s4 => wpAny (model X.prog X.w) X.A (throw (.ref a) : Sem Flow) (SP X pins D) X.xe s4) X.xe s := by
    rw [hf]
    exact HandSPX.setFlight_upZ fl fun h4 hh up4 => wpAny_throw (out h4 hh up4)
  obtain ⟨_, _, _, oe, vs, T, oT, us, e1, _, e3, e4, _⟩ := id fl
  unfold PySem.passOn
  refine wpAny_bind (wpAny_field e1 e3 e4 ?_)
  have hT : ¬ ((Value.ref T == Value.none) = true) := by simp
  rw [if_neg hT]
  first
    | exact wpAny_bind (wpAny_pure (wpAny_bind go))
    | exact wpAny_bind go
/-- clauses, and what they wish of an exception -/
def Clz (X : Cx) (hds : List ExceptHandler) (W : Ends → WX) : Prop := ∀ (pins : List (Addr × Obj)) (a : Addr) (cls : Value) (d : Option Addr) (σ : L2.St) (H : Hp) (s : Shared) (D : Ends), X.stack = X.env :: X.outer → X.env.frame = some X.env.locals → X.Ok →
  Ld X pins a cls d σ H s → W D cls d σ H → wpAny (model X.prog X.w) X.A (handleBy (.ref a) X.env hds) (SP X pins D) X.xe s
theorem cl_nil (tk : Takes X Wout) : Clz X [] (fun _ => Wout) := fun pins a cls d σ H s D hs hf _ L w => wpAny_handleBy_nil (L.pass hs hf tk w)
theorem cl_only (hc : Names X x c) (hsu : ∀ (a : Addr) (oe : Obj) (cls : Value) (d : Option Addr) (pn : List (Addr × Obj)), Zc cls d oe → (∃ vs, oe.data = .fields vs) → PSs (X.suite a ((a, oe) :: pn)) (b₀ :: suite) (ts a cls d))
    (r : Clz X hds W2) : Clz X (.ExceptHandler (some (.Name x np)) none (b₀ :: suite) pos' :: hds) (fun D => wOnly X.K c ts (W2 D) D) := by
  intro pins a cls d σ H s D hs hf ok L w
  obtain ⟨b, hb, yes, no⟩ := w
  refine wpAny_handleBy_cons (codeAny_handlers_test (L.test hf hc hb ?_)) (by intro q; cases q)
  cases b with
  | false => exact r pins a cls d σ H s D hs hf ok L (no rfl)
  | true =>
    refine codeAny_handlers_suite (L.again fun s' L' => ?_)
    obtain ⟨oe, _, z1, dt, S⟩ := L'.hot hf
    have na : H a = none := let ⟨_, _, _, _, _, _, q, _⟩ := L'; q
    refine wpAny_mono ((hsu a oe cls d (X.pn ++ pins) z1 dt).run [] _ _ H _ S (yes rfl a na)) (fun f s6 sp6 => ?_) (fun _ _ z => z.elim)
    cases f with
    | ret u => obtain ⟨v6, σ6, H6, S6, r6, q6⟩ := sp6; exact ⟨v6, σ6, H6, Inv.unsuite S6 ok, r6, q6⟩
    | next => obtain ⟨σ6, H6, S6, q6⟩ := sp6; exact ⟨σ6, H6, Inv.unsuite S6 ok, q6⟩
    | brk => obtain ⟨σ6, H6, S6, q6⟩ := sp6; exact ⟨σ6, H6, Inv.unsuite S6 ok, q6⟩
    | cont => obtain ⟨σ6, H6, S6, q6⟩ := sp6; exact ⟨σ6, H6, Inv.unsuite S6 ok, q6⟩
theorem cl_as (hN : X.N.Nodup) (hi : X.N[i]? = some n) (hln : X.env.kindOf n = some .local) (hc : Names X x c) (hsu : ∀ (a : Addr) (oe : Obj) (cls : Value) (d : Option Addr) (pn : List (Addr × Obj)), Zc cls d oe → (∃ vs, oe.data = .fields vs) → PSs (X.suite a ((a, oe) :: pn)) (b₀ :: suite) (ts a cls d))
    (r : Clz X hds W2) : Clz X (.ExceptHandler (some (.Name x np)) (some n) (b₀ :: suite) pos' :: hds) (fun D => wAs X.K c i ts (W2 D) D) := by
  intro pins a cls d σ H s D hs hf ok L w
  obtain ⟨b, hb, yes, no⟩ := w
  refine wpAny_handleBy_cons (codeAny_handlers_test (L.test hf hc hb ?_)) (by intro q; cases q)
  cases b with
  | false => exact r pins a cls d σ H s D hs hf ok L (no rfl)
  | true =>
    refine codeAny_handlers_suite_as (L.again fun s' L' => ?_)
    obtain ⟨oe, _, z1, dt, S⟩ := L'.hot hf
    have na : H a = none := let ⟨_, _, _, _, _, _, q, _⟩ := L'; q
    have lc : Loc X.env.scope n := .inl hln
    refine store_ok (X := X.suite a ((a, oe) :: (X.pn ++ pins))) (v := .ref a) S hN hi lc rfl (fun s5 S5 => ?_) (.inr hln)
    refine wpAny_mono ((hsu a oe cls d (X.pn ++ pins) z1 dt).run [] s5 _ H _ S5 (yes rfl a na)) (fun f s6 sp6 => ?_) (fun _ _ z => z.elim)
    cases f with
    | ret u => obtain ⟨v6, σ6, H6, S6, r6, q6⟩ := sp6; exact gone_ok (Inv.unsuite S6 ok) hN hi hln fun s7 J7 => ⟨v6, _, H6, J7, r6, q6⟩
    | next => obtain ⟨σ6, H6, S6, q6⟩ := sp6; exact gone_ok (Inv.unsuite S6 ok) hN hi hln fun s7 J7 => ⟨_, H6, J7, q6⟩
    | brk => obtain ⟨σ6, H6, S6, q6⟩ := sp6; exact gone_ok (Inv.unsuite S6 ok) hN hi hln fun s7 J7 => ⟨_, H6, J7, q6⟩
    | cont => obtain ⟨σ6, H6, S6, q6⟩ := sp6; exact gone_ok (Inv.unsuite S6 ok) hN hi hln fun s7 J7 => ⟨_, H6, J7, q6⟩
theorem ps_try_cl {h₀ : ExceptHandler} (hs : X.stack = X.env :: X.outer) (hf : X.env.frame = some X.env.locals)
    (hb : ∀ (W : WX) (pn : List (Addr × Obj)) (xe : Value → Shared → Prop), Takes (X.tr pn xe) W → PassesOwn (model X.prog X.w) X.A X.env xe → PSs (X.tr pn xe) body (tb W))
    (hh : Clz X (h₀ :: hds) W2) : PS X (.Try body (h₀ :: hds) [] [] pos) (fun D σ H => tb (W2 D) D σ H) := by
  constructor
  intro pins s σ H D I h
  have ok := I.ok
  have fr : X.A.frames = some (X.env :: X.outer) := ok.frames.trans (by rw [hs])
  have run := (hb (W2 D) (X.pn ++ pins) (fun e s1 => wpAny (model X.prog X.w) X.A (noteFrame e X.env) (fun _ s2 => wpAny (model X.prog X.w) X.A (setFlight e none) (fun _ s3 => wpAny (model X.prog X.w) X.A (handleBy e X.env (h₀ :: hds)) (SP X pins D) X.xe s3) X.xe s2) X.xe s1) ?_ PassesOwn.looking).run [] s σ H D (I.toTry _) h
  · refine wpAny_Try_except (wpAny_mono run (fun f s1 sp1 => ?_) (fun e s1 he => he))
    cases f with
    | ret u => obtain ⟨v, σ', H', J, r, q⟩ := sp1; exact ⟨v, σ', H', Inv.ofTry J ok, r, q⟩
    | next => obtain ⟨σ', H', J, q⟩ := sp1; exact wpAny_execs_nil ⟨σ', H', Inv.ofTry J ok, q⟩
    | brk => obtain ⟨σ', H', J, q⟩ := sp1; exact ⟨σ', H', Inv.ofTry J ok, q⟩
    | cont => obtain ⟨σ', H', J, q⟩ := sp1; exact ⟨σ', H', Inv.ofTry J ok, q⟩
  · intro u s' xx
    obtain ⟨a, B, t, pins', σ', H', cls, d, rfl, J, nb, up, sky, na, os, ag, w⟩ := xx
    have sk : Sky B (X.env :: X.outer) a (Zc cls d) X.env.locals s'.heap := hs ▸ sky
    exact Sky.land Zc.steady fr hf sk fun h3 fl up3 => hh pins a cls d σ' H' _ D hs hf ok ⟨B, t, Inv.ofTry J ok, nb, up.trans up3, fl, na, os, ag⟩ w
end
end Gx

set_option linter.all false
set_option maxRecDepth 100000
set_option maxHeartbeats 2000000
/-! Ga: a comprehension over range(a, b, -1) -/
namespace Gx
open PySem PySem.Spec PyProof.Rows L2
section
variable {g : TG} {tt : TT} {te : TE} {ta : TA} {σ τ : L2.St} {H : Hp} {Q : VK}
theorem fd_rngC {lo c : Int} {n : Nat} : Feeds (Itc lo c n) n (fun _ => True) (fun i H x H' => H' = H ∧ x = .int (lo + (i : Nat) * c)) := ⟨fun _ _ _ h => h, fun _ _ _ _ _ _ y => y, fun _ _ => Nat.le_refl _⟩
def rLc3 (us : List V) (g : TG) (tt : TT) (te : TE) (vs : List Nat) (σ : L2.St) (H : Hp) (Q : VK) : Prop := tLc (iRng3 fun _ H R => R us H) g tt te vs σ H Q
instance {vs : List Nat} : Step (tLc (iRng3 ta) g tt te vs σ H Q) (ta σ H fun us H1 => rLc3 us g tt te vs σ H1 Q) := ⟨fun q => q⟩
theorem lcD_F {vs : List Nat} {a b : Int} (F : Nat → List V) (hn : -(2 ^ 62) ≤ a ∧ a < 2 ^ 62 ∧ -(2 ^ 62) ≤ b ∧ b < 2 ^ 62) [hw : Wipe σ vs τ] (hF : F 0 = []) (hz : ∀ i, i < (a - b).toNat → (F i).length < 100000)
    (hs : ∀ D (i : Nat) H', b < a - (i : Int) → Nw H D → Ex H H' → At H' D (.lst (F i)) → (F i).length < 100000 → g (.int (a - (i : Int))) τ H' fun σ2 H2 => wipe σ2 vs = τ ∧ tt σ2 H2 fun b H3 =>
      if b = true then te σ2 H3 (rApp D (rW D fun ac H5 => Ex H H5 ∧ ac = F (i + 1))) else rW D (fun ac H5 => Ex H H5 ∧ ac = F (i + 1)) H3)
    (hd : ∀ D H', Nw H D → Ex H H' → At H' D (.lst (F (a - b).toNat)) → Q (.ref D) H') : rLc3 [.int a, .int b, .int (-1)] g tt te vs σ H Q :=
  ⟨a, b, -1, (a - b).toNat, rfl, RgC.neg hn.1 hn.2.1 hn.2.2.1 hn.2.2.2, lc_F fd_rngC F hF (fun _ _ => trivial) hz (fun D i H' x H'' hi hD e hp z y => by
    obtain ⟨rfl, rfl⟩ := y
    rw [show a + ((i : Nat) : Int) * (-1) = a - (i : Int) from by omega]
    exact hs D i _ (by omega) hD e hp z) hd⟩
end
end Gx

set_option linter.all false
set_option maxRecDepth 100000
set_option maxHeartbeats 2000000
/-! Gq: choices (math.comb), for over range(a, b, -1), rfind. -/
namespace Gx
open PySem PySem.Spec PyProof.Rows L2
/-- the number of choices of k of n -/
def chs : Nat → Nat → Nat
  | _, 0 => 1
  | 0, _ + 1 => 0
  | n + 1, k + 1 => chs n k + chs n (k + 1)
theorem chs_zero (n : Nat) : chs n 0 = 1 := by cases n <;> rfl
theorem chs_succ (n k : Nat) : chs (n + 1) (k + 1) = chs n k + chs n (k + 1) := rfl
theorem chs_above : ∀ {n k : Nat}, n < k → chs n k = 0
  | _, 0, h => absurd h (Nat.not_lt_zero _)
  | 0, _ + 1, _ => rfl
  | n + 1, k + 1, h => by rw [chs_succ, chs_above (by omega), chs_above (by omega)]
theorem chs_self : ∀ n : Nat, chs n n = 1
  | 0 => rfl
  | n + 1 => by rw [chs_succ, chs_self n, chs_above (Nat.lt_succ_self n)]
theorem chs_sym : ∀ {n k : Nat}, k ≤ n → chs n k = chs n (n - k)
  | n, 0, _ => by rw [chs_zero, Nat.sub_zero, chs_self]
  | 0, k + 1, h => absurd h (by omega)
  | n + 1, k + 1, h => by
    by_cases z : k = n
    · subst z
      rw [chs_self, Nat.sub_self, chs_zero]
    · have e : n + 1 - (k + 1) = (n - (k + 1)) + 1 := by omega
      rw [e, chs_succ, chs_succ, chs_sym (n := n) (k := k) (by omega), chs_sym (n := n) (k := k + 1) (by omega), show n - (k + 1) + 1 = n - k from by omega, Nat.add_comm]
theorem chs_le : ∀ n k : Nat, chs n k ≤ 2 ^ n
  | n, 0 => by rw [chs_zero]; exact Nat.one_le_two_pow
  | 0, k + 1 => Nat.zero_le _
  | n + 1, k + 1 => by
    have h1 := chs_le n k
    have h2 := chs_le n (k + 1)
    rw [chs_succ, Nat.pow_succ]
    omega
theorem chs_pos : ∀ {n k : Nat}, k ≤ n → 1 ≤ chs n k
  | n, 0, _ => by rw [chs_zero]; exact Nat.le_refl 1
  | 0, k + 1, h => absurd h (by omega)
  | n + 1, k + 1, h => by
    have := chs_pos (n := n) (k := k) (by omega)
    rw [chs_succ]
    omega
abbrev fp (n : Int) (k : Nat) : Int := Builtin.Math.fallingProduct n k
theorem fp_shift (n : Int) : ∀ k : Nat, fp (n + 1) (k + 1) = (n + 1) * fp n k
  | 0 => by
    show Builtin.Math.fallingProduct (n + 1) 1 = (n + 1) * Builtin.Math.fallingProduct n 0
    rw [PySem.W.mc_fp_one, PySem.W.mc_fp_zero, Int.mul_one]
  | k + 1 => by
    have ih := fp_shift n k
    show Builtin.Math.fallingProduct (n + 1) (k + 1 + 1) = (n + 1) * Builtin.Math.fallingProduct n (k + 1)
    rw [PySem.W.mc_fp_succ (n + 1) (k + 1), PySem.W.mc_fp_succ n k]
    unfold fp at ih
    rw [ih, Int.mul_assoc, show n + 1 - ((k + 1 : Nat) : Int) = n - (k : Int) from by omega]
theorem fp_null : ∀ k : Nat, fp 0 (k + 1) = 0
  | 0 => by show Builtin.Math.fallingProduct 0 1 = 0; rw [PySem.W.mc_fp_one]
  | k + 1 => by
    have ih := fp_null k
    show Builtin.Math.fallingProduct 0 (k + 1 + 1) = 0
    unfold fp at ih
    rw [PySem.W.mc_fp_succ 0 (k + 1), ih, Int.zero_mul]
theorem chs_fp : ∀ n k : Nat, (chs n k : Int) * fp (k : Nat) k = fp (n : Nat) k
  | n, 0 => by
    rw [chs_zero]
    show (1 : Int) * Builtin.Math.fallingProduct _ 0 = Builtin.Math.fallingProduct _ 0
    rw [PySem.W.mc_fp_zero, PySem.W.mc_fp_zero]
    rfl
  | 0, k + 1 => by
    have := fp_null k
    show (0 : Int) * _ = fp 0 (k + 1)
    rw [this, Int.zero_mul]
  | n + 1, k + 1 => by
    have h1 := chs_fp n k
    have h2 := chs_fp n (k + 1)
    have e1 : fp ((k + 1 : Nat) : Int) (k + 1) = ((k : Int) + 1) * fp (k : Nat) k := fp_shift (k : Nat) k
    have e2 : fp ((n + 1 : Nat) : Int) (k + 1) = ((n : Int) + 1) * fp (n : Nat) k := fp_shift (n : Nat) k
    have e3 : fp (n : Nat) (k + 1) = fp (n : Nat) k * ((n : Int) - (k : Int)) := PySem.W.mc_fp_succ (n : Nat) k
    rw [chs_succ, Int.natCast_add, Int.add_mul, h2, e1, e2, e3, Int.mul_left_comm, h1, Int.mul_comm (fp (n : Nat) k), ← Int.add_mul]
    congr 1
    omega
theorem comb_chs {n k : Nat} : PySem.W.mcComb (n : Nat) (k : Nat) = (chs n k : Nat) := by
  by_cases h : k ≤ n
  · have key : ∀ m : Nat, m ≤ n → fp (n : Nat) m / fp (m : Nat) m = (chs n m : Nat) := fun m hm => by
      have hp : 1 ≤ fp (m : Nat) m := PySem.W.mc_fp_pos m (by omega)
      rw [← chs_fp n m]
      exact Int.mul_ediv_cancel _ (by omega)
    by_cases z : k ≤ n - k
    · rw [PySem.W.mcComb_at (m := (k : Nat)) (by omega) (by omega) (by omega), Int.toNat_natCast]
      exact key k h
    · rw [PySem.W.mcComb_at (m := ((n - k : Nat) : Int)) (by omega) (by omega) (by omega), Int.toNat_natCast, chs_sym h]
      exact key (n - k) (by omega)
  · rw [PySem.W.mcComb_above (by omega), chs_above (by omega)]
    rfl
section
variable {X : Cx} {K : PySem.W.Frag} {H : Hp} {Q : VK}
def rComb : List V → Hp → VK → Prop := fun vs H Q => ∃ a b : Nat, vs = [.int (a : Nat), .int (b : Nat)] ∧ a ≤ 10000 ∧ Q (.int (chs a b : Nat)) H
theorem callComb : CallR X (.builtin "math.comb") rComb := by
  intro pins s σ H vs us Q I r h
  obtain ⟨a, b, rfl, h1, q⟩ := h
  cases r with
  | cons r1 rr =>
    cases rr with
    | cons r2 r3 =>
      cases r3
      obtain ⟨t, rfl⟩ := r1
      obtain ⟨u, rfl⟩ := r2
      refine call_function_meets PySem.W.MGF.kind_comb PySem.W.MGF.plain_comb PySem.W.MGF.entry_comb (PySem.W.MGF.args_comb _ _) (PySem.W.mc_gives_comb t u (by omega) (by omega) (by omega) (.inr (by omega))).meets ?_
      exact ⟨.int _, H, I.tok _, ⟨_, rfl⟩, by rw [comb_chs]; exact q⟩
theorem g_comb {i j : Int} (h0 : 0 ≤ i) (h1 : i ≤ 10000) (h2 : 0 ≤ j) (q : Q (.int (chs i.toNat j.toNat : Nat)) H) : rComb [.int i, .int j] H Q :=
  ⟨i.toNat, j.toNat, by rw [Int.toNat_of_nonneg h0, Int.toNat_of_nonneg h2], by omega, q⟩
end
/-! for over range(a, b, -1) -/
section
variable {g : TG} {tb : TS} {D : Ends} {ta : TA} {σ τ : L2.St} {H : Hp}
def rFor3 (vs : List V) (g : TG) (tb : TS) (D : Ends) (σ : L2.St) (H : Hp) : Prop := tFor (iRng3 fun _ H R => R vs H) g tb D σ H
instance : Step (tFor (iRng3 ta) g tb D σ H) (ta σ H fun vs H1 => rFor3 vs g tb D σ H1) := ⟨fun q => q⟩
theorem forD {a b : Int} (bs : List Addr) (Pv : Nat → L2.St → Hp → Prop) (hn : -(2 ^ 62) ≤ a ∧ a < 2 ^ 62 ∧ -(2 ^ 62) ≤ b ∧ b < 2 ^ 62) (h0 : Pv 0 σ H)
    (hs : ∀ (i : Nat) σ' H', b < a - (i : Int) → Chg bs H H' → Pv i σ' H' → g (.int (a - (i : Int))) σ' H' fun σ2 H2 => tb { D with nx := LI bs H (Pv (i + 1)), ct := LI bs H (Pv (i + 1)), bk := D.nx } σ2 H2)
    (hd : ∀ σ' H', Chg bs H H' → Pv (a - b).toNat σ' H' → D.nx σ' H') : rFor3 [.int a, .int b, .int (-1)] g tb D σ H :=
  ⟨a, b, -1, (a - b).toNat, rfl, RgC.neg hn.1 hn.2.1 hn.2.2.1 hn.2.2.2, for_feeds fd_rngC bs Pv h0 (fun _ _ => trivial) (fun i σ' H' x H'' hi r p y => by
    obtain ⟨rfl, rfl⟩ := y
    rw [show a + ((i : Nat) : Int) * (-1) = a - (i : Int) from by omega]
    exact hs i σ' _ (by omega) r p) hd⟩
end
def rRfind : V → List V → Hp → VK → Prop := fun x xs H Q => ∃ a b, x = .str a ∧ xs = [.str b] ∧ Q (.int (Txt.rfind a b)) H
theorem mtRfind {X : Cx} : MtR X "str.rfind" rRfind := mt_rfind
end Gx

set_option Elab.async false
set_option linter.all false
set_option maxRecDepth 100000
set_option maxHeartbeats 4000000
/-! an if in a generator's body -/
namespace Gx
open PySem PySem.Spec PyProof.Rows L2 GenW
section
variable {X : Cx}
def tGIf (c : TT) (t u : TGn) : TGn := fun D ys σ H => c σ H fun b H1 => if b = true then t D ys σ H1 else u D ys σ H1
theorem gs_if {e : Expr} {a b : List Stmt} {pos : Pos} {tc : TT} {t u : TGn} (hc : PT X e tc) (ha : GSs X a t) (hb : GSs X b u) : GS X (.If e a b pos) (tGIf tc t u) := by
  refine ⟨fun A S ip R n ys s₀ c fs K J gd lv s σ H D g hn k hI ht => ?_⟩
  obtain ⟨acc, cc, r, I⟩ := hI
  rw [exec_If]
  refine seg_bind_wrap (wpAny_standAt ?_)
  refine seg_bind_wrap ?_
  rw [g.over]
  refine wpAny_mono (hc.run _ s σ H _ I ht) (fun b s' hq => ?_) fun x s' hx => k.exc n s₀ x s' hx
  obtain ⟨H1, I1, q⟩ := hq
  cases b with
  | true => exact ha.run A S ip R n ys s₀ c fs K J gd lv s' σ H1 D g hn k ⟨acc, cc, r, I1⟩ q
  | false => exact hb.run A S ip R n ys s₀ c fs K J gd lv s' σ H1 D g hn k ⟨acc, cc, r, I1⟩ q
instance {tt : TT} {t u : TGn} {D : GEnds} {ys : List V} {σ : L2.St} {H : Hp} : Step (tGIf tt t u D ys σ H) (tt σ H fun c H1 => if c = true then t D ys σ H1 else u D ys σ H1) := ⟨fun q => q⟩
end
/-! generators with keyword-only defaults alone -/
section
variable {X : Cx} {k n : Nat} {f : Addr} {fd : FuncData} {ps ks : List Str} {sp : SpG} {x : Str} {p pos : Pos} {e : Expr} {es : List Expr} {kw : List Keyword} {t tk : TA} {st : Stmt} {kws : List (Str × V)}
theorem pgen_k (C : ClY X.prog X.w X.K X.mg X.base k x st ps [] kws sp) (hr : Room k X.A) (n : Nat) (ks : List Str) (ms : List (Str × V)) (g : {α : Type} → List α → List α → List α → List α) (hk : kws ≠ []) (hms : ∀ q ∈ ms, q ∈ kws)
    (hrel : ∀ {vs mz zs : List V} {us mv ws : List Value}, Vals vs us → Vals mz mv → Vals zs ws → Vals (g vs mz zs) (g us mv ws))
    (h : ∀ (D : Addr) (doc pm : Value) (an : Option Addr) (cdv ct : Value) (us mv ws : List Value), us.length = n → mv.length = ms.length → ws.length = ks.length →
      KwChain D ((ms.map (·.1)).zip mv) (bindArgs (PySem.W.fnOf x x (defArgs st) (defBody st) (defScope st) .none (.ref D) doc pm an cdv ct) ⟨us, ks.zip ws⟩) (ps.zip (g us mv ws)))
    (ha : PA X (e :: es) t) (hkw : PK X kw tk) (hg : Gl X x := by rfl) (hall : (backToKw pos (keywordEach kw X.env)).all (·.1.isSome) = true := by rfl) (hks : (backToKw pos (keywordEach kw X.env)).filterMap (·.1) = ks := by rfl)
    (hdb : (x == ("__debug__" : Str)) = false := by decide) (he : starEach (e :: es) X.env = (false, eval e X.env) :: starEach es X.env := by rfl)
    (hpl : ((backTo pos (starEach (e :: es) X.env)).any (·.1) || (backToKw pos (keywordEach kw X.env)).any (·.1.isNone)) = false := by rfl) :
    PGen X k (.Call (.Name x p) (e :: es) kw pos) (tCallGN n ks.length sp (fun vs zs => g vs (ms.map (·.2)) zs) E0 t tk) E0 := by
  obtain ⟨f, fd, h1, h2, h4⟩ := C.ex
  obtain ⟨mv, hb⟩ := h2.kbinds0 n ks ms g hk hms hrel h
  refine ⟨fun pins s σ H cont I q => ?_⟩
  refine wpAny_Call_Name_kw (ld_glob I hg h1 ?_ hdb)
  refine PySem.W.callWith_KW (h₀ := X.base) I.ok.mod.kin h2.kp hall (thn (ha.run pos pins s σ H _ I q) fun us s1 ⟨vs, H1, I1, r, q⟩ => ?_) hpl he
  refine thn (hkw.run pos pins s1 σ H1 _ I1 q) fun ws s2 ⟨zs, H2, I2, rz, l1, l2, q2⟩ => ⟨I2.kIn, ?_⟩
  rw [hks]
  exact run_gfnNS h4 hr hb I2 r rz l1 l2 q2
theorem pgen_kA (E : L2.St → XK) (C : ClY X.prog X.w X.K X.mg X.base k x st ps [] kws sp) (hr : Room k X.A) (n : Nat) (ks : List Str) (ms : List (Str × V)) (g : {α : Type} → List α → List α → List α → List α) (hk : kws ≠ []) (hms : ∀ q ∈ ms, q ∈ kws)
    (hrel : ∀ {vs mz zs : List V} {us mv ws : List Value}, Vals vs us → Vals mz mv → Vals zs ws → Vals (g vs mz zs) (g us mv ws))
    (h : ∀ (D : Addr) (doc pm : Value) (an : Option Addr) (cdv ct : Value) (us mv ws : List Value), us.length = n → mv.length = ms.length → ws.length = ks.length →
      KwChain D ((ms.map (·.1)).zip mv) (bindArgs (PySem.W.fnOf x x (defArgs st) (defBody st) (defScope st) .none (.ref D) doc pm an cdv ct) ⟨us, ks.zip ws⟩) (ps.zip (g us mv ws)))
    (ha : PA X (e :: es) t) (hkw : PK X kw tk) (hg : Gl X x := by rfl) (hall : (backToKw pos (keywordEach kw X.env)).all (·.1.isSome) = true := by rfl) (hks : (backToKw pos (keywordEach kw X.env)).filterMap (·.1) = ks := by rfl)
    (hdb : (x == ("__debug__" : Str)) = false := by decide) (he : starEach (e :: es) X.env = (false, eval e X.env) :: starEach es X.env := by rfl)
    (hpl : ((backTo pos (starEach (e :: es) X.env)).any (·.1) || (backToKw pos (keywordEach kw X.env)).any (·.1.isNone)) = false := by rfl) :
    PGenA X k (.Call (.Name x p) (e :: es) kw pos) (tCallGA n ks.length sp (fun vs zs => g vs (ms.map (·.2)) zs) E t tk) E := by
  obtain ⟨f, fd, h1, h2, h4⟩ := C.ex
  obtain ⟨mv, hb⟩ := h2.kbinds0 n ks ms g hk hms hrel h
  refine ⟨fun pins s σ H cont I q => ?_⟩
  refine wpAny_Call_Name_kw (ld_glob I hg h1 ?_ hdb)
  refine PySem.W.callWith_KW (h₀ := X.base) I.ok.mod.kin h2.kp hall (thn (ha.run pos pins s σ H _ I q) fun us s1 ⟨vs, H1, I1, r, q⟩ => ?_) hpl he
  refine thn (hkw.run pos pins s1 σ H1 _ I1 q) fun ws s2 ⟨zs, H2, I2, rz, l1, l2, q2⟩ => ⟨I2.kIn, ?_⟩
  rw [hks]
  exact run_gfnNS h4 hr hb I2 r rz l1 l2 q2
theorem pgen_0 (C : ClY X.prog X.w X.K X.mg X.base k x st ps [] kws sp) (hr : Room k X.A) (n : Nat) (hk : kws ≠ []) (hn : n + kws.length = ps.length)
    (h : ∀ (D : Addr) (doc pm : Value) (an : Option Addr) (cdv ct : Value) (us ks : List Value), us.length = n → ks.length = kws.length →
      KwChain D ((kws.map (·.1)).zip ks) (bindArgs (PySem.W.fnOf x x (defArgs st) (defBody st) (defScope st) .none (.ref D) doc pm an cdv ct) ⟨us, []⟩) (ps.zip (us ++ ks)))
    (ha : PA X (e :: es) t) (hg : Gl X x := by rfl) (hdb : (x == ("__debug__" : Str)) = false := by decide)
    (he : starEach (e :: es) X.env = (false, eval e X.env) :: starEach es X.env := by rfl) (hpl : (backTo pos (starEach es X.env)).any (·.1) = false := by rfl) :
    PGen X k (.Call (.Name x p) (e :: es) [] pos) (tCallG sp (kws.map (·.2)) E0 t) E0 := by
  obtain ⟨f, fd, h1, h2, h4⟩ := C.ex
  obtain ⟨ds, r, b⟩ := h2.binds0 n hk hn h
  exact pgen_call h4 hr hg h1 h2.kp b r ha hdb he hpl
instance {sp : SpG} {dvs : List V} {E : XK} {t : TA} {σ : L2.St} {H : Hp} {Q : VK} : Step (tListG (tCallG sp dvs E t) σ H Q) (t σ H fun vs H1 => rNewG sp (vs ++ dvs) E H1 Q) := ⟨fun q => q⟩
end
/-! for over reversed(list) -/
section
variable {K : PySem.W.Frag} {g : TG} {tb : TS} {D : Ends} {ta : TA} {σ : L2.St} {H : Hp}
def rForV (K : PySem.W.Frag) (us : List V) (g : TG) (tb : TS) (D : Ends) (σ : L2.St) (H : Hp) : Prop := tFor (iRev K fun _ H R => R us H) g tb D σ H
instance : Step (tFor (iRev K ta) g tb D σ H) (ta σ H fun us H1 => rForV K us g tb D σ H1) := ⟨fun q => q⟩
theorem forV {a : Addr} {xs : List V} (bs : List Addr) (Pv : Nat → L2.St → Hp → Prop) [hx : SqC K H a xs] [hn : NotIn a bs] (h0 : Pv 0 σ H)
    (hs : ∀ (i : Nat) x σ' H', xs.reverse[i]? = some x → Chg bs H H' → Pv i σ' H' → g x σ' H' fun σ2 H2 => tb { D with nx := LI bs H (Pv (i + 1)), ct := LI bs H (Pv (i + 1)), bk := D.nx } σ2 H2)
    (hd : ∀ σ' H', Chg bs H H' → Pv xs.length σ' H' → D.nx σ' H') : rForV K [.ref a] g tb D σ H :=
  ⟨a, xs, rfl, hx.sq, for_feeds fd_rev bs Pv h0 (fun _ r => r.l hn.out hx.sq) (fun i σ' H' x H'' hi r p y => by
    obtain ⟨rfl, y⟩ := y
    exact hs i x σ' _ y r p) hd⟩
end
/-- [n] * k -/
theorem flat_repI (n : Int) : ∀ k : Nat, (List.replicate k [V.int n]).flatten = (List.replicate k n).map V.int
  | 0 => rfl
  | k + 1 => by rw [List.replicate_succ, List.replicate_succ, List.flatten_cons, flat_repI n k]; rfl
theorem g_repI {K : PySem.W.Frag} {H : Hp} {Q : VK} {p : Addr} {c n : Int} [h : At H p (.lst [V.int c])] (hn : n ≤ 1000 ∧ -1000 ≤ n) (q : ∀ q H', Nw H q → Ex H H' → At H' q (.lst ((List.replicate n.toNat c).map V.int)) → Q (.ref q) H') : rMul K (.ref p) (.int n) H Q := by
  refine .inr (.inr (.inr ⟨p, n, [V.int c], rfl, rfl, h.eq, by omega, by omega, ?_, ?_⟩))
  · rw [sizeLine_eq]
    simp
    omega
  · rw [flat_repI]
    exact g_new q
theorem g_glst {K : PySem.W.Frag} {σ : L2.St} {H : Hp} {R : L2.St → Hp → Prop} {u : TGs} {a : Addr} {xs : List V} {n : Nat} [h : SqC K H a xs] (hn : xs.length = n) (q : u xs σ H R) : gLst K n u (.ref a) σ H R := ⟨a, xs, rfl, h.sq, hn, q⟩
end Gx

set_option Elab.async false
set_option linter.all false
set_option maxRecDepth 100000
set_option maxHeartbeats 4000000
/-! own classes: objects by their fields -/
namespace Gx
open PySem PySem.Spec PyProof.Rows L2
/-- an object of an own class, with its fields -/
class InC (C : outParam Addr) (fs : outParam (List (Str × V))) (H : Hp) (a : Addr) : Prop where
  ex : ∃ dx, H a = some (.ins C dx fs)
section
variable {K : PySem.W.Frag} {σ : L2.St} {H H1 : Hp} {Q : VK} {C a : Addr} {m f : Str} {sp : Sp} {dvs : List V} {E : XK} {ta tv : TE} {t : TA} {x y v : V} {fs : List (Str × V)} {D : Ends} {cs : List Addr} {mg : Str → Option Value}
instance inAt {dx : Addr} [h : At H a (.ins C dx fs)] : InC C fs H a := ⟨⟨dx, h.eq⟩⟩
instance (priority := low) inStep [r : Chg cs H1 H] [n : NotIn a cs] [h : InC C fs H1 a] : InC C fs H a := ⟨by
  obtain ⟨dx, h1⟩ := h.ex
  exact ⟨dx, r.keep a _ n.out h1⟩⟩
instance inLive [h : InC C fs H a] : Live H a := ⟨by
  obtain ⟨dx, h1⟩ := h.ex
  exact ⟨_, h1⟩⟩
theorem g_rmethI [h : InC C fs H1 a] (hm : fs.lookup m = none) (q : t σ H1 fun vs H2 => sp (.ref a :: (vs ++ dvs)) H2 Q E) : rMeth C m sp dvs E t σ (.ref a) H1 Q := by
  obtain ⟨dx, h1⟩ := h.ex
  exact ⟨a, dx, fs, rfl, h1, hm, q⟩
theorem g_fldI [h : InC C fs H1 a] (c : Cls K C) (n : NoAttr K C f) (e : fs.lookup f = some v) (q : Q v H1) : rFld K f (.ref a) H1 Q := by
  obtain ⟨dx, h1⟩ := h.ex
  exact ⟨a, C, dx, fs, v, rfl, h1, c, n, e, q⟩
theorem chg_ins {dx : Addr} {fs gs : List (Str × V)} (h : H a = some (.ins C dx fs)) (ni : ∀ t, fs ≠ [(("_budgets" : Str), V.ref t)]) : Chg [a] H (upd H a (.ins C dx gs)) :=
  ⟨fun b o hb e => by rw [upd_ne (by simpa using hb)]; exact e, fun b e => by
    by_cases z : b = a
    · rw [z, upd_same] at e; cases e
    · rw [upd_ne z] at e; exact e, fun b o i e => by
    by_cases z : b = a
    · exfalso
      rw [z, h] at e
      cases e
      rcases i with ⟨_, i⟩ | ⟨_, i⟩ | ⟨_, _, t, i⟩
      · cases i
      · cases i
      · injection i with i1 i2 i3
        exact ni t i3
    · rw [upd_ne z]; exact e⟩
/-- self.f = v -/
theorem g_fldSI {dx : Addr} [h : At H a (.ins C dx fs)] (c : Cls K C) (n : NoAttr K C f) (hl : fs.length < 1000) (ni : ∀ t, fs ≠ [(("_budgets" : Str), V.ref t)]) (q : ∀ H2, ExB a H H2 → At H2 a (.ins C dx (putF f y fs)) → D.nx σ H2) : rFldS K f D σ y (.ref a) H :=
  ⟨a, C, dx, fs, rfl, h.eq, c, n, hl, q _ (chg_ins h.eq ni) ⟨upd_same⟩⟩
/-! ### an object made -/
def rMkC (C : Addr) (sp : Sp) (dvs : List V) (E : XK) (vs : List V) (H1 : Hp) (Q : VK) : Prop := ∀ x dx, H1 x = none → H1 dx = none → dx ≠ x → sp (.ref x :: (vs ++ dvs)) (upd (upd H1 dx (.own x)) x (.ins C dx [])) (fun v H2 => v = .non ∧ Q (.ref x) H2) E
instance : Step (tMake C sp dvs E t σ H Q) (t σ H fun vs H1 => rMkC C sp dvs E vs H1 Q) := ⟨fun q => q⟩
theorem g_mkC {vs : List V} (q : ∀ x dx H', Nw H1 x → Ex H1 H' → At H' x (.ins C dx []) → sp (.ref x :: (vs ++ dvs)) H' (fun v H2 => v = .non ∧ Q (.ref x) H2) E) : rMkC C sp dvs E vs H1 Q := fun x dx h1 h2 h3 => by
  refine q x dx _ ⟨h1⟩ ?_ ⟨upd_same⟩
  have e1 : Ex H1 (upd H1 dx (.own x)) := Ex.mk h2
  have h4 : upd H1 dx (.own x) x = none := by rw [upd_ne (Ne.symm h3)]; exact h1
  exact e1.trans (Ex.mk h4)
instance {P : Prop} : Step (V.non = V.non ∧ P) P := ⟨fun q => ⟨rfl, q⟩⟩
end
structure DfC (K : PySem.W.Frag) (C : Addr) (qual : Str) (st : Stmt) (dvs : List V) (kws : List (Str × V)) : Prop where
  ex : ∃ (f : Addr) (fd : FuncData), Mk K C f ∧ FunD K "__init__" qual (defArgs st) (defBody st) (defScope st) dvs kws f fd
structure ClC (CX : CXT) (P : Program) (w : World) (K : PySem.W.Frag) (mg : Str → Option Value) (base : Heap) (k : Nat) (C : Addr) (qual : Str) (st : Stmt) (ps : List Str) (dvs : List V) (kws : List (Str × V)) (sp : Sp) : Prop where
  ex : ∃ (f : Addr) (fd : FuncData), Mk K C f ∧ FunD K "__init__" qual (defArgs st) (defBody st) (defScope st) dvs kws f fd ∧ FnOk P w K mg base CX k f fd ps sp
section
variable {P : Program} {w : World} {K : PySem.W.Frag} {mg : Str → Option Value} {base : Heap}
theorem DfC.ok {CX : CXT} {C : Addr} {qual : Str} {st : Stmt} {N ps : List Str} {dvs : List V} {kws : List (Str × V)} {k : Nat} {sp : Sp} (D : DfC K C qual st dvs kws) (S : FnScope N ps (defScope st)) (len : ∀ vs H Q E, sp vs H Q E → vs.length = ps.length)
    (hbody : ∀ (f : Addr) (cdv : Value) (A : Around) (outer : List Env) (s : Shared) (H : Hp) (vs : List V) (Q : VK) (E : XK), Room k (A.deeper (envOfC qual (defScope st) s.heap.objs.size f cdv)) → sp vs H Q E →
      ∃ t, PSs (cxOf CX P w K mg base N qual (defScope st) f cdv A outer s H E) (defBody st) t ∧ t { nx := fun _ H' => Q .non H', rt := Q } (start N vs) H) : ClC CX P w K mg base (k + 1) C qual st ps dvs kws sp := by
  obtain ⟨f, fd, h1, h2⟩ := D.ex
  exact ⟨f, fd, h1, h2, h2.ok S len fun cdv A outer s H vs Q E hr h => hbody f cdv A outer s H vs Q E hr h⟩
theorem DfC.okP {C : Addr} {qual : Str} {st : Stmt} {N ps : List Str} {dvs : List V} {kws : List (Str × V)} {k : Nat} {sp : Sp} (D : DfC K C qual st dvs kws) (S : FnScope N ps (defScope st)) (len : ∀ vs H Q E, sp vs H Q E → vs.length = ps.length)
    (hbody : ∀ (f : Addr) (cdv : Value) (A : Around) (outer : List Env) (s : Shared) (H : Hp) (vs : List V) (Q : VK) (E : XK), Room k (A.deeper (envOfC qual (defScope st) s.heap.objs.size f cdv)) → sp vs H Q E →
      ∃ t, PSs (cxOf CX0 P w K mg base N qual (defScope st) f cdv A outer s H E).nox (defBody st) t ∧ t { nx := fun _ H' => Q .non H', rt := Q } (start N vs) H) : ClC CX0 P w K mg base (k + 1) C qual st ps dvs kws sp :=
  D.ok S len fun f cdv A outer s H vs Q E hr h => by
    obtain ⟨t, a, b⟩ := hbody f cdv A outer s H vs Q E hr h
    exact ⟨t, a.nox, b⟩
theorem dfc_mk {C : Addr} {qual : Str} {st : Stmt} {f : Addr} {oc dV kV : Value} {od an : Option Addr} {osl : Array (Option Value)} {doc pm cdv ct : Value} {dvs : List V} {kws : List (Str × V)}
    (mk : PySem.W.makesIn K C = true) (a : PySem.W.findIn K (.ref C) "__init__" = some (some (.ref f))) (b : PySem.W.isFn K (.ref f) = true) (k : PySem.W.keepIn K (.ref C) = true) (k2 : PySem.W.keepIn K (.ref f) = true) (l : K.lookup f = some ⟨oc, od, .func (PySem.W.fnOf "__init__" qual (defArgs st) (defBody st) (defScope st) dV kV doc pm an cdv ct), osl⟩)
    (c : PySem.W.codeIn K cdv qual = true) (d : DflV K dV dvs) (q : KwdV K kV kws) : DfC K C qual st dvs kws :=
  ⟨f, _, ⟨mk, a, b, k⟩, ⟨⟨oc, od, dV, kV, doc, pm, an, cdv, ct, osl, rfl, l, c, d, q⟩, k2⟩⟩
/-- what is known of an own class -/
structure ClsF (K : PySem.W.Frag) (mg : Str → Option Value) (C : Addr) (name : Str) (fields : List Str) : Prop where
  g : mg name = some (.ref C)
  c : Cls K C
  nf : ∀ f ∈ fields, NoAttr K C f
  ty : PySem.W.findIn K (.ref C) "__class__" = some (some (.builtin "object.__class__")) ∧ PySem.W.specialIn K (.builtin "object.__class__") "__get__" = some (some (.builtin "getset_descriptor.__get__")) ∧ PySem.W.takesIn K (.builtin "object.__class__") = some true ∧ PySem.W.mroIn K C (.type "object") = some true
theorem clsf_mk {h : Heap} {C : Addr} {name : Str} {fields : List Str} (X : K.In h) (G : h.Ns mainGlobals mg) (a : PySem.W.nsIn K mainGlobals name = some (some (.ref C))) (pg : PySem.W.plainGet K C Str.empty = true) (hd : PySem.W.hasDictIn K C = true) (po : PySem.W.plainOver K C = true)
    (sa : PySem.W.findIn K (.ref C) "__setattr__" = some (some (.builtin "object.__setattr__"))) (nf : ∀ f ∈ fields, PySem.W.findIn K (.ref C) f = some none)
    (t1 : PySem.W.findIn K (.ref C) "__class__" = some (some (.builtin "object.__class__"))) (t2 : PySem.W.specialIn K (.builtin "object.__class__") "__get__" = some (some (.builtin "getset_descriptor.__get__"))) (t3 : PySem.W.takesIn K (.builtin "object.__class__") = some true) (t4 : PySem.W.mroIn K C (.type "object") = some true) : ClsF K mg C name fields :=
  ⟨PySem.W.mg_of X G a, ⟨pg, hd, po, sa⟩, nf, t1, t2, t3, t4⟩
end
section
variable {X : Cx} {CX : CXT} {k : Nat} {C : Addr} {qual : Str} {st : Stmt} {ps : List Str} {sp : Sp} {E : XK} {x : Str} {e : Expr} {es : List Expr} {t : TA} {p pos : Pos}
/-- C(e, ..) -/
theorem pe_mk (M : ClC CX X.prog X.w X.K X.mg X.base k C qual st ps [] [] sp) (hr : Room (k + 1) X.A) (hg : Gl X x) (hm : X.mg x = some (.ref C)) (hx : Passes CX X E)
    (h : ∀ (kV doc pm : Value) (an : Option Addr) (cdv ct : Value) (us : List Value), us.length = ps.length → bindArgs (PySem.W.fnOf "__init__" qual (defArgs st) (defBody st) (defScope st) .none kV doc pm an cdv ct) ⟨us, []⟩ = pure (ps.zip us))
    (ha : PA X (e :: es) t) (hdb : (x == ("__debug__" : Str)) = false := by decide) (he : starEach (e :: es) X.env = (false, eval e X.env) :: starEach es X.env := by rfl) (hpl : (backTo pos (starEach es X.env)).any (·.1) = false := by rfl) :
    PE X (.Call (.Name x p) (e :: es) [] pos) (tMake C sp [] E t) := by
  obtain ⟨f, fd, h1, h2, h4⟩ := M.ex
  exact pe_make h1 h4 hr hg hm (h2.bindsN h) .nil hx ha hdb he hpl
end
/-- isinstance(a, D) of an object of an own class -/
theorem g_isC {K : PySem.W.Frag} {mg : Str → Option Value} {C D a : Addr} {fs : List (Str × V)} {H : Hp} {Q : VK} {name : Str} {fields : List Str} {b : Bool} [h : InC C fs H a] (R : ClsF K mg C name fields) (hk : PySem.W.kitOne K (.ref C) (.ref D) = some b) (q : Q (.bl b) H) : rIsi K [.ref a, .ref D] H Q := by
  obtain ⟨dx, h1⟩ := h.ex
  exact g_isi (.own D) (.base (.ins h1 R.c R.ty.1 R.ty.2.1 R.ty.2.2.1 R.ty.2.2.2)) hk q
end Gx

set_option Elab.async false
set_option linter.all false
set_option maxRecDepth 100000
set_option maxHeartbeats 4000000
/-! list(range(n)); membership in lists of None and ints. -/
namespace Gx
open PySem PySem.Spec PyProof.Rows L2
/-- 0 .. n - 1 -/
def rg0 (n : Nat) : List V := (List.range n).map fun i => V.int (i : Nat)
theorem rg0_len {n : Nat} : (rg0 n).length = n := by unfold rg0; rw [List.length_map, List.length_range]
theorem rg0_eq {n : Int} : rgV 0 n = rg0 n.toNat := by
  unfold rgV rg0
  rw [show (n - 0).toNat = n.toNat from by omega]
  exact List.map_congr_left fun i _ => by rw [Int.zero_add]
section
variable {σ : L2.St} {H H1 : Hp} {Q : VK} {ta : TE}
def rLr1 (x : V) (H1 : Hp) (Q : VK) : Prop := ∃ n, x = .int n ∧ RgOk 0 n ∧ ∀ q, H1 q = none → Q (.ref q) (upd H1 q (.lst (rgV 0 n)))
instance : Step (tLstRg (tRg1 ta) σ H Q) (ta σ H fun x H1 => rLr1 x H1 Q) := ⟨fun q => q⟩
theorem g_lr1 {n : Int} (h0 : 0 ≤ n) (h1 : n ≤ 100000) (q : ∀ q H2, Nw H1 q → Ex H1 H2 → At H2 q (.lst (rg0 n.toNat)) → Q (.ref q) H2) : rLr1 (.int n) H1 Q := by
  refine ⟨n, rfl, RgOk.of_le (by omega) (by omega) (by omega) h0, ?_⟩
  rw [rg0_eq]
  exact g_new q
end
theorem flat_rg0 (n : Nat) : (rg0 n).all flatV = true := by
  unfold rg0
  rw [List.all_map, List.all_eq_true]
  intro i _
  rfl
theorem inV_rg0 {i : Int} {n : Nat} : inV (.int i) (rg0 n) = decide (0 ≤ i ∧ i < n) := by
  have e : rg0 n = ((List.range n).map fun i : Nat => (i : Int)).map V.int := by unfold rg0; rw [List.map_map]; rfl
  rw [e, inV_int]
  congr 1
  refine propext ⟨fun h => ?_, fun h => ?_⟩
  · obtain ⟨j, hj, rfl⟩ := List.mem_map.mp h
    rw [List.mem_range] at hj
    omega
  · exact List.mem_map.mpr ⟨i.toNat, List.mem_range.mpr (by omega), by omega⟩
theorem inV_nonI {i : Int} {xs : List V} : inV (.int i) (.non :: xs) = inV (.int i) xs := by
  unfold inV
  rw [List.any_cons, show eqV V.non (V.int i) = false from rfl, Bool.false_or]
theorem inV_nonN {xs : List V} : inV .non (.non :: xs) = true := by
  unfold inV
  rw [List.any_cons, show eqV V.non V.non = true from rfl, Bool.true_or]
def rFind3 : V → List V → Hp → VK → Prop := fun x xs H Q => ∃ (a b : Str) (i : Int), x = .str a ∧ xs = [.str b, .int i] ∧ Q (.int (Txt.find3 a b i)) H
theorem mtFind3 {X : Cx} : MtR X "str.find" rFind3 := mt_find3
end Gx

set_option linter.all false
set_option maxRecDepth 100000
set_option maxHeartbeats 2000000
/-! Gu: a def that begins with an if whose test strikes signs out of a text. -/
namespace Gx
open PySem PySem.Spec PyProof.Rows L2
section
variable {X : Cx} {a b c e : Expr} {pos : Pos} {st su : List Stmt} {t u : TS} {tc : TT}
theorem ptt_or {tA tB' : TT} (ha : PTT X a tA) (hb : PT X b tB') : PTT X (.BoolOp .Or [a, b] pos) (tOr tA tB') := by
  intro pins s σ H Q h0 I h
  refine isTrue_or (thn (ha pins s σ H _ h0 I h) fun c s1 ⟨H1, I1, q1⟩ => ?_)
  cases c with
  | true => exact ⟨H1, I1, q1⟩
  | false =>
    refine isTrue_or (thn (hb.run pins s1 σ H1 Q I1 q1) fun d s2 q2 => ?_)
    cases d with
    | false => exact isTrue_or_nil q2
    | true => exact q2
theorem pst_ifT (hc : PTT X c tc) (ha : PSs X st t) (hb : PSs X su u) : PST X (.If c st su pos) (tIfS tc t u) := by
  intro pins s σ H D h0 I h
  refine wpAny_If (wpAny_mono (hc pins s σ H _ h0 I h) (fun d s1 q => ?_) fun _ _ z => z)
  obtain ⟨H1, I1, q1⟩ := q
  cases d with
  | true => exact ha.run pins s1 σ H1 D I1 q1
  | false => exact hb.run pins s1 σ H1 D I1 q1
theorem psstNox {st : List Stmt} {t : TS} (h : PSsT X.nox st t) : PSsT X st t := fun pins s σ H D h0 I hw =>
  wpAny_mono (h pins s σ H D h0 (I.wish _) hw) (fun _ _ q => q.unwish) fun _ _ z => False.elim z
end
theorem DfG.okT {P : Program} {w : World} {K : PySem.W.Frag} {mg : Str → Option Value} {base : Heap} {x : Str} {st : Stmt} {N ps : List Str} {k : Nat} {sp : Sp} (D : DfG K mg x st [] []) (S : FnScope N ps (defScope st)) (hnc : ∀ y ∈ (defScope st).names, y.2 ≠ .cell) (hps : 1 ≤ ps.length) (len : ∀ vs H Q E, sp vs H Q E → vs.length = ps.length)
    (hbody : ∀ (f : Addr) (cdv : Value) (A : Around) (outer : List Env) (s : Shared) (H : Hp) (vs : List V) (Q : VK) (E : XK), Room k (A.deeper (envOfC x (defScope st) s.heap.objs.size f cdv)) → sp vs H Q E →
      ∃ t, PSsT (cxOf CX0 P w K mg base N x (defScope st) f cdv A outer s H E).nox (defBody st) t ∧ t { nx := fun _ H' => Q .non H', rt := Q } (start N vs) H) : ClG CX0 P w K mg base (k + 1) x st ps [] [] sp := by
  obtain ⟨f, fd, h1, h2⟩ := D.ex
  obtain ⟨oc, od, dV, kV, doc, pm, an, cdv, ct, osl, rfl, lk, hcd, _, _⟩ := id h2.ex
  refine ⟨f, _, h1, h2, fn_ofT lk hcd S hnc hps len fun A outer s H vs Q E hr h => ?_⟩
  obtain ⟨t, a, b⟩ := hbody f cdv A outer s H vs Q E hr h
  exact ⟨t, psstNox a, b⟩
end Gx

set_option linter.all false
set_option maxRecDepth 100000
set_option maxHeartbeats 2000000
/-! Gv: two promises of one def taken together: one without exceptions, one with. -/
namespace Gx
open PySem PySem.Spec PyProof.Rows L2
def spOr (a b : Sp) : Sp := fun vs H Q E => a vs H Q E ∨ b vs H Q E
section
variable {P : Program} {w : World} {K : PySem.W.Frag} {mg : Str → Option Value} {base : Heap} {CX : CXT} {x : Str} {st : Stmt} {ps : List Str} {dvs : List V} {kws : List (Str × V)} {j k n : Nat} {sp sq : Sp}
theorem fnOr {f : Addr} {fd : FuncData} (F : FnOk P w K mg base CX0 k f fd ps sp) (G : FnOk P w K mg base CX k f fd ps sq) : FnOk P w K mg base CX k f fd ps (spOr sp sq) := by
  refine ⟨fun vs H Q E h => h.elim (F.len _ _ _ _) (G.len _ _ _ _), fun A outer s H args us vs Q E hr e0 hb r h => ?_⟩
  rcases h with h | h
  · refine codeAny_mono (F.run A outer s H args us vs Q E hr e0 hb r h) fun q s' hq => ?_
    cases q with
    | error e => exact False.elim hq
    | ok fl => cases fl <;> exact hq
  · exact G.run A outer s H args us vs Q E hr e0 hb r h
theorem ClG.or (A : ClG CX0 P w K mg base j x st ps dvs kws sp) (B : ClG CX P w K mg base k x st ps dvs kws sq) (hj : j ≤ n) (hk : k ≤ n) : ClG CX P w K mg base n x st ps dvs kws (spOr sp sq) := by
  obtain ⟨f, fd, h1, h2, h3⟩ := A.ex
  obtain ⟨g, gd, k1, k2, k3⟩ := B.ex
  rw [h1] at k1
  cases k1
  obtain ⟨_, _, _, _, _, _, _, _, _, _, e1, l1, _⟩ := id h2.ex
  obtain ⟨_, _, _, _, _, _, _, _, _, _, e2, l2, _⟩ := id k2.ex
  have : fd = gd := by
    rw [l1] at l2
    injection l2 with l2
    injection l2 with _ _ l2
    injection l2
  subst this
  exact ⟨f, fd, h1, h2, fnOr (h3.mono hj) (k3.mono hk)⟩
end
end Gx

set_option Elab.async false
set_option linter.all false
set_option maxRecDepth 100000
set_option maxHeartbeats 4000000
/-! Gy: either reading; what is never reached; f-strings; classes without an __init__ -/
namespace Gx
open PySem PySem.Spec PyProof.Rows L2
section
variable {X : Cx} {σ : L2.St} {H H1 : Hp} {Q : VK} {te : TE} {ts : List TE}
/-- either of two readings -/
def tEi (t1 t2 : TE) : TE := fun σ H Q => t1 σ H Q ∨ t2 σ H Q
theorem pe_ei {e : Expr} {t1 t2 : TE} (h1 : PE X e t1) (h2 : PE X e t2) : PE X e (tEi t1 t2) := ⟨fun pins s σ H Q I h => h.elim (h1.run pins s σ H Q I) (h2.run pins s σ H Q I)⟩
theorem ei_l {t1 t2 : TE} (h : t1 σ H Q) : tEi t1 t2 σ H Q := .inl h
theorem ei_r {t1 t2 : TE} (h : t2 σ H Q) : tEi t1 t2 σ H Q := .inr h
/-- what is never reached -/
def spNo : L2.Sp := fun _ _ _ _ => False
def tDead : L2.TS := fun _ _ _ => False
theorem pss_dead {ss : List Stmt} : PSs X ss tDead := ⟨fun _ _ _ _ _ _ h => h.elim⟩
/-! f-strings -/
def rFmt (x : V) (H : Hp) (Q : VK) : Prop := (∃ y : Str, x = .str y ∧ y.length ≤ sizeLine ∧ Q (.str y) H) ∨ ∃ i : Int, x = .int i ∧ i.natAbs.log2 < 1920 ∧ Q (.str (toString i)) H
def rJn (ts : List TE) (acc : Str) (σ : L2.St) (x : V) (H : Hp) (Q : Str → Hp → Prop) : Prop := ∃ y : Str, x = .str y ∧ (acc ++ y).length ≤ sizeLine ∧ tJs ts (acc ++ y) σ H Q
def tFs (ts : List TE) : TE := fun σ H Q => tJs ts Str.empty σ H fun out H1 => Q (.str out) H1
instance : Step (tFmt te σ H Q) (te σ H fun x H1 => rFmt x H1 Q) := ⟨fun q => q⟩
instance {acc : Str} {R : Str → Hp → Prop} : Step (tJs (te :: ts) acc σ H R) (te σ H fun x H1 => rJn ts acc σ x H1 R) := ⟨fun q => q⟩
instance {acc : Str} {R : Str → Hp → Prop} : Step (tJs [] acc σ H R) (R acc H) := ⟨fun q => q⟩
instance : Step (tFs ts σ H Q) (tJs ts Str.empty σ H fun out H1 => Q (.str out) H1) := ⟨fun q => q⟩
theorem pe_fs {v1 v2 : Expr} {rest : List Expr} {pos : Pos} (h : PJ X (v1 :: v2 :: rest) ts) : PE X (.JoinedStr (v1 :: v2 :: rest) pos) (tFs ts) := pe_joined h
theorem g_fmtI {i : Int} (h : i.natAbs.log2 < 1920) (q : Q (.str (toString i)) H) : rFmt (.int i) H Q := .inr ⟨i, rfl, h, q⟩
theorem g_jn {acc y : Str} {R : Str → Hp → Prop} (h : (acc ++ y).length ≤ sizeLine) (q : tJs ts (acc ++ y) σ H R) : rJn ts acc σ (.str y) H R := ⟨y, rfl, h, q⟩
/-! C() where there is no __init__ but object's -/
structure MkZ (K : PySem.W.Frag) (C : Addr) : Prop where
  makes : PySem.W.makesIn K C = true
  init : PySem.W.findIn K (.ref C) "__init__" = some (some (.builtin "object.__init__"))
  kp : PySem.W.keepIn K (.ref C) = true
def rMkZ (C : Addr) (H : Hp) (Q : VK) : Prop := ∀ x dx, H x = none → H dx = none → dx ≠ x → Q (.ref x) (upd (upd H dx (.own x)) x (.ins C dx []))
def tMakeZ (C : Addr) : TE := fun _ H Q => rMkZ C H Q
instance {C : Addr} : Step (tMakeZ C σ H Q) (rMkZ C H Q) := ⟨fun q => q⟩
theorem g_mkZ {C : Addr} (q : ∀ x dx H', Nw H x → Ex H H' → At H' x (.ins C dx []) → Q (.ref x) H') : rMkZ C H Q := fun x dx h1 h2 h3 => by
  refine q x dx _ ⟨h1⟩ ?_ ⟨upd_same⟩
  have e1 : Ex H (upd H dx (.own x)) := Ex.mk h2
  have h4 : upd H dx (.own x) x = none := by rw [upd_ne (Ne.symm h3)]; exact h1
  exact e1.trans (Ex.mk h4)
theorem run_makeZ {pins : List (Addr × Obj)} {s : Shared} {C : Addr} (M : MkZ X.K C) (I : Inv X pins σ H s) (h : rMkZ C H Q) : wpAny (model X.prog X.w) X.A (call (.ref C) []) (EP X pins σ Q) X.xe s := by
  have hq := h (s.heap.objs.size + 1) s.heap.objs.size (I.hok.fresh (Nat.le_succ _)) (I.hok.fresh (Nat.le_refl _)) (Nat.ne_of_lt (Nat.lt_succ_self _))
  have I2 := Inv.made (C := C) I
  refine wpAny_call (make_map0 I.kIn M.makes M.init (fun self => PySem.W.Looks.of_pure (PySem.W.oi_bind self)) ?_)
  have Y := PySem.W.makes_of (M := model X.prog X.w) I.kIn M.makes
  have e2 : ((s.heap.push PySem.W.emptyDict).push (PySem.W.instObj C s.heap.objs.size)).get? (s.heap.objs.size + 1) = some (PySem.W.instObj C s.heap.objs.size) := by
    have := Heap.get?_push_size (s.heap.push PySem.W.emptyDict) (o := PySem.W.instObj C s.heap.objs.size) rfl
    rwa [Heap.size_push] at this
  have t1 : PySem.W.Looks (model X.prog X.w) ((s.heap.push PySem.W.emptyDict).push (PySem.W.instObj C s.heap.objs.size)) (typeOf (.ref (s.heap.objs.size + 1))) (.ref C) := (PySem.W.Looks.ld e2).andThen .now
  have t2 : PySem.W.Looks (model X.prog X.w) ((s.heap.push PySem.W.emptyDict).push (PySem.W.instObj C s.heap.objs.size)) (isInstance (.ref (s.heap.objs.size + 1)) (.type "object")) true := t1.andThen (Y.top.keeps fun b o e => Heap.get?_push_of_some _ (Heap.get?_push_of_some _ e))
  refine codeAny_call_builtin PySem.W.oi_plain PySem.W.entry_oi (@PySem.W.check_slot (model X.prog X.w) _ _ _ "object.__init__" "object" "__init__" (.ref (s.heap.objs.size + 1)) [] [] _ PySem.W.oi_kind PySem.W.oi_split t2 (PySem.W.oi_args (.ref (s.heap.objs.size + 1))) ?_)
  rw [PySem.W.oi_run]
  exact wpAny_pure (And.intro rfl ⟨V.ref (s.heap.objs.size + 1), _, I2, rfl, hq⟩)
theorem pe_mkZ {C : Addr} {x : Str} {p pos : Pos} (M : MkZ X.K C) (hg : Gl X x) (hm : X.mg x = some (.ref C)) (hdb : (x == ("__debug__" : Str)) = false := by decide) : PE X (.Call (.Name x p) [] [] pos) (tMakeZ C) := by
  refine ⟨fun pins s σ H Q I h => ?_⟩
  refine wpAny_Call_Name_kw (ld_glob I hg hm ?_ hdb)
  exact PySem.W.callWith_K0 I.kIn M.kp (run_makeZ M I h)
end
section
variable {P : Program} {w : World} {K : PySem.W.Frag} {mg : Str → Option Value} {base : Heap} {CX : CXT} {x : Str} {st : Stmt} {ps : List Str} {dvs : List V} {kws : List (Str × V)} {j k n : Nat} {sp sq : Sp}
theorem fnOrX {f : Addr} {fd : FuncData} (F : FnOk P w K mg base CX k f fd ps sp) (G : FnOk P w K mg base CX k f fd ps sq) : FnOk P w K mg base CX k f fd ps (spOr sp sq) :=
  ⟨fun vs H Q E h => h.elim (F.len _ _ _ _) (G.len _ _ _ _), fun A outer s H args us vs Q E hr e0 hb r h => h.elim (F.run A outer s H args us vs Q E hr e0 hb r) (G.run A outer s H args us vs Q E hr e0 hb r)⟩
theorem ClG.orX (A : ClG CX P w K mg base j x st ps dvs kws sp) (B : ClG CX P w K mg base k x st ps dvs kws sq) (hj : j ≤ n) (hk : k ≤ n) : ClG CX P w K mg base n x st ps dvs kws (spOr sp sq) := by
  obtain ⟨f, fd, h1, h2, h3⟩ := A.ex
  obtain ⟨g, gd, k1, k2, k3⟩ := B.ex
  rw [h1] at k1
  cases k1
  obtain ⟨_, _, _, _, _, _, _, _, _, _, e1, l1, _⟩ := id h2.ex
  obtain ⟨_, _, _, _, _, _, _, _, _, _, e2, l2, _⟩ := id k2.ex
  have : fd = gd := by
    rw [l1] at l2
    injection l2 with l2
    injection l2 with _ _ l2
    injection l2
  subst this
  exact ⟨f, fd, h1, h2, fnOrX (h3.mono hj) (k3.mono hk)⟩
end
end Gx

set_option Elab.async false
set_option linter.all false
set_option maxRecDepth 100000
set_option maxHeartbeats 4000000
/-! Gz: enumerate(list, start=1) -/
namespace Gx
open PySem PySem.Spec PyProof.Rows L2
open PySem.Builtin.SmallTypes
open Sem (wp)
open AutoSeq1 (wpAny_loadPart')
section
variable {prog : Program} {w : World} {A : Around} {E : Value → Shared → Prop} {s : Shared}
theorem callType_meetsK {T newId initId : String} {Bn Bi : Builtin} {args : List Value} {kw : List (Str × Value)} {S : PySem.Spec} {Q Q₁ : Value → Shared → Prop} (ft : TypeCalled T newId initId)
    (hct : checkTypeCall T ⟨args, kw⟩ = pure ()) (hcn : checkBuiltinCall newId ⟨.type T :: args, kw⟩ = pure ())
    (entryN : entryFor table newId = some Bn) (entryI : entryFor table initId = some Bi) (g : Meets (Bn ⟨.type T :: args, kw⟩) S)
    (h : S A.in1 (wants Q₁ E) s)
    (hnext : ∀ obj s₁, Q₁ obj s₁ → s₁.TypeIs obj T ∧ argsOk initId ⟨obj :: args, kw⟩ ∧ ∃ Si, Meets (Bi ⟨obj :: args, kw⟩) Si ∧ Si A.in1 (wants (fun r s₂ => r = .none ∧ Q obj s₂) E) s₁) :
    wpAny (model prog w) A (call (.type T) args kw) Q E s := by
  obtain ⟨c, tl, hmro⟩ := ft.mro
  have hmade := ft.made
  have hsub := ft.sub
  refine wpAny_call (codeAny_of_tree ?_)
  show wpAny _ _ (callAny (.type T) _) _ _ _
  refine wpAny_pure ⟨Code.quiet_builtin _ (by decide +kernel), codeAny_builtin F.entry_type_call ?_⟩
  rw [Around.under_plain (weight_type_call_type T args kw) (units_type_call_type T args kw)]
  have h1 := ft.notType
  have h2 := ft.canCreate
  repeat (any_goals (first | assumption | wp_step))

  refine codeAny_mono (codeAny_call_builtin ft.plain entryN (wpAny_of_eq hcn (g prog w A.in1 _ s h))) fun r s₁ hr => ?_
  cases r with
  | error e => exact hr
  | ok fl =>
    cases fl with
    | ret obj =>
      obtain ⟨hT, hok, Si, gi, hsi⟩ := hnext _ _ hr
      have hli := ft.init.lookup
      have hbi := ft.init.bind obj
      repeat (any_goals (first | assumption | wp_step))

      refine codeAny_mono (codeAny_call_builtin ft.init.plain entryI (ft.init.check _ _ _ _ _ _ _ _ hT hok (gi prog w A.in1 _ s₁ hsi))) fun r₂ s₂ hr₂ => ?_
      cases r₂ with
      | error e => exact hr₂
      | ok fl₂ =>
        cases fl₂ with
        | ret r =>
          obtain ⟨rfl, hq⟩ := hr₂
          repeat (any_goals (first | assumption | wp_step))
        | _ => exact hr₂.elim
    | _ => exact hr.elim
theorem typeCall_en (a : Value) (t : Tok) : checkTypeCall "enumerate" ⟨[a], [("start", .int 1 t)]⟩ = pure () := by kernel_rfl
theorem newCall_en (a : Value) (t : Tok) : checkBuiltinCall "enumerate.__new__" ⟨[.type "enumerate", a], [("start", .int 1 t)]⟩ = pure () := by kernel_rfl
theorem args_oi_en (a b : Value) (t : Tok) : argsOk "object.__init__" ⟨[a, b], [("start", .int 1 t)]⟩ := by unfold argsOk; kernel_rfl
theorem oi_meets_en {T newId : String} {self a : Value} {t : Tok} (hl : typeLookup (.type T) "__init__" = pure (some (.builtin "object.__init__")))
    (hm : Bind.madeBy (.type T) = pure (some newId)) (hne : (some newId != some "object.__new__") = true) :
    Meets (Builtin.«object.__init__» ⟨[self, a], [("start", .int 1 t)]⟩) (fun _ R s => s.TypeIs self T ∧ R (.ok (.ret .none)) s) := by
  refine Meets.of_wp fun prog w A R s hs => ?_
  obtain ⟨hT, hq⟩ := hs
  repeat (any_goals (first | assumption | wp_step))
  exact ⟨_, rfl, hq⟩
theorem meets_en (l : Addr) (items : Array Value) (n : Nat) (dct : Option Addr) (sl : Array (Option Value)) (t : Tok) :
    Meets (Builtin.«enumerate.__new__» ⟨[.type "enumerate", .ref l], [("start", .int 1 t)]⟩) (fun _ R s => s.heap.get? l = some { cls := .type "list", dict := dct, data := .seq items n, slots := sl } ∧
      R (.ok (.ret (.ref (s.heap.push { cls := .type "list_iterator", data := .fields #[.ref l, .int 0 0] }).objs.size)))
        { s with heap := (s.heap.push { cls := .type "list_iterator", data := .fields #[.ref l, .int 0 0] }).push { cls := .type "enumerate", data := .fields #[.none, .bool false, .ref s.heap.objs.size, rawInt 1, .none, .none] } }) :=
  .of_wp fun prog w A R s h => by
    obtain ⟨hp, g, d, tk, os⟩ := s; obtain ⟨hl, h⟩ := h
    have hsub := sub_enumerate
    have hL : Heap.IsList (Shared.heap ⟨hp, g, d, tk, os⟩) l items := ⟨_, hl, rfl, n, rfl⟩
    wp_walk using wpAny_loadPart' hl
    refine wpAny_stack_any fun st => wpAny_pure ?_
    split
    · rename_i c _ _ _ _ _
      cases (c == Value.type "enumerate")
      · wp_walk using wpAny_loadPart' hl, wpAny_pyIter_list hL
        exact ⟨_, rfl, h⟩
      · wp_walk using wpAny_loadPart' hl, wpAny_pyIter_list hL
        exact ⟨_, rfl, h⟩
    · wp_walk using wpAny_loadPart' hl, wpAny_pyIter_list hL
      exact ⟨_, rfl, h⟩
theorem call_en {l : Addr} {items : Array Value} {t : Tok} {Q : Value → Shared → Prop} (hL : s.heap.IsList l items)
    (h : ∀ h', IsEnum h' (s.heap.objs.size + 1) s.heap.objs.size 1 .none → h'.IsListIter s.heap.objs.size l 0 → h'.objs.size = s.heap.objs.size + 2 →
      (∀ b o, s.heap.get? b = some o → h'.get? b = some o) → Q (.ref (s.heap.objs.size + 1)) { s with heap := h' }) :
    wpAny (model prog w) A (call (.type "enumerate") [.ref l] [("start", .int 1 t)]) Q E s := by
  obtain ⟨⟨c, dct, dt, sl⟩, hl, hc, n, hd⟩ := hL
  replace hc : c = .type "list" := hc
  replace hd : dt = .seq items n := hd
  subst hc hd
  have ft := F.called_enumerate
  refine callType_meetsK ft (typeCall_en _ _) (newCall_en _ _) F.entry_enumerate_new F.entry_object_init (meets_en l items n dct sl t) (Q₁ := fun obj s₁ => s₁.TypeIs obj "enumerate" ∧ Q obj s₁) ⟨hl, ?_⟩
    fun obj _ hq => ⟨hq.1, args_oi_en obj _ _, _, oi_meets_en ft.init.lookup ft.made (by decide), hq.1, rfl, hq.2⟩
  have hz : (s.heap.push { cls := .type "list_iterator", data := .fields #[.ref l, .int 0 0] }).objs.size = s.heap.objs.size + 1 := Heap.size_push ..
  show _ ∧ _
  rw [hz]
  have he : IsEnum ((s.heap.push { cls := .type "list_iterator", data := .fields #[.ref l, .int 0 0] }).push
      { cls := .type "enumerate", data := .fields #[.none, .bool false, .ref s.heap.objs.size, rawInt 1, .none, .none] }) (s.heap.objs.size + 1) s.heap.objs.size 1 .none := by
    have := Heap.get?_push_size (s.heap.push { cls := .type "list_iterator", data := .fields #[.ref l, .int 0 0] })
      (o := { cls := .type "enumerate", data := .fields #[.none, .bool false, .ref s.heap.objs.size, rawInt 1, .none, .none] }) rfl
    rw [hz] at this; exact this
  refine ⟨⟨_, he, rfl⟩, h _ he ⟨_, Heap.get?_push_of_some _ (Heap.get?_push_size _ rfl), rfl, rfl⟩ (by rw [Heap.size_push, hz]) fun b o x => Heap.get?_push_of_some _ (Heap.get?_push_of_some _ x)⟩
end
section
variable {prog : Program} {w : World} {A : Around} {E : Value → Shared → Prop} {s : Shared}
theorem enum_end1 {e it l : Addr} {i : Nat} {j : Int} {items : Array Value} {old : Value} {Q : Option Value → Shared → Prop} (hh : A.handled = none)
    (he : IsEnum s.heap e it j old) (hit : s.heap.IsListIter it l i) (hl : s.heap.IsList l items) (hx : items[i]? = none)
    (hQ : ∀ h', Heap.ExtBut it s.heap h' → Q none { s with heap := h' }) : wpAny (model prog w) A (pyNext (.ref e)) Q E s := by
  have hT : s.TypeIs (.ref e) "enumerate" := ⟨_, he, rfl⟩
  unfold pyNext
  refine wpAny_bind (wpAny_attempt (wpAny_callSpecial?_slot (name := Str.ofString "__next__") hT F.slot_enumerate_next
    (wpAny_call_entry F.slot_enumerate_next hT F.entry_enumerate_next ?_ (F.args_enumerate_next_1 _))))
  show wpAny _ _ (field (.ref e) 2 >>= _) _ _ _
  refine wpAny_bind (wpAny_field he rfl (x := .ref it) rfl ?_)
  refine wpAny_bind (wpAny_nextOf_list_end hh hit hl hx fun h' x he' hx' => ?_)
  obtain ⟨o, ho, hc⟩ := hx'
  refine wpAny_bind (wpAny_isInstance (T := "StopIteration") (b := true) ⟨o, ho, hc⟩ isSubtype_stop ?_)
  exact wpAny_pure (hQ _ he')
theorem draws_up {it : Addr} {fp : List Addr} {n : Nat} {P : Nat → Value → Prop} {St : Nat → Heap → Prop} (D : Draws prog w A it fp n P St) :
    Draws prog w A it fp (n + 1) (fun j v => ∃ i, j = i + 1 ∧ P i v) (fun j h => ∃ i, j = i + 1 ∧ St i h) where
  live := fun _ h ⟨i, _, st⟩ => D.live i h st
  frame := fun _ h h' ⟨i, e, st⟩ hk => ⟨i, e, D.frame i h h' st hk⟩
  item := fun j s Q E hj st hQ => by
    obtain ⟨i, rfl, st⟩ := st
    exact D.item i s Q E (by omega) st fun x h' tk p st' sb => hQ x h' tk ⟨i, rfl, p⟩ ⟨i + 1, rfl, st'⟩ sb
  done := fun s Q E st hE => by
    obtain ⟨i, e, st⟩ := st
    obtain rfl : i = n := by omega
    exact D.done s Q E st hE
theorem callWith_type_kwB {M : Model} {pos : Pos} {T : String} {first : List Value} {args : List (Bool × Sem Value)} {keywords : List (Option Str × Sem Value)} {Q : Value → Shared → Prop}
    (hplain : args.any (·.1) = false) (hkw : keywords.any (·.1.isNone) = false)
    (h : wpAny M A (evalArgs (.type T) true args keywords) (fun a s₁ => wpAny M A (call (.type T) (first ++ a.pos) a.kw) Q E s₁) E s) :
    wpAny M A (callWith pos (.type T) first args keywords) Q E s := by
  unfold callWith
  refine wpAny_bind (wpAny_holding (wpAny_mono h (fun a s₁ h₁ => wpAny_bind (wpAny_standAt ?_)) fun _ _ x => x))
  simp only [hplain, hkw, Bool.or_false]
  refine wpAny_bind (wpAny_pure ?_)
  exact wpAny_bind (wpAny_mono h₁ (fun r s₂ hr => wpAny_bind (wpAny_holding (wpAny_point (wpAny_pure hr)))) fun _ _ x => x)
theorem callWith_kwT {M : Model} {env : Env} {pos : Pos} {T : String} {e : Expr} {rest : List Expr} {kws : List Keyword} {Q : Value → Shared → Prop}
    (h : wpAny M A (spliced (backTo pos (starEach (e :: rest) env))) (fun vs s₁ => wpAny M A (evalAll ((backToKw pos (keywordEach kws env)).map (·.2)))
      (fun kvs s₂ => wpAny M A (call (.type T) vs (((backToKw pos (keywordEach kws env)).filterMap (·.1)).zip kvs)) Q E s₂) E s₁) E s)
    (he : backTo pos (starEach (e :: rest) env) = (false, eval e env) :: backTo pos (starEach rest env))
    (hplain : (backTo pos (starEach (e :: rest) env)).any (·.1) = false)
    (hall : (backToKw pos (keywordEach kws env)).all (·.1.isSome) = true)
    (hkw : (backToKw pos (keywordEach kws env)).any (·.1.isNone) = false) :
    wpAny M A (callWith pos (.type T) [] (backTo pos (starEach (e :: rest) env)) (backToKw pos (keywordEach kws env))) Q E s := by
  refine callWith_type_kwB hplain hkw ?_
  rw [he] at h ⊢
  exact PyProof.Rows.evalArgs_kwB hall h
end
/-- the list at a, each item in a new pair with its place from 1 on -/
def Ite1 (K : PySem.W.Frag) (a : Addr) : It :=
  ⟨fun i H => ∃ (xs : List V) (x : V), SqL K H a xs ∧ xs[i]? = some x, fun i H v H' => ∃ T x, v = .ref T ∧ H T = none ∧ H' = upd H T (.tup [.int ((i + 1 : Nat) : Int), x]) ∧ ∀ xs, SqL K H a xs → xs[i]? = some x, fun i H => ∃ xs : List V, SqL K H a xs ∧ xs.length ≤ i⟩
theorem turn_enum1 {P : Program} {w : World} {K : PySem.W.Frag} {elts : List Expr} {kk : Nat} {tpos : Pos} (a e it : Addr) :
    Turn P w K (.Tuple elts kk tpos) (Ite1 K a) [e, it] e (fun i h => (∃ old, IsEnum h e it ((i + 1 : Nat) : Int) old) ∧ h.IsListIter it a i ∧ e ≠ it) where
  mem := by simp
  obj := fun i h st b hb => by
    obtain ⟨⟨old, he⟩, ⟨o, ho, hc, hd⟩, _⟩ := st
    have e' : b = e ∨ b = it := by simpa using hb
    rcases e' with z | z
    · rw [z]; exact ⟨_, he, fun v q => nomatch q⟩
    · rw [z]; exact ⟨o, ho, fun v q => by rw [hd] at q; cases q⟩
  keep := fun i h h' st k => let ⟨⟨old, he⟩, hi, hne⟩ := st; ⟨⟨old, k e (by simp) _ he⟩, hi.at fun o q => k it (by simp) o q, hne⟩
  item := by
    intro X hP hw hK hc i pins s σ H E I hf st hg
    subst hP hw hK
    obtain ⟨⟨old, he⟩, hit, hne⟩ := st
    obtain ⟨xs, x, hq, hx⟩ := hg
    obtain ⟨its, rv, p, hz⟩ := I.list hq
    obtain ⟨u, hu, ru⟩ := rv.get hx
    have hel : e < s.heap.objs.size := Heap.lt_size he
    have hil : it < s.heap.objs.size := by obtain ⟨_, q, _⟩ := hit; exact Heap.lt_size q
    have hai : a ≠ it := fun z => by
      obtain ⟨o1, e1, c1, _⟩ := p.isList
      obtain ⟨o2, e2, c2, _⟩ := id hit
      rw [z, e2] at e1
      cases e1
      rw [c2] at c1
      simp at c1
    have hea : e ≠ a := fun z => by
      obtain ⟨o1, e1, c1, _⟩ := p.isList
      have e2 := he
      unfold IsEnum at e2
      rw [z, e1] at e2
      cases e2
      simp at c1
    have D := draws_up (Draws.list (prog := X.prog) (w := X.w) (A := X.A.in1) (I.ok.hd hc) it a hai its.toArray)
    have hlt : i < its.toArray.size := by
      rcases Nat.lt_or_ge i its.toArray.size with z | z
      · exact z
      · rw [List.getElem?_eq_none (by simpa using z)] at hu; cases hu
    refine wpAny_pyNext_enum_itemD D he ⟨i, rfl, hit, p.isList⟩ (by omega) hne (by simp only [List.mem_cons, List.not_mem_nil, or_false, not_or]; exact ⟨hne, hea⟩) fun v h' tk hv ho hit' hT hsz hk => ?_
    obtain ⟨i', ei, hv⟩ := hv
    obtain rfl : i = i' := by omega
    obtain rfl : v = u := by
      have hu2 : its.toArray[i]? = some u := by simpa using hu
      rw [hu2] at hv
      cases hv
      rfl
    obtain ⟨i', ei', hit', _⟩ := hit'
    obtain rfl : i + 1 = i' := by omega
    refine ⟨_, rfl, wpAny_letOwnedTupleGo_enum (s := { s with heap := h', toks := tk + 1 }) ho fun h'' he' sb => ?_⟩
    have hT2 : h''.get? s.heap.objs.size = some { cls := .type "tuple", data := .seq #[.int ((i + 1 : Nat) : Int) tk, v] } := (sb.2 _ (Nat.ne_of_gt hel)).trans hT
    have new : ObjOk X.prog X.w (upd H s.heap.objs.size (.tup [.int ((i + 1 : Nat) : Int), x])) h'' s.heap.objs.size (.tup [.int ((i + 1 : Nat) : Int), x]) :=
      ⟨by show 2 ≤ sizeLine; decide, [.int ((i + 1 : Nat) : Int) tk, v], .cons ⟨_, rfl⟩ (.cons ru .nil), ⟨_, hT2, rfl, _, rfl⟩⟩
    have I1 : Inv X pins σ (upd H s.heap.objs.size (.tup [.int ((i + 1 : Nat) : Int), x])) { s with heap := h'', toks := tk + 1 } :=
      I.turnedNew (ch := [e, it]) (fun b ob hb q => (sb.2 b (fun z => hb (by simp [z]))).trans (hk b ob (fun z => hb (by simp [z])) (fun z => hb (by simp [z])) q)) hf (Nat.le_refl _) new
    refine ⟨.ref s.heap.objs.size, _, I1, rfl, ⟨_, x, rfl, I.hok.fresh (Nat.le_refl _), rfl, fun ys hy => by rw [I.list_inj hy hq]; exact hx⟩, ⟨⟨v, ?_⟩, hit'.at fun o q => (sb.2 it (Ne.symm hne)).trans q, hne⟩, fun b hb => ?_⟩
    · have e1 : ((i + 1 + 1 : Nat) : Int) = ((i + 1 : Nat) : Int) + 1 := by omega
      rw [e1]; exact he'
    · have hb' : b < s.heap.objs.size := by
        have e' : b = e ∨ b = it := by simpa using hb
        rcases e' with z | z
        · rw [z]; exact hel
        · rw [z]; exact hil
      rw [upd_ne (Nat.ne_of_lt hb')]
      exact (hf b hb).1
  done := by
    intro X hP hw hK hc i pins s σ H E I hf st hg
    subst hP hw hK
    obtain ⟨⟨old, he⟩, hit, hne⟩ := st
    obtain ⟨xs, hq, hx⟩ := hg
    obtain ⟨its, rv, p, hz⟩ := I.list hq
    obtain ⟨f0, f1, f2, f3, f4, f5⟩ := hf it (by simp)
    have hl := rv.length
    exact enum_end1 (I.ok.hd hc) he hit p.isList (by simp; omega) fun h' eb => ⟨rfl, I.turned (t' := s.toks) (fun b o hb q => eb b o hb q) f0 f1 f3 f4 f5⟩
  self := fun A i s Q E st h => let ⟨⟨_, he⟩, _⟩ := st; wpAny_pyIter_enum he h
def rEn1 (K : PySem.W.Frag) (vs zs : List V) (H : Hp) (R : It → Hp → Prop) : Prop := ∃ a xs, vs = [.ref a] ∧ zs = [.int 1] ∧ SqL K H a xs ∧ R (Ite1 K a) H
def iEnum1 (K : PySem.W.Frag) (ta tk : TA) : TI := fun σ H R => ta σ H fun vs H1 => tk σ H1 fun zs H2 => rEn1 K vs zs H2 R
theorem pi_enum1 {X : Cx} {K : PySem.W.Frag} {e : Expr} {kws : List Keyword} {ta tk : TA} {p pos tpos : Pos} {elts : List Expr} {kk : Nat} (hK : X.K = K) (hg : Gl X "enumerate") (hm : X.mg "enumerate" = none) (ha : PA X [e] ta) (hk : PK X kws tk)
    (he : backTo pos (starEach [e] X.env) = (false, eval e X.env) :: backTo pos (starEach [] X.env) := by rfl) (hpl : (backTo pos (starEach [e] X.env)).any (·.1) = false := by rfl)
    (hall : (backToKw pos (keywordEach kws X.env)).all (·.1.isSome) = true := by rfl) (hnone : (backToKw pos (keywordEach kws X.env)).any (·.1.isNone) = false := by rfl) (hks : (backToKw pos (keywordEach kws X.env)).filterMap (·.1) = [("start" : Str)] := by rfl) :
    PI X (.Tuple elts kk tpos) (.Call (.Name "enumerate" p) [e] kws pos) (iEnum1 K ta tk) := by
  subst hK
  refine ⟨fun pins s σ H R I h => ?_⟩
  refine wpAny_Call_Name_kw (ld_blt I hg hm boot_enumerate ?_)
  refine callWith_kwT (thn (ha.run pos pins s σ H _ I h) fun us s1 ⟨vs, H1, I1, r1, q1⟩ => thn (hk.run pos pins s1 σ H1 _ I1 q1) fun ws s2 ⟨zs, H2, I2, r2, q2⟩ => ?_) he hpl hall hnone
  rw [hks]
  obtain ⟨a, xs, ex, ez, hq, q⟩ := q2
  subst ex
  subst ez
  cases r1 with
  | cons r rr =>
    cases rr
    cases r
    cases r2 with
    | cons r' rr' =>
      cases rr'
      obtain ⟨t, rfl⟩ := r'
      obtain ⟨its, rv, p', hz⟩ := I2.list hq
      refine call_en p'.isList fun h' he hit hsz hk => wpAny_pyIter_enum he ?_
      have I3 : Inv X pins σ H2 { s2 with heap := h' } := I2.kept (t' := s2.toks) hk
      refine ⟨s2.heap.objs.size + 1, [s2.heap.objs.size + 1, s2.heap.objs.size], _, _, H2, rfl, I3, turn_enum1 a (s2.heap.objs.size + 1) s2.heap.objs.size, ⟨⟨.none, he⟩, hit, Nat.succ_ne_self _⟩, fun b hb => ?_, q⟩
      have e' : b = s2.heap.objs.size + 1 ∨ b = s2.heap.objs.size := by simpa using hb
      have hle : s2.heap.objs.size ≤ b := by
        rcases e' with z | z
        · rw [z]; exact Nat.le_add_right _ _
        · rw [z]; exact Nat.le_refl _
      exact I2.fpOk hle (I2.hok.fresh hle)
section
variable {K : PySem.W.Frag} {σ : L2.St} {H : Hp} {ta tk : TA} {D : Ends} {tb : TS} {g : TG}
theorem fd_enum1 {a : Addr} {xs : List V} : Feeds (Ite1 K a) xs.length (fun H => SqL K H a xs) (fun i H x H' => ∃ c, xs[i]? = some c ∧ Pair H x H' (.int ((i + 1 : Nat) : Int)) c) :=
  ⟨fun i H s h => ⟨xs, xs[i], s, List.getElem?_eq_getElem h⟩, fun i H x H' s _ y => by
    obtain ⟨T, c, rfl, h, rfl, hc⟩ := y
    exact ⟨c, hc xs s, pair_mk h⟩, fun H s => ⟨xs, s, Nat.le_refl _⟩⟩
def rForE1 (K : PySem.W.Frag) (vs zs : List V) (g : TG) (tb : TS) (D : Ends) (σ : L2.St) (H : Hp) : Prop := tFor (fun _ H R => rEn1 K vs zs H R) g tb D σ H
instance : Step (tFor (iEnum1 K ta tk) g tb D σ H) (ta σ H fun vs H1 => tk σ H1 fun zs H2 => rForE1 K vs zs g tb D σ H2) := ⟨fun q => q⟩
theorem forE1 {a : Addr} {xs : List V} (bs : List Addr) (Pv : Nat → L2.St → Hp → Prop) [hx : SqC K H a xs] [hn : NotIn a bs] (h0 : Pv 0 σ H)
    (hs : ∀ (i : Nat) c x σ' H' H'', xs[i]? = some c → Chg bs H H' → Pv i σ' H' → Pair H' x H'' (.int ((i + 1 : Nat) : Int)) c → g x σ' H'' fun σ2 H2 => tb { D with nx := LI bs H (Pv (i + 1)), ct := LI bs H (Pv (i + 1)), bk := D.nx } σ2 H2)
    (hd : ∀ σ' H', Chg bs H H' → Pv xs.length σ' H' → D.nx σ' H') : rForE1 K [.ref a] [.int 1] g tb D σ H :=
  ⟨a, xs, rfl, rfl, hx.sq, for_feeds fd_enum1 bs Pv h0 (fun _ r => r.l hn.out hx.sq) (fun i σ' H' x H'' hi r p y => by
    obtain ⟨c, h1, y⟩ := y
    exact hs i c x σ' H' H'' h1 r p y) hd⟩
end
end Gx

set_option Elab.async false
set_option linter.all false
set_option maxRecDepth 100000
set_option maxHeartbeats 4000000
/-! methods and makings within a try: what is raised is wished for at the caller's slots -/
namespace Gx
open PySem PySem.Spec PyProof.Rows L2
section
variable {X : Cx} {CX : CXT} {k : Nat} {C : Addr} {m qual x : Str} {st : Stmt} {ps : List Str} {sp : Sp} {E : L2.St → XK} {o e : Expr} {es : List Expr} {ta : TE} {t : TA} {p apos pos : Pos} {pl : Sem Bool}
def tMethD (C : Addr) (m : Str) (sp : Sp) (dvs : List V) (E : L2.St → XK) (ta : TE) (t : TA) : TE := fun σ H Q => ta σ H fun x H1 => rMeth C m sp dvs (E σ) t σ x H1 Q
def tMakeD (C : Addr) (sp : Sp) (dvs : List V) (E : L2.St → XK) (t : TA) : TE := fun σ H Q => t σ H fun vs H1 => rMkC C sp dvs (E σ) vs H1 Q
theorem pe_mD (M : ClM CX X.prog X.w X.K X.mg X.base k C m qual st ps [] [] sp) (c : Cls X.K C) (hr : Room k X.A) (hx : ∀ σ, PassesAt CX X σ (E σ))
    (hB : ∀ (kV doc pm : Value) (an : Option Addr) (cdv ct : Value) (us : List Value), us.length = ps.length → bindArgs (PySem.W.fnOf m qual (defArgs st) (defBody st) (defScope st) .none kV doc pm an cdv ct) ⟨us, []⟩ = pure (ps.zip us))
    (he : PE X o ta) (ha : PA X (e :: es) t)
    (hst : starEach (e :: es) X.env = (false, eval e X.env) :: starEach es X.env := by rfl) (hpl : (backTo pos (starEach es X.env)).any (·.1) = false := by rfl)
    (ht : eval (.Call (.Attribute o m apos) (e :: es) [] pos) X.env = (do
      let ov ← eval o X.env
      standAt apos.atName
      let (f, first) ← holding [ov] (getMethod ov m pl)
      callWith pos f first (backTo pos (starEach (e :: es) X.env)) (backToKw pos (keywordEach [] X.env))) := by rfl) :
    PE X (.Call (.Attribute o m apos) (e :: es) [] pos) (tMethD C m sp [] E ta t) := by
  obtain ⟨f, fd, h1, h2, h4⟩ := M.ex
  refine ⟨fun pins s σ H Q I h => ?_⟩
  refine PySem.W.methodCall_KW (pl := pl) (thn (he.run pins s σ H _ I h) fun u s1 ⟨x, H1, I1, rx, a, dx, fs, ex, ea, l, q⟩ => ?_) ht
  subst ex
  obtain rfl : u = Value.ref a := rx
  refine getmeth_ok I1 ea c h1 l ?_
  refine PySem.W.callWith_K (first := [.ref a]) (h₀ := X.base) I.ok.mod.kin h1.kp (thn (ha.run pos pins s1 σ H1 _ I1 q) fun us s2 ⟨vs, H2, I2, r, q2⟩ => ⟨I2.kIn, ?_⟩) hst hpl
  exact run_fnSD (us := .ref a :: us) (vs := .ref a :: vs) h4 hr (h2.bindsN hB) .nil (hx σ) I2 (.cons rfl r) q2
/-- an object is made -/
theorem pe_mkD (M : ClC CX X.prog X.w X.K X.mg X.base k C qual st ps [] [] sp) (hr : Room (k + 1) X.A) (hg : Gl X x) (hm : X.mg x = some (.ref C)) (hx : ∀ σ, PassesAt CX X σ (E σ))
    (hB : ∀ (kV doc pm : Value) (an : Option Addr) (cdv ct : Value) (us : List Value), us.length = ps.length → bindArgs (PySem.W.fnOf "__init__" qual (defArgs st) (defBody st) (defScope st) .none kV doc pm an cdv ct) ⟨us, []⟩ = pure (ps.zip us))
    (ha : PA X (e :: es) t) (hdb : (x == ("__debug__" : Str)) = false := by decide) (he : starEach (e :: es) X.env = (false, eval e X.env) :: starEach es X.env := by rfl) (hpl : (backTo pos (starEach es X.env)).any (·.1) = false := by rfl) :
    PE X (.Call (.Name x p) (e :: es) [] pos) (tMakeD C sp [] E t) := by
  obtain ⟨f, fd, h1, h2, h4⟩ := M.ex
  refine ⟨fun pins s σ H Q I h => ?_⟩
  refine wpAny_Call_Name_kw (ld_glob I hg hm ?_ hdb)
  refine PySem.W.callWith_K (h₀ := X.base) I.ok.mod.kin h1.kp (thn (ha.run pos pins s σ H _ I h) fun us s1 ⟨vs, H1, I1, r, q⟩ => ⟨I1.kIn, ?_⟩) he hpl
  have hq := q (s1.heap.objs.size + 1) s1.heap.objs.size (I1.hok.fresh (Nat.le_succ _)) (I1.hok.fresh (Nat.le_refl _)) (Nat.ne_of_lt (Nat.lt_succ_self _))
  have I2 := Inv.made (C := C) I1
  have r2 : Vals (V.ref (s1.heap.objs.size + 1) :: (vs ++ [])) (Value.ref (s1.heap.objs.size + 1) :: (us ++ [])) := .cons rfl (r.append .nil)
  have hl : (Value.ref (s1.heap.objs.size + 1) :: us ++ []).length = ps.length := by
    have y := r2.length
    rw [h4.len _ _ _ _ hq] at y
    exact y.symm
  have hbb : BindsTo _ fd { pos := Value.ref (s1.heap.objs.size + 1) :: us } (ps.zip (Value.ref (s1.heap.objs.size + 1) :: (us ++ []))) := h2.bindsN hB _ (Value.ref (s1.heap.objs.size + 1) :: us) I2.kIn hl
  refine wpAny_call (make_map (f := f) I1.kIn h1.makes h1.init (beq_iff_eq.mp h1.fn) (codeAny_mono (h4.run _ X.stack _ _ ⟨Value.ref (s1.heap.objs.size + 1) :: us, []⟩ (Value.ref (s1.heap.objs.size + 1) :: (us ++ [])) _ _ (E σ) (hr.make C us [])
    (I2.env0.make C us []) hbb r2 hq) fun r s' hq' => ?_))
  cases r with
  | error y => exact hx σ pins _ _ y s' I2 hq'
  | ok fl =>
    cases fl with
    | ret u =>
      obtain ⟨v, H', I3, rv, ev, q3⟩ := I2.after hq'
      subst ev
      exact ⟨rv, ⟨V.ref (s1.heap.objs.size + 1), H', I3, rfl, q3⟩⟩
    | next => exact False.elim hq'
    | brk => exact False.elim hq'
    | cont => exact False.elim hq'
end
section
variable {σ : L2.St} {H : Hp} {Q : VK} {C : Addr} {m : Str} {sp : Sp} {dvs : List V} {E : L2.St → XK} {ta : TE} {t : TA}
instance : Step (tMakeD C sp dvs E t σ H Q) (t σ H fun vs H1 => rMkC C sp dvs (E σ) vs H1 Q) := ⟨fun q => q⟩
instance : Step (tMethD C m sp dvs E ta t σ H Q) (ta σ H fun x H1 => rMeth C m sp dvs (E σ) t σ x H1 Q) := ⟨fun q => q⟩
end
section
variable {H : Hp} {Q : VK}
/-- x.split(y) of a text by a text -/
def rSpl : V → List V → Hp → VK → Prop := fun x xs H Q => ∃ a b, x = .str a ∧ xs = [.str b] ∧ (b.length == 0) = false ∧ a.length + 2 ≤ sizeLine ∧ rNewStrs (Txt.split a b) H Q
theorem mtSpl {X : Cx} : MtR X "str.split" rSpl := mt_split
theorem g_split {a b : Str} {ys : List Str} (e : Txt.split a b = ys) (hb : (b.length == 0) = false) (ha : a.length ≤ 1000) (q : ∀ p H2, Nw H p → Ex H H2 → At H2 p (.lst (ys.map V.str)) → Q (.ref p) H2) : rSpl (.str a) [.str b] H Q :=
  ⟨a, b, rfl, rfl, hb, Nat.le_trans (Nat.add_le_add_right ha 2) (by decide), fun p h => by rw [e]; exact q p _ ⟨h⟩ (Ex.mk h) ⟨upd_same⟩⟩
end
end Gx


set_option Elab.async false
set_option linter.all false
set_option maxRecDepth 100000
set_option maxHeartbeats 4000000
set_option pp.deepTerms false
set_option pp.maxSteps 300
namespace Toy
open PySem PySem.Spec PyProof.Rows L2 Gx
open L2H (RoomH roomH_mark cxH)
def top (i : Nat) : Stmt := PySem.Challenge.pw_carrylog_k54_choose_family.main.body.getD i (.Pass ⟨0, 0, 0, 0⟩)
section
variable {P : Program} {w : World} {K : PySem.W.Frag} {mg : Str → Option Value} {base : Heap}

set_option synthInstance.maxHeartbeats 400000
set_option synthInstance.maxSize 4000
local macro_rules | `(tactic| walk_at "szt") => `(tactic| first | assumption | exact Nat.le_of_ble_eq_true rfl | omega | (simp only [List.length_append, List.length_cons, List.length_nil, List.length_map, List.length_replicate, List.length_take, List.length_drop]; omega))
local macro_rules | `(tactic| walk_at "call") => `(tactic| fail)
local macro_rules | `(tactic| walk_at "go1") => `(tactic| first
  | refine Gx.Step.run ?_
  | ((with_reducible show Gx.rAdd _ _ _ _ _); first
    | with_reducible refine Gx.g_addT (by walk_at "szt") ?_
    | (with_reducible refine Gx.g_cat (by walk_at "szt") ?_; intro p_ H_ np_ e_ hp_))
  | ((with_reducible show Gx.rMul _ _ _ _ _); first
    | with_reducible refine Gx.g_mulT (by omega) ?_
    | with_reducible refine Gx.g_mulR (by omega) ?_
    | with_reducible refine Gx.g_mulL (by omega) ?_
    | with_reducible refine Gx.g_mulS (by omega) ?_
    | with_reducible refine Gx.g_mulX (Gx.mulx128 (by omega) (by omega)) ?_)
  | ((with_reducible show Gx.rMod _ _ _ _); with_reducible refine Gx.g_mod (by omega) ?_)
  | ((with_reducible show Gx.rDiv _ _ _ _); with_reducible refine Gx.g_div (Gx.cdivW (by omega) (by omega)) ?_)
  | ((with_reducible show L2.rIx _ _ _ _ _); first
    | with_reducible refine Gx.g_ixL (by with_unfolding_all rfl) ?_
    | with_reducible refine Gx.g_ixIN (by omega) ?_
    | with_reducible refine Gx.g_ixI (by omega) (by omega) ?_
    | with_reducible refine Gx.g_ixTx (by walk_at "szt") (by with_unfolding_all rfl) ?_
    | with_reducible refine Gx.g_ixT (by with_unfolding_all rfl) ?_)
  | ((with_reducible show Gx.rLen _ _ _ _); first
    | with_reducible refine Gx.g_lenT (by walk_at "szt") ?_
    | with_reducible refine Gx.g_len (Gx.len_s (by omega)) ?_)
  | ((with_reducible show Gx.rLstripC _ _ _ _); with_reducible refine Gx.g_lstrip0 (by walk_at "szt") ?_)
  | ((with_reducible show Gx.rStripC _ _ _ _); with_reducible refine Gx.g_strip01 (by walk_at "szt") ?_)
  | ((with_reducible show Gx.rNewL _ _ _); (with_reducible refine Gx.g_newL (by walk_at "szt") ?_; intro p_ H_ np_ e_ hp_))
  | ((with_reducible show Gx.rNewT _ _ _); (with_reducible refine Gx.g_newT (by walk_at "szt") ?_; intro p_ H_ np_ e_ hp_))
  | ((with_reducible show Gx.rSlX _ _ _ _ _ _); first
    | with_reducible refine Gx.g_slT (by walk_at "szt") ?_
    | (with_reducible refine Gx.g_slL ?_; intro p_ H_ np_ e_ hp_))
  | ((with_reducible show Gx.rListOf _ _ _ _); (with_reducible refine Gx.g_listOf ?_; intro p_ H_ np_ e_ hp_))
  | ((with_reducible show Gx.rRevL _ _ _ _); (with_reducible refine Gx.g_revL ?_; intro p_ H_ np_ e_ hp_))
  | ((with_reducible show L2.rSetL _ _ _ _ _); (with_reducible refine Gx.g_setI (by omega) (by omega) ?_; intro H_ e_ hp_))
  | ((with_reducible show L2.rSetL _ _ _ _ _); (with_reducible refine Gx.g_set (by with_unfolding_all rfl) ?_; intro H_ e_ hp_; try simp only [Int.reduceToNat, List.set_cons_zero, List.set_cons_succ] at hp_))
  | ((with_reducible show L2.rAppend _ _ _ _); (with_reducible refine Gx.g_app (by walk_at "szt") ?_; intro H_ e_ hp_))
  | ((with_reducible show Gx.rPow _ _ _ _); with_reducible refine Gx.g_pow (Gx.cpow_ok (by decide) (by decide) (by decide)) (by simp only [Int.reduceToNat, Int.reducePow]; exact rfl) ?_)
  | ((with_reducible show Gx.rApp _ _ _ _); (with_reducible refine Gx.g_rapp (by walk_at "szt") ?_; intro H_ e_ hp_))
  | ((with_reducible show L2.rSum _ _ _ _); (with_reducible refine Gx.g_sum ?_))
  | ((with_reducible show Gx.rStr _ _ _); (with_reducible refine Gx.g_str (by omega) ?_; intro hz_))
  | ((with_reducible show (L2.wipe _ _ = _ ∧ _)); refine ⟨rfl, ?_⟩)
  | ((with_reducible show L2.rAll _ _ _ _); first | refine Gx.g_allT ?_ | refine Gx.g_all ?_)
  | ((with_reducible show (List.length _ = _ ∧ List.length _ = _ ∧ _)); refine ⟨rfl, rfl, ?_⟩)
  | ((with_reducible show L2.gTup _ _ _ _ _ _ _); first
    | (refine Gx.g_pair (by assumption) ?_; intro T_ np_ e_ hp_)
    | refine Gx.g_gtup (by rfl) ?_)
  | walk_at "call")
local macro_rules | `(tactic| walk_at "go") => `(tactic| repeat walk_at "go1")
local macro_rules | `(tactic| walk_at "if1") => `(tactic| first
  | with_reducible refine Gx.g_ite (fun hI => ?_) (fun hI => ?_)
  | with_reducible refine Gx.g_iteN (fun hI => ?_) (fun hI => ?_)
  | with_reducible refine Gx.g_itB (fun hI => ?_) (fun hI => ?_)
  | with_reducible refine Gx.g_itNB (fun hI => ?_) (fun hI => ?_))
local macro_rules | `(tactic| walk_at "dead") => `(tactic| first | (exfalso; omega) | contradiction)
local macro_rules | `(tactic| walk_at "gos") => `(tactic| (walk_at "go"; first | (walk_at "if1" <;> first | walk_at "dead" | walk_at "gos") | skip))


variable {c_Round : Addr}
local macro_rules | `(tactic| walk_at "call") => `(tactic| first
  | ((with_reducible show Gx.rMeth _ _ _ _ _ _ _ _ _ _); refine Gx.g_rmeth (by decide) ?_)
  | ((with_reducible show Gx.rFld _ _ _ _ _); refine Gx.g_fldB (Gx.RdF.c (by assumption)) (Gx.RdF.nb (by assumption)) ?_; intro t_ ht_)
  | ((with_reducible show Gx.rCVal _ _ _ _ _); refine Gx.g_most (by assumption) ?_)
  | ((with_reducible show Gx.rMkR _ _ _ _ _); refine Gx.g_mkR (by omega) (by assumption) ?_; intro a_ H_ np_ e_ hR_)
  | ((with_reducible show Gx.rAdd _ _ _ _ _); refine Gx.g_catT (by omega) ?_; intro p_ H_ e_ hp_)
  | ((with_reducible show Gx.rSlX _ _ _ _ _ _); refine Gx.g_slTup ?_; intro p_ H_ e_ hp_)
  | ((with_reducible show L2.rIx _ _ _ _ _); refine Gx.g_ixTI (by omega) (by omega) ?_)
  | ((with_reducible show Gx.rListOf _ _ _ _); refine Gx.g_listOfT ?_; intro p_ H_ np_ e_ hp_)
  | ((with_reducible show Gx.rTupOf _ _ _ _); refine Gx.g_tupOfL ?_; intro p_ H_ np_ e_ hp_)
  | ((with_reducible show Gx.rDivmod _ _ _); refine Gx.g_divmod (by walk_at "divp") ?_; intro p_ H_ np_ e_ hp_))
local macro_rules | `(tactic| walk_at "call") => `(tactic| ((with_reducible show L2.rIsi _ _ _ _); refine Gx.g_isR (by assumption) ?_))
local macro_rules | `(tactic| walk_at "divp") => `(tactic| exact Gx.cdivP (by omega) (by omega))

def spAtl : Sp := fun vs H Q _ => ∃ (v m : Int) (z : Str), vs = [.int v, .int m, .str z] ∧ m ≤ v ∧ Q .non H
def spWhole : Sp := fun vs H Q _ => ∃ (v : Int) (z : Str), vs = [.int v, .str z] ∧ Q .non H
abbrev s_at_least : Stmt := (top 7)
abbrev N_at_least : List Str := ["value", "least", "field"]
theorem sc_at_least : FnScope N_at_least ["value", "least", "field"] (defScope s_at_least) := ⟨rfl, rfl, rfl, by decide +kernel, rfl, by decide +kernel, by decide +kernel⟩
theorem cl_at_least (T : Bl mg) (R : RdF K mg c_Round) (D : DfG K mg "at_least" s_at_least [] [])  : ClG CX0 P w K mg base 3 "at_least" s_at_least ["value", "least", "field"] [] [] spAtl := by
  have nd := sc_at_least.nd
  refine D.okP sc_at_least (fun vs H Q E h => ?_) (fun f cdv A outer s H vs Q E hr h => ?_)
  · obtain ⟨v, m, z, rfl, _⟩ := h
    rfl
  · obtain ⟨v, m, z, rfl, h, k⟩ := h
    have hu := hu64 hr
    refine ⟨_, (pss_one (ps_if (pt_cmpR opLt (pv 0) (pv 1) (nomark _))
      (pss_one ps_never)
      pss_nil)), ?_⟩
    try dsimp only [L2.cxOf, L2.Cx.nox]
    simp only [L2.start, N_at_least, List.map_cons, List.map_nil, List.length_cons, List.length_nil, Nat.reduceAdd, Nat.reduceSub, List.replicate_succ, List.replicate_zero, List.cons_append, List.nil_append]

    walk_at "gos"
    exact k
abbrev s_whole_number : Stmt := (top 9)
abbrev N_whole_number : List Str := ["value", "field"]
theorem sc_whole_number : FnScope N_whole_number ["value", "field"] (defScope s_whole_number) := ⟨rfl, rfl, rfl, by decide +kernel, rfl, by decide +kernel, by decide +kernel⟩
theorem cl_whole_number (T : Bl mg) (R : RdF K mg c_Round) (D : DfG K mg "whole_number" s_whole_number [] [])  : ClG CX0 P w K mg base 3 "whole_number" s_whole_number ["value", "field"] [] [] spWhole := by
  have nd := sc_whole_number.nd
  refine D.okP sc_whole_number (fun vs H Q E h => ?_) (fun f cdv A outer s H vs Q E hr h => ?_)
  · obtain ⟨v, z, rfl, _⟩ := h
    rfl
  · obtain ⟨v, z, rfl, k⟩ := h
    have hu := hu64 hr
    refine ⟨_, (pss_one (ps_if (PW.pt (pw_or (pt_val (pe_callB (callIsiK (K := K) (by rfl)) (by rfl) T.isinstance (by decide +kernel) (pa_cons (pv 0) (pa_cons (pe_bltn (v := .ty "bool") (by rfl) T.bool (by decide +kernel) rfl) pa_nil)))) (pw_or1 (pt_not (pt_val (pe_callB (callIsiK (K := K) (by rfl)) (by rfl) T.isinstance (by decide +kernel) (pa_cons (pv 0) (pa_cons (pe_bltn (v := .ty "int") (by rfl) T.int (by decide +kernel) rfl) pa_nil))))))))
      (pss_one ps_never)
      pss_nil)), ?_⟩
    try dsimp only [L2.cxOf, L2.Cx.nox]
    simp only [L2.start, N_whole_number, List.map_cons, List.map_nil, List.length_cons, List.length_nil, Nat.reduceAdd, Nat.reduceSub, List.replicate_succ, List.replicate_zero, List.cons_append, List.nil_append]

    walk_at "gos"
    exact k
local macro_rules | `(tactic| walk_at "call") => `(tactic| first
  | ((with_reducible show spAtl _ _ _ _); refine ⟨_, _, _, rfl, by omega, ?_⟩)
  | ((with_reducible show spWhole _ _ _ _); refine ⟨_, _, rfl, ?_⟩))
abbrev s_Round___init__ : Stmt := (inClass (top 50) 1)
abbrev N_Round___init__ : List Str := ["self", "budgets", "budget"]
theorem sc_Round___init__ : FnScope N_Round___init__ ["self", "budgets"] (defScope s_Round___init__) := ⟨rfl, rfl, rfl, by decide +kernel, rfl, by decide +kernel, by decide +kernel⟩
theorem cl_Round___init__ (T : Bl mg) (R : RdF K mg c_Round) (D : DfI K c_Round "Round.__init__" s_Round___init__) (C_at_least : ClG CX0 P w K mg base 3 "at_least" s_at_least ["value", "least", "field"] [] [] spAtl) (C_whole_number : ClG CX0 P w K mg base 3 "whole_number" s_whole_number ["value", "field"] [] [] spWhole) : ClI CX0 P w K mg base 5 c_Round := by
  have nd := sc_Round___init__.nd
  refine D.ok sc_Round___init__ StX.cxUp_none (fun doc pm cdv ct an us rest hl => StX.bind_star1 (B := fun l => bindArgs (PySem.W.fnOf "__init__" "Round.__init__" (defArgs s_Round___init__) (defBody s_Round___init__) (defScope s_Round___init__) .none .none doc pm an cdv ct) ⟨l, []⟩) (fun _ => rfl) (fun _ _ _ => rfl) us rest hl) (fun f cdv A outer s H vs Q E hr h => ?_)
  · obtain ⟨a, dx, t, bs, rfl, ⟨ha, ht, h1, h2, h0⟩, k⟩ := h
    have hu := hu64 hr
    refine Gx.ex_nox ⟨_, (pss_cons (ps_if (pt_not (pt_chain opLe opLe pe_int (pe_callB (callLenK (K := K) (by rfl)) (by rfl) T.len (by decide +kernel) (pa_cons (pv 1) pa_nil)) (_root_.ClX.pe_cval (pe_glob (v := .ref c_Round) (u := .ref c_Round) (by rfl) R.g rfl))))
      (pss_one ps_never)
      pss_nil)
    (pss_cons (ps_for PassesOwn.never rfl (pi_tupK (K := K) (by rfl) (pv 1)) (pg_name (i := 2) nd rfl (Or.inl rfl))
      (pss_cons (ps_expr (pe_g C_whole_number (by exact hr.mono (by decide)) (E := fun _ => E0) (fun σ => passC0 σ) (fun _ _ _ _ _ _ us hl => match us, hl with | [_, _], _ => rfl) (pa_cons (pv 2) (pa_cons pe_str pa_nil))))
    (pss_one (ps_expr (pe_g C_at_least (by exact hr.mono (by decide)) (E := fun _ => E0) (fun σ => passC0 σ) (fun _ _ _ _ _ _ us hl => match us, hl with | [_, _, _], _ => rfl) (pa_cons (pv 2) (pa_cons pe_int (pa_cons pe_str pa_nil))))))))
    (pss_one (ps_fld (pv 0) (pe_callTy (callTupOfK (K := K) (by rfl)) (by rfl) T.tuple (by decide +kernel) (pa_cons (pv 1) pa_nil)) rfl)))), ?_⟩
    try dsimp only [L2.cxOf, L2.Cx.nox]
    simp only [L2.start, N_Round___init__, List.map_cons, List.map_nil, List.length_cons, List.length_nil, Nat.reduceAdd, Nat.reduceSub, List.replicate_succ, List.replicate_zero, List.cons_append, List.nil_append]

    walk_at "gos"
    refine Gx.forT [] (fun i σ' H' => ∃ s2, σ' = [some (.ref a), some (.ref t), s2]) ⟨_, rfl⟩ ?_ ?_
    · rintro i x σ' H' hx e ⟨s2, rfl⟩
      obtain ⟨m, hm, rfl⟩ := Gx.map_at hx
      have h3 := h0 m (List.mem_of_getElem? hm)
      walk_at "gos"
      exact Gx.li ⟨_, rfl⟩
    · rintro σ' H' e ⟨s2, rfl⟩
      have ha' := e.keep a _ (by simp) ha
      walk_at "go"
      refine Gx.g_fldS ha' R ?_
      refine k _ (fun b o hb h => ?_) (fun b hb => ?_) upd_same
      · rw [upd_ne hb]; exact e.keep b o (by simp) h
      · refine e.live b ?_
        by_cases z : b = a
        · rw [z, upd_same] at hb; cases hb
        · rw [upd_ne z] at hb; exact hb
/-! ### rounds, plainly -/
/-- the sum of c budgets from s on -/
def win (bs : List Int) (s c : Int) : Int := c / (bs.length : Int) * bs.sum + (((bs ++ bs).drop (s % (bs.length : Int)).toNat).take (c % (bs.length : Int)).toNat).sum
structure RB (bs : List Int) : Prop where
  l1 : 1 ≤ bs.length
  l2 : bs.length ≤ 12
  h0 : ∀ b ∈ bs, 0 ≤ b
  h1 : ∀ b ∈ bs, b < 2 ^ 110
def spWin (C : Addr) : Sp := fun vs H Q _ => ∃ (a : Addr) (bs : List Int) (s c : Int), vs = [.ref a, .int s, .int c] ∧ (RdC C H a bs ∧ RB bs ∧ 0 ≤ s ∧ s < 2 ^ 200 ∧ 0 ≤ c ∧ c < 2 ^ 200) ∧ ∀ H', Ex H H' → Q (.int (win bs s c)) H'
theorem sum_app (a b : List Int) : (a ++ b).sum = a.sum + b.sum := by simp
theorem sum_bd : ∀ {bs : List Int} {m : Int}, (∀ b ∈ bs, 0 ≤ b) → (∀ b ∈ bs, b < m) → 0 ≤ m → 0 ≤ bs.sum ∧ bs.sum ≤ bs.length * m
  | [], m, _, _, h => by simp
  | b :: r, m, h0, h1, h => by
    have h2 := sum_bd (bs := r) (m := m) (fun x hx => h0 x (List.mem_cons_of_mem _ hx)) (fun x hx => h1 x (List.mem_cons_of_mem _ hx)) h
    have h3 := h0 b (List.mem_cons_self ..)
    have h4 := h1 b (List.mem_cons_self ..)
    rw [List.sum_cons, List.length_cons]
    have e : ((r.length + 1 : Nat) : Int) * m = r.length * m + m := by
      rw [show ((r.length + 1 : Nat) : Int) = (r.length : Int) + 1 from rfl, Int.add_mul, Int.one_mul]
    omega
theorem RB.sum {bs : List Int} (h : RB bs) : 0 ≤ bs.sum ∧ bs.sum < 2 ^ 120 := by
  have h2 := sum_bd h.h0 h.h1 (by decide)
  have l2 := h.l2
  have : (bs.length : Int) * 2 ^ 110 ≤ 12 * 2 ^ 110 := Int.mul_le_mul_of_nonneg_right (by omega) (by decide)
  omega
theorem cutI_two {ns : List Int} {i j : Int} (hi : 0 ≤ i) (hj : 0 ≤ j) : Gx.cutI ns (some i) (some (i + j)) = (ns.drop i.toNat).take j.toNat := by
  obtain ⟨a, rfl⟩ : ∃ a : Nat, i = a := ⟨i.toNat, by omega⟩
  obtain ⟨b, rfl⟩ : ∃ b : Nat, j = b := ⟨j.toNat, by omega⟩
  unfold Gx.cutI
  rw [show ((a : Nat) : Int) + ((b : Nat) : Int) = ((a + b : Nat) : Int) from rfl, HT.sIx_nat, HT.sIx_nat, Int.toNat_natCast, Int.toNat_natCast]
  by_cases h : a ≤ ns.length
  · rw [Nat.min_eq_left h]
    by_cases h2 : a + b ≤ ns.length
    · rw [Nat.min_eq_left h2, Nat.add_sub_cancel_left]
    · rw [Nat.min_eq_right (by omega), List.take_of_length_le (by simp), List.take_of_length_le (by simp; omega)]
  · rw [List.drop_eq_nil_of_le (by omega), List.drop_eq_nil_of_le (by omega)]
    simp
theorem cutI_from {ns : List Int} {i : Int} (hi : 0 ≤ i) : Gx.cutI ns (some i) none = ns.drop i.toNat := by
  obtain ⟨a, rfl⟩ : ∃ a : Nat, i = a := ⟨i.toNat, by omega⟩
  unfold Gx.cutI
  rw [HT.sIx_nat, HT.sIx_none, Int.toNat_natCast]
  by_cases h : a ≤ ns.length
  · rw [Nat.min_eq_left h, List.take_of_length_le (by simp)]
  · rw [List.drop_eq_nil_of_le (by omega), List.drop_eq_nil_of_le (by omega)]
    simp
theorem cutI_to {ns : List Int} {i : Int} (hi : 0 ≤ i) : Gx.cutI ns none (some i) = ns.take i.toNat := by
  obtain ⟨a, rfl⟩ : ∃ a : Nat, i = a := ⟨i.toNat, by omega⟩
  unfold Gx.cutI
  rw [HT.sIx_nat, HT.sIx_none, Int.toNat_natCast, List.drop_zero, Nat.sub_zero]
  by_cases h : a ≤ ns.length
  · rw [Nat.min_eq_left h]
  · rw [Nat.min_eq_right (by omega), List.take_of_length_le (Nat.le_refl _), List.take_of_length_le (by omega)]
theorem modb {s n : Int} (h : 0 < n) : 0 ≤ s % n ∧ s % n < n := ⟨Int.emod_nonneg _ (by omega), Int.emod_lt_of_pos _ h⟩
theorem divb {c n : Int} (h : 0 ≤ c) (hn : 0 < n) : 0 ≤ c / n ∧ c / n ≤ c := ⟨Int.ediv_nonneg h (by omega), Int.ediv_le_self _ h⟩
abbrev s_Round__window : Stmt := (inClass (top 50) 13)
abbrev N_Round__window : List Str := ["self", "start", "count", "turns", "rest", "first", "twice"]
theorem sc_Round__window : FnScope N_Round__window ["self", "start", "count"] (defScope s_Round__window) := ⟨rfl, rfl, rfl, by decide +kernel, rfl, by decide +kernel, by decide +kernel⟩
theorem cl_Round__window (T : Bl mg) (R : RdF K mg c_Round) (D : DfM K c_Round "_window" "Round._window" s_Round__window [] [])  : ClM CX0 P w K mg base 3 c_Round "_window" "Round._window" s_Round__window ["self", "start", "count"] [] [] (spWin c_Round) := by
  have nd := sc_Round__window.nd
  refine D.okP sc_Round__window (fun vs H Q E h => ?_) (fun f cdv A outer s H vs Q E hr h => ?_)
  · obtain ⟨a, bs, s, c, rfl, _⟩ := h
    rfl
  · obtain ⟨a, bs, s, c, rfl, ⟨ha, hB, h1, h2, h3, h4⟩, k⟩ := h
    have hu := hu64 hr
    refine ⟨_, (pss_cons (ps_asg (pe_callB callDivmod (by rfl) T.divmod (by decide +kernel) (pa_cons (pv 2) (pa_cons (pe_callB (callLenK (K := K) (by rfl)) (by rfl) T.len (by decide +kernel) (pa_cons (pe_fld (pv 0) rfl) pa_nil)) pa_nil))) (pg_tup rfl (pgs_cons (pg_name (i := 3) nd rfl (Or.inl rfl)) (pgs_cons (pg_name (i := 4) nd rfl (Or.inl rfl)) pgs_nil))))
    (pss_cons (ps_set (i := 5) nd rfl (Or.inl rfl) (pe_op opMod (pv 1) (pe_callB (callLenK (K := K) (by rfl)) (by rfl) T.len (by decide +kernel) (pa_cons (pe_fld (pv 0) rfl) pa_nil))))
    (pss_cons (ps_set (i := 6) nd rfl (Or.inl rfl) (pe_op (opAddK (K := K) (by rfl)) (pe_fld (pv 0) rfl) (pe_fld (pv 0) rfl)))
    (pss_one (ps_ret (pe_op (opAddK (K := K) (by rfl)) (pe_op (opMulK (K := K) (by rfl)) (pv 3) (pe_callB (callSumXK (K := K) (by rfl) rfl) (by rfl) T.sum (by decide +kernel) (pa_cons (pe_fld (pv 0) rfl) pa_nil))) (pe_callB (callSumXK (K := K) (by rfl) rfl) (by rfl) T.sum (by decide +kernel) (pa_cons (pe_slice (slAnyK (K := K) (by rfl)) (pv 6) (po_some (pv 5)) (po_some (pe_op (opAddK (K := K) (by rfl)) (pv 5) (pv 4)))) pa_nil)))))))), ?_⟩
    try dsimp only [L2.cxOf, L2.Cx.nox]
    simp only [L2.start, N_Round__window, List.map_cons, List.map_nil, List.length_cons, List.length_nil, Nat.reduceAdd, Nat.reduceSub, List.replicate_succ, List.replicate_zero, List.cons_append, List.nil_append]

    have l1 := hB.l1
    have l2 := hB.l2
    have hs := hB.sum
    have hm1 := modb (s := s) (n := bs.length) (by omega)
    have hm2 := modb (s := c) (n := bs.length) (by omega)
    have hd := divb (n := bs.length) h3 (by omega)
    walk_at "gos"
    rw [cutI_two hm1.1 hm2.1]
    exact k _ Gx.rel
local macro_rules | `(tactic| walk_at "call") => `(tactic| ((with_reducible show spWin _ _ _ _ _); refine ⟨_, _, _, _, rfl, ⟨inferInstance, by assumption, by omega, by omega, by omega, by omega⟩, ?_⟩; intro H_ e_))
abbrev s_Round_total : Stmt := (inClass (top 50) 9)
abbrev N_Round_total : List Str := ["self", "start", "count"]
theorem sc_Round_total : FnScope N_Round_total ["self", "start", "count"] (defScope s_Round_total) := ⟨rfl, rfl, rfl, by decide +kernel, rfl, by decide +kernel, by decide +kernel⟩
theorem cl_Round_total (T : Bl mg) (R : RdF K mg c_Round) (D : DfM K c_Round "total" "Round.total" s_Round_total [] []) (C_Round__window : ClM CX0 P w K mg base 3 c_Round "_window" "Round._window" s_Round__window ["self", "start", "count"] [] [] (spWin c_Round)) (C_at_least : ClG CX0 P w K mg base 3 "at_least" s_at_least ["value", "least", "field"] [] [] spAtl) : ClM CX0 P w K mg base 5 c_Round "total" "Round.total" s_Round_total ["self", "start", "count"] [] [] (spWin c_Round) := by
  have nd := sc_Round_total.nd
  refine D.okP sc_Round_total (fun vs H Q E h => ?_) (fun f cdv A outer s H vs Q E hr h => ?_)
  · obtain ⟨a, bs, s, c, rfl, _⟩ := h
    rfl
  · obtain ⟨a, bs, s, c, rfl, ⟨ha, hB, h1, h2, h3, h4⟩, k⟩ := h
    have hu := hu64 hr
    refine ⟨_, (pss_cons (ps_expr (pe_g C_at_least (by exact hr.mono (by decide)) (E := fun _ => E0) (fun σ => passC0 σ) (fun _ _ _ _ _ _ us hl => match us, hl with | [_, _, _], _ => rfl) (pa_cons (pv 1) (pa_cons pe_int (pa_cons pe_str pa_nil)))))
    (pss_cons (ps_expr (pe_g C_at_least (by exact hr.mono (by decide)) (E := fun _ => E0) (fun σ => passC0 σ) (fun _ _ _ _ _ _ us hl => match us, hl with | [_, _, _], _ => rfl) (pa_cons (pv 2) (pa_cons pe_int (pa_cons pe_str pa_nil)))))
    (pss_one (ps_ret (pe_m C_Round__window R.c (by exact hr.mono (by decide)) pass0 (fun _ _ _ _ _ _ us hl => match us, hl with | [_, _, _], _ => rfl) (pv 0) (pa_cons (pv 1) (pa_cons (pv 2) pa_nil))))))), ?_⟩
    try dsimp only [L2.cxOf, L2.Cx.nox]
    simp only [L2.start, N_Round_total, List.map_cons, List.map_nil, List.length_cons, List.length_nil, Nat.reduceAdd, Nat.reduceSub, List.replicate_succ, List.replicate_zero, List.cons_append, List.nil_append]

    walk_at "gos"
    exact k _ Gx.rel
def wins (bs : List Int) (c : Int) : List Int := (List.range bs.length).map fun i => win bs (i : Nat) c
def spWins (C : Addr) : Sp := fun vs H Q _ => ∃ (a : Addr) (bs : List Int) (c : Int), vs = [.ref a, .int c] ∧ (RdC C H a bs ∧ RB bs ∧ 0 ≤ c ∧ c < 2 ^ 200) ∧ ∀ p H', Nw H p → Ex H H' → At H' p (.lst ((wins bs c).map V.int)) → Q (.ref p) H'
abbrev s_Round__windows : Stmt := (inClass (top 50) 14)
abbrev N_Round__windows : List Str := ["self", "count", "start"]
theorem sc_Round__windows : FnScope N_Round__windows ["self", "count"] (defScope s_Round__windows) := ⟨rfl, rfl, rfl, by decide +kernel, rfl, by decide +kernel, by decide +kernel⟩
theorem cl_Round__windows (T : Bl mg) (R : RdF K mg c_Round) (D : DfM K c_Round "_windows" "Round._windows" s_Round__windows [] []) (C_Round__window : ClM CX0 P w K mg base 3 c_Round "_window" "Round._window" s_Round__window ["self", "start", "count"] [] [] (spWin c_Round)) : ClM CX0 P w K mg base 5 c_Round "_windows" "Round._windows" s_Round__windows ["self", "count"] [] [] (spWins c_Round) := by
  have nd := sc_Round__windows.nd
  refine D.okP sc_Round__windows (fun vs H Q E h => ?_) (fun f cdv A outer s H vs Q E hr h => ?_)
  · obtain ⟨a, bs, c, rfl, _⟩ := h
    rfl
  · obtain ⟨a, bs, c, rfl, ⟨ha, hB, h3, h4⟩, k⟩ := h
    have hu := hu64 hr
    refine ⟨_, (pss_one (ps_ret (pe_lc (own := [("start", 2)]) (g := gName 2) rfl nd (pi_range1 rfl T.range (pa_cons (pe_callB (callLenK (K := K) (by rfl)) (by rfl) T.len (by decide +kernel) (pa_cons (pe_fld (pv 0) rfl) pa_nil)) pa_nil)) (blkOk_by (own := [("start", 2)]) (N := N_Round__windows) (sc := defScope s_Round__windows) (by decide +kernel)) (fun _ _ _ _ _ => (pg_name (i := 2) nd rfl (Or.inl rfl))) (fun _ _ _ _ _ => pts_nil) (fun _ _ _ _ _ => (pe_m C_Round__window R.c (by exact hr.mono (by decide)) pass0 (fun _ _ _ _ _ _ us hl => match us, hl with | [_, _, _], _ => rfl) (pv 0) (pa_cons (pv 2) (pa_cons (pv 1) pa_nil))))))), ?_⟩
    try dsimp only [L2.cxOf, L2.Cx.nox]
    simp only [L2.start, N_Round__windows, List.map_cons, List.map_nil, List.length_cons, List.length_nil, Nat.reduceAdd, Nat.reduceSub, List.replicate_succ, List.replicate_zero, List.cons_append, List.nil_append]

    have l1 := hB.l1
    have l2 := hB.l2
    walk_at "gos"
    refine Gx.lc1_F (fun i => ((List.range i).map fun i => win bs (i : Nat) c).map V.int) (by omega) rfl (fun i hi => by simp; omega) (fun D i H' hi hD e hp hz => ?_) (fun D H' hD e hp => ?_)
    · walk_at "gos"
      refine ⟨Gx.rel, ?_⟩
      rw [List.range_succ, List.map_append, List.map_append]
      rfl
    · rw [Int.toNat_natCast] at hp
      exact k D H' Gx.new Gx.rel hp
local macro_rules | `(tactic| walk_at "call") => `(tactic| ((with_reducible show spWins _ _ _ _ _); refine ⟨_, _, _, rfl, ⟨inferInstance, by assumption, by omega, by omega⟩, ?_⟩; intro p_ H_ np_ e_ hp_))
/-- the least of a list -/
def IsMin (ns : List Int) (m : Int) : Prop := m ∈ ns ∧ ∀ y ∈ ns, m ≤ y
theorem IsMin.uniq {ns : List Int} {m n : Int} (h : IsMin ns m) (k : IsMin ns n) : m = n := Int.le_antisymm (h.2 n k.1) (k.2 m h.1)
theorem exists_min : ∀ {ns : List Int}, ns ≠ [] → ∃ m, IsMin ns m
  | [], h => absurd rfl h
  | [a], _ => ⟨a, by simp, by simp⟩
  | a :: b :: r, _ => by
    obtain ⟨m, h1, h2⟩ := exists_min (ns := b :: r) (by simp)
    by_cases z : a ≤ m
    · exact ⟨a, List.mem_cons_self .., fun y hy => (List.mem_cons.mp hy).elim (fun e => by omega) (fun e => Int.le_trans z (h2 y e))⟩
    · exact ⟨m, List.mem_cons_of_mem _ h1, fun y hy => (List.mem_cons.mp hy).elim (fun e => by omega) (fun e => h2 y e)⟩
theorem wins_ne {bs : List Int} {c : Int} (h : RB bs) : wins bs c ≠ [] := by
  intro e
  have := congrArg List.length e
  have l1 := h.l1
  simp [wins] at this
  rw [this] at l1
  simp at l1
noncomputable def least (bs : List Int) (c : Int) : Int := Classical.epsilon fun m => IsMin (wins bs c) m
theorem least_is {bs : List Int} {c : Int} (h : RB bs) : IsMin (wins bs c) (least bs c) := Classical.epsilon_spec (exists_min (wins_ne h))
theorem least_eq {bs : List Int} {c m : Int} (h : RB bs) (k : IsMin (wins bs c) m) : m = least bs c := k.uniq (least_is h)
theorem g_min {K : PySem.W.Frag} {H : Hp} {Q : VK} {p : Addr} {ns : List Int} [h : SqC K H p (ns.map V.int)] (h0 : 0 < ns.length) (q : ∀ m, IsMin ns m → Q (.int m) H) : rMin K [.ref p] H Q := ⟨p, ns, rfl, h.sq, h0, fun m h1 h2 => q m ⟨h1, h2⟩⟩
theorem wins_len {bs : List Int} {c : Int} : (wins bs c).length = bs.length := by simp [wins]
def spLst (C : Addr) : Sp := fun vs H Q _ => ∃ (a : Addr) (bs : List Int) (c : Int), vs = [.ref a, .int c] ∧ (RdC C H a bs ∧ RB bs ∧ 0 ≤ c ∧ c < 2 ^ 200) ∧ ∀ H', Ex H H' → Q (.int (least bs c)) H'
abbrev s_Round_least : Stmt := (inClass (top 50) 10)
abbrev N_Round_least : List Str := ["self", "count"]
theorem sc_Round_least : FnScope N_Round_least ["self", "count"] (defScope s_Round_least) := ⟨rfl, rfl, rfl, by decide +kernel, rfl, by decide +kernel, by decide +kernel⟩
theorem cl_Round_least (T : Bl mg) (R : RdF K mg c_Round) (D : DfM K c_Round "least" "Round.least" s_Round_least [] []) (C_Round__windows : ClM CX0 P w K mg base 5 c_Round "_windows" "Round._windows" s_Round__windows ["self", "count"] [] [] (spWins c_Round)) (C_at_least : ClG CX0 P w K mg base 3 "at_least" s_at_least ["value", "least", "field"] [] [] spAtl) : ClM CX0 P w K mg base 7 c_Round "least" "Round.least" s_Round_least ["self", "count"] [] [] (spLst c_Round) := by
  have nd := sc_Round_least.nd
  refine D.okP sc_Round_least (fun vs H Q E h => ?_) (fun f cdv A outer s H vs Q E hr h => ?_)
  · obtain ⟨a, bs, c, rfl, _⟩ := h
    rfl
  · obtain ⟨a, bs, c, rfl, ⟨ha, hB, h3, h4⟩, k⟩ := h
    have hu := hu64 hr
    refine ⟨_, (pss_cons (ps_expr (pe_g C_at_least (by exact hr.mono (by decide)) (E := fun _ => E0) (fun σ => passC0 σ) (fun _ _ _ _ _ _ us hl => match us, hl with | [_, _, _], _ => rfl) (pa_cons (pv 1) (pa_cons pe_int (pa_cons pe_str pa_nil)))))
    (pss_one (ps_ret (pe_callB (callMinK (K := K) (by rfl) rfl) (by rfl) T.min (by decide +kernel) (pa_cons (pe_m C_Round__windows R.c (by exact hr.mono (by decide)) pass0 (fun _ _ _ _ _ _ us hl => match us, hl with | [_, _], _ => rfl) (pv 0) (pa_cons (pv 1) pa_nil)) pa_nil))))), ?_⟩
    try dsimp only [L2.cxOf, L2.Cx.nox]
    simp only [L2.start, N_Round_least, List.map_cons, List.map_nil, List.length_cons, List.length_nil, Nat.reduceAdd, Nat.reduceSub, List.replicate_succ, List.replicate_zero, List.cons_append, List.nil_append]

    have l1 := hB.l1
    walk_at "gos"
    refine g_min (by rw [wins_len]; omega) fun m hm => ?_
    rw [least_eq hB hm]
    exact k _ Gx.rel
local macro_rules | `(tactic| walk_at "call") => `(tactic| ((with_reducible show spLst _ _ _ _ _); refine ⟨_, _, _, rfl, ⟨inferInstance, by assumption, by omega, by omega⟩, ?_⟩; intro H_ e_))

/-- the first place of m -/
def FirstIx (ns : List Int) (m : Int) (j : Nat) : Prop := ns[j]? = some m ∧ ∀ i, i < j → ns[i]? ≠ some m
theorem FirstIx.uniq {ns : List Int} {m : Int} {i j : Nat} (h : FirstIx ns m i) (k : FirstIx ns m j) : i = j := by
  rcases Nat.lt_trichotomy i j with z | z | z
  · exact absurd h.1 (k.2 i z)
  · exact z
  · exact absurd k.1 (h.2 j z)
theorem firstIx_ex : ∀ {ns : List Int} {m : Int}, m ∈ ns → ∃ j, FirstIx ns m j
  | [], m, h => by cases h
  | a :: r, m, h => by
    by_cases z : a = m
    · exact ⟨0, by rw [z]; rfl, fun i hi => absurd hi (Nat.not_lt_zero _)⟩
    · obtain ⟨j, h1, h2⟩ := firstIx_ex (ns := r) (m := m) ((List.mem_cons.mp h).resolve_left fun e => z e.symm)
      refine ⟨j + 1, h1, fun i hi => ?_⟩
      cases i with
      | zero => intro e; exact z (Option.some.inj e)
      | succ i => exact h2 i (by omega)
theorem g_index {K : PySem.W.Frag} {H : Hp} {Q : VK} {p : Addr} {ns : List Int} {m : Int} [h : SqC K H p (ns.map V.int)] (hm : m ∈ ns) (q : ∀ j, FirstIx ns m j → Q (.int (j : Nat)) H) : rIndex K (.ref p) [.int m] H Q := by
  obtain ⟨j, h1, h2⟩ := firstIx_ex hm
  refine ⟨p, ns.map V.int, .int m, j, .int m, rfl, rfl, h.sq, rfl, ?_, by rw [List.getElem?_map, h1]; rfl, by simp [eqV], fun i z hi hz => ?_, q j ⟨h1, h2⟩⟩
  · rw [List.all_map]
    exact List.all_eq_true.mpr fun _ _ => rfl
  · rw [List.getElem?_map] at hz
    cases e : ns[i]? with
    | none => rw [e] at hz; cases hz
    | some v =>
      rw [e] at hz
      cases hz
      show (v == m) = false
      rw [beq_eq_false_iff_ne]
      intro x
      rw [x] at e
      exact h2 i hi e
def spWst (C : Addr) : Sp := fun vs H Q _ => ∃ (a : Addr) (bs : List Int) (c : Int), vs = [.ref a, .int c] ∧ (RdC C H a bs ∧ RB bs ∧ 0 ≤ c ∧ c < 2 ^ 200) ∧ ∀ j H', Ex H H' → FirstIx (wins bs c) (least bs c) j → Q (.int (j : Nat)) H'
local macro_rules | `(tactic| walk_at "call") => `(tactic| ((with_reducible show spWst _ _ _ _ _); refine ⟨_, _, _, rfl, ⟨inferInstance, by assumption, by omega, by omega⟩, ?_⟩; intro j_ H_ e_ hj_))
theorem win_round {bs : List Int} {s c t : Int} (h : RB bs) : win bs s (t * bs.length + c) = t * bs.sum + win bs s c := by
  have l1 := h.l1
  unfold win
  rw [show t * (bs.length : Int) + c = c + (bs.length : Int) * t from by rw [Int.mul_comm, Int.add_comm], Int.add_mul_ediv_left _ _ (by omega), Int.add_mul_emod_self_left, Int.add_mul, ← Int.add_assoc, Int.add_comm (c / (bs.length : Int) * bs.sum)]
theorem wins_round {bs : List Int} {c t : Int} (h : RB bs) : wins bs (t * bs.length + c) = (wins bs c).map fun x => t * bs.sum + x := by
  unfold wins
  rw [List.map_map]
  exact List.map_congr_left fun i _ => win_round h
theorem least_round {bs : List Int} {c t : Int} (h : RB bs) : least bs (t * bs.length + c) = t * bs.sum + least bs c := by
  refine (least_eq h ?_).symm
  rw [wins_round h]
  obtain ⟨h1, h2⟩ := least_is (c := c) h
  refine ⟨List.mem_map.mpr ⟨_, h1, rfl⟩, fun y hy => ?_⟩
  obtain ⟨x, hx, rfl⟩ := List.mem_map.mp hy
  have := h2 x hx
  omega
theorem win_zero {bs : List Int} {s : Int} : win bs s 0 = 0 := by simp [win]
theorem least_zero {bs : List Int} (h : RB bs) : least bs 0 = 0 := by
  obtain ⟨h1, h2⟩ := least_is (c := 0) h
  obtain ⟨i, _, hi⟩ := List.mem_map.mp h1
  rw [← hi, win_zero]
theorem least_len {bs : List Int} (h : RB bs) : least bs bs.length = bs.sum := by
  have e := least_round (t := 1) (c := 0) h
  rw [least_zero h] at e
  simpa using e
/-- reach's answer: what it must satisfy -/
def spReach (C : Addr) : Sp := fun vs H Q _ => ∃ (a : Addr) (bs : List Int) (n : Int), vs = [.ref a, .int n] ∧ (RdC C H a bs ∧ RB bs ∧ -(2 ^ 140) < n ∧ n < 2 ^ 140) ∧ (n ≤ 0 → Q (.int 0) H) ∧ (0 < n → bs.sum = 0 → Q .non H) ∧
  (0 < n → bs.sum ≠ 0 → ∀ r H', Ex H H' → 1 ≤ r → r < 2 ^ 150 → n ≤ least bs r → least bs (r - 1) < n → Q (.int r) H')
local macro_rules | `(tactic| walk_at "call") => `(tactic| ((with_reducible show spReach _ _ _ _ _); refine ⟨_, _, _, rfl, ⟨inferInstance, by assumption, by omega, by omega⟩, fun hA => ?_, fun hA hB => ?_, fun hA hB r_ H_ e_ h1_ h2_ h3_ h4_ => ?_⟩))
def nth (bs : List Int) (t : Int) : Int := bs.getD (t % (bs.length : Int)).toNat 0
def spAt (C : Addr) : Sp := fun vs H Q _ => ∃ (a : Addr) (bs : List Int) (t : Int), vs = [.ref a, .int t] ∧ (RdC C H a bs ∧ RB bs ∧ 0 ≤ t) ∧ Q (.int (nth bs t)) H
abbrev s_Round_at : Stmt := (inClass (top 50) 7)
abbrev N_Round_at : List Str := ["self", "t"]
theorem sc_Round_at : FnScope N_Round_at ["self", "t"] (defScope s_Round_at) := ⟨rfl, rfl, rfl, by decide +kernel, rfl, by decide +kernel, by decide +kernel⟩
theorem cl_Round_at (T : Bl mg) (R : RdF K mg c_Round) (D : DfM K c_Round "at" "Round.at" s_Round_at [] []) (C_at_least : ClG CX0 P w K mg base 3 "at_least" s_at_least ["value", "least", "field"] [] [] spAtl) : ClM CX0 P w K mg base 5 c_Round "at" "Round.at" s_Round_at ["self", "t"] [] [] (spAt c_Round) := by
  have nd := sc_Round_at.nd
  refine D.okP sc_Round_at (fun vs H Q E h => ?_) (fun f cdv A outer s H vs Q E hr h => ?_)
  · obtain ⟨a, bs, t, rfl, _⟩ := h
    rfl
  · obtain ⟨a, bs, t, rfl, ⟨ha, hB, h3⟩, k⟩ := h
    have hu := hu64 hr
    refine ⟨_, (pss_cons (ps_expr (pe_g C_at_least (by exact hr.mono (by decide)) (E := fun _ => E0) (fun σ => passC0 σ) (fun _ _ _ _ _ _ us hl => match us, hl with | [_, _, _], _ => rfl) (pa_cons (pv 1) (pa_cons pe_int (pa_cons pe_str pa_nil)))))
    (pss_one (ps_ret (pe_ix (ixSeqK (K := K) (by rfl)) (pe_fld (pv 0) rfl) (pe_op opMod (pv 1) (pe_callB (callLenK (K := K) (by rfl)) (by rfl) T.len (by decide +kernel) (pa_cons (pe_fld (pv 0) rfl) pa_nil))) (fun _ _ => rfl))))), ?_⟩
    try dsimp only [L2.cxOf, L2.Cx.nox]
    simp only [L2.start, N_Round_at, List.map_cons, List.map_nil, List.length_cons, List.length_nil, Nat.reduceAdd, Nat.reduceSub, List.replicate_succ, List.replicate_zero, List.cons_append, List.nil_append]

    have l1 := hB.l1
    have hm := modb (s := t) (n := bs.length) (by omega)
    walk_at "gos"
    exact k
local macro_rules | `(tactic| walk_at "call") => `(tactic| ((with_reducible show spAt _ _ _ _ _); refine ⟨_, _, _, rfl, ⟨inferInstance, by assumption, by omega⟩, ?_⟩))
def turn (bs : List Int) (f : Int) : List Int := bs.drop (f % (bs.length : Int)).toNat ++ bs.take (f % (bs.length : Int)).toNat
theorem turn_mem {bs : List Int} {f x : Int} (h : x ∈ turn bs f) : x ∈ bs := (List.mem_append.mp h).elim List.mem_of_mem_drop List.mem_of_mem_take
theorem turn_len {bs : List Int} {f : Int} : (turn bs f).length = bs.length := by
  unfold turn
  rw [List.length_append, List.length_drop, List.length_take]
  omega
theorem RB.turn {bs : List Int} {f : Int} (h : RB bs) : RB (turn bs f) := ⟨by rw [turn_len]; exact h.l1, by rw [turn_len]; exact h.l2, fun b hb => h.h0 b (turn_mem hb), fun b hb => h.h1 b (turn_mem hb)⟩
def spShift (C : Addr) : Sp := fun vs H Q _ => ∃ (a : Addr) (bs : List Int) (f : Int), vs = [.ref a, .int f] ∧ (RdC C H a bs ∧ RB bs ∧ 0 ≤ f) ∧ ∀ b H', Nw H b → Ex H H' → RdC C H' b (turn bs f) → Q (.ref b) H'
local macro_rules | `(tactic| walk_at "call") => `(tactic| ((with_reducible show spShift _ _ _ _ _); refine ⟨_, _, _, rfl, ⟨inferInstance, by assumption, by omega⟩, ?_⟩; intro b_ H_ np_ e_ hb_))
def spBud (C : Addr) : Sp := fun vs H Q _ => ∃ (a : Addr) (bs : List Int), vs = [.ref a] ∧ RdC C H a bs ∧ ∀ b H', Nw H b → Ex H H' → At H' b (.lst (bs.map V.int)) → Q (.ref b) H'
abbrev s_Round_budgets : Stmt := (inClass (top 50) 3)
abbrev N_Round_budgets : List Str := ["self"]
theorem sc_Round_budgets : FnScope N_Round_budgets ["self"] (defScope s_Round_budgets) := ⟨rfl, rfl, rfl, by decide +kernel, rfl, by decide +kernel, by decide +kernel⟩
theorem cl_Round_budgets (T : Bl mg) (R : RdF K mg c_Round) (D : DfP K c_Round "budgets" "Round.budgets" s_Round_budgets)  : ClP CX0 P w K mg base 3 c_Round "budgets" "Round.budgets" s_Round_budgets (spBud c_Round) := by
  have nd := sc_Round_budgets.nd
  refine D.okP sc_Round_budgets (fun vs H Q E h => ?_) (fun f cdv A outer s H vs Q E hr h => ?_)
  · obtain ⟨a, bs, rfl, _⟩ := h
    rfl
  · obtain ⟨a, bs, rfl, ha, k⟩ := h
    have hu := hu64 hr
    refine ⟨_, (pss_one (ps_ret (pe_callTy (callListOfK (K := K) (by rfl)) (by rfl) T.list (by decide +kernel) (pa_cons (pe_fld (pv 0) rfl) pa_nil)))), ?_⟩
    try dsimp only [L2.cxOf, L2.Cx.nox]
    simp only [L2.start, N_Round_budgets, List.map_cons, List.map_nil, List.length_cons, List.length_nil, Nat.reduceAdd, Nat.reduceSub, List.replicate_succ, List.replicate_zero, List.cons_append, List.nil_append]

    walk_at "gos"
    exact k _ _ Gx.new Gx.rel (by assumption)
local macro_rules | `(tactic| walk_at "call") => `(tactic| ((with_reducible show spBud _ _ _ _ _); refine ⟨_, _, rfl, inferInstance, ?_⟩; intro b_ H_ np_ e_ hb_))
def spRadd (C : Addr) : Sp := fun vs H Q _ => ∃ (a b : Addr) (bs cs : List Int), vs = [.ref a, .ref b] ∧ (RdC C H a bs ∧ RdC C H b cs ∧ RB (bs ++ cs)) ∧ ∀ d H', Nw H d → Ex H H' → RdC C H' d (bs ++ cs) → Q (.ref d) H'
abbrev s_Round___add__ : Stmt := (inClass (top 50) 6)
abbrev N_Round___add__ : List Str := ["self", "other", "joined"]
theorem sc_Round___add__ : FnScope N_Round___add__ ["self", "other"] (defScope s_Round___add__) := ⟨rfl, rfl, rfl, by decide +kernel, rfl, by decide +kernel, by decide +kernel⟩
theorem cl_Round___add__ (T : Bl mg) (R : RdF K mg c_Round) (D : DfM K c_Round "__add__" "Round.__add__" s_Round___add__ [] []) (C_Round___init__ : ClI CX0 P w K mg base 5 c_Round) : ClM CX0 P w K mg base 7 c_Round "__add__" "Round.__add__" s_Round___add__ ["self", "other"] [] [] (spRadd c_Round) := by
  have nd := sc_Round___add__.nd
  refine D.okP sc_Round___add__ (fun vs H Q E h => ?_) (fun f cdv A outer s H vs Q E hr h => ?_)
  · obtain ⟨a, b, bs, cs, rfl, _⟩ := h
    rfl
  · obtain ⟨a, b, bs, cs, rfl, ⟨ha, hb, hB⟩, k⟩ := h
    have hu := hu64 hr
    refine ⟨_, (pss_cons (ps_if (pt_not (pt_val (pe_callB (callIsiK (K := K) (by rfl)) (by rfl) T.isinstance (by decide +kernel) (pa_cons (pv 1) (pa_cons (pe_glob (v := .ref c_Round) (u := .ref c_Round) (by rfl) R.g rfl) pa_nil)))))
      (pss_one ps_never)
      pss_nil)
    (pss_cons (ps_set (i := 2) nd rfl (Or.inl rfl) (pe_op (opAddK (K := K) (by rfl)) (pe_fld (pv 0) rfl) (pe_fld (pv 1) rfl)))
    (pss_one (ps_ret (pe_mkS (K := K) (by rfl) C_Round___init__ (by exact hr.mono (by decide)) (by rfl) R.g pass0 (pv 2)))))), ?_⟩
    try dsimp only [L2.cxOf, L2.Cx.nox]
    simp only [L2.start, N_Round___add__, List.map_cons, List.map_nil, List.length_cons, List.length_nil, Nat.reduceAdd, Nat.reduceSub, List.replicate_succ, List.replicate_zero, List.cons_append, List.nil_append]

    have l1 := hB.l1
    have l2 := hB.l2
    have l3 := List.length_append (as := bs) (bs := cs)
    have h0 := hB.h0
    walk_at "gos"
    exact k _ _ Gx.new Gx.rel (by assumption)
local macro_rules | `(tactic| walk_at "call") => `(tactic| ((with_reducible show spRadd _ _ _ _ _); refine ⟨_, _, _, _, rfl, ⟨inferInstance, inferInstance, by assumption⟩, ?_⟩; intro d_ H_ np_ e_ hd_))

/-- one more budget -/
theorem twice_at {bs : List Int} {s : Int} {r : Nat} (h : RB bs) (hr : r ≤ bs.length) : ((bs ++ bs).drop (s % (bs.length : Int)).toNat)[r]? = some (bs.getD ((s + r) % (bs.length : Int)).toNat 0) := by
  have l1 := h.l1
  obtain ⟨h0, h1⟩ := modb (s := s) (n := bs.length) (by omega)
  have e : (s + r) % (bs.length : Int) = (s % (bs.length : Int) + r) % (bs.length : Int) := by rw [Int.emod_add_emod]
  rw [e]
  obtain ⟨j, hj⟩ : ∃ j : Nat, s % (bs.length : Int) = j := ⟨(s % (bs.length : Int)).toNat, by omega⟩
  rw [hj] at h0 h1 ⊢
  rw [List.getElem?_drop, Int.toNat_natCast, show ((j : Int) + (r : Nat)) % ((bs.length : Nat) : Int) = (((j + r) % bs.length : Nat) : Int) from rfl, Int.toNat_natCast]
  have hm : (j + r) % bs.length < bs.length := Nat.mod_lt _ l1
  rw [List.getD_eq_getElem?_getD, List.getElem?_eq_getElem hm, Option.getD_some]
  by_cases z : j + r < bs.length
  · rw [List.getElem?_append_left z, List.getElem?_eq_getElem z]
    congr 2
    rw [Nat.mod_eq_of_lt z]
  · rw [List.getElem?_append_right (by omega), List.getElem?_eq_getElem (by omega)]
    congr 2
    rw [Nat.mod_eq_sub_mod (by omega), Nat.mod_eq_of_lt (by omega)]
/-- the sum of the first r budgets from s on -/
def part (bs : List Int) (s : Int) (r : Nat) : Int := (((bs ++ bs).drop (s % (bs.length : Int)).toNat).take r).sum
theorem part_succ {bs : List Int} {s : Int} {r : Nat} (h : RB bs) (hr : r ≤ bs.length) : part bs s (r + 1) = part bs s r + bs.getD ((s + r) % (bs.length : Int)).toNat 0 := by
  unfold part
  rw [List.take_succ, twice_at h hr, sum_app]
  simp

/-! windows grow by one -/
theorem part_full {bs : List Int} {s : Int} (h : RB bs) : part bs s bs.length = bs.sum := by
  have l1 := h.l1
  obtain ⟨h0, h1⟩ := modb (s := s) (n := bs.length) (by omega)
  unfold part
  have hj : (s % (bs.length : Int)).toNat < bs.length := by omega
  generalize (s % (bs.length : Int)).toNat = j at hj ⊢
  rw [List.drop_append_of_le_length (by omega), List.take_append, List.take_of_length_le (by rw [List.length_drop]; omega), List.length_drop, show bs.length - (bs.length - j) = j from by omega, sum_app]
  have e := congrArg List.sum (List.take_append_drop j bs)
  rw [sum_app] at e
  omega
theorem win_nat {bs : List Int} {s : Int} {c : Nat} : win bs s (c : Nat) = ((c / bs.length : Nat) : Int) * bs.sum + part bs s (c % bs.length) := rfl
theorem win_succ {bs : List Int} {s : Int} (h : RB bs) (c : Nat) : win bs s ((c + 1 : Nat) : Int) = win bs s (c : Nat) + nth bs (s + (c : Nat)) := by
  have l1 := h.l1
  have hr : c % bs.length < bs.length := Nat.mod_lt _ l1
  have hc := Nat.div_add_mod c bs.length
  have hn : nth bs (s + (c : Nat)) = bs.getD ((s + ((c % bs.length : Nat) : Int)) % (bs.length : Int)).toNat 0 := by
    unfold nth
    rw [show ((c % bs.length : Nat) : Int) = (c : Int) % (bs.length : Int) from rfl, Int.add_emod_emod]
  have hp := part_succ h (s := s) (r := c % bs.length) (Nat.le_of_lt hr)
  rw [win_nat, win_nat, hn]
  by_cases z : c % bs.length + 1 < bs.length
  · have e : c + 1 = bs.length * (c / bs.length) + (c % bs.length + 1) := by omega
    have e1 : (c + 1) / bs.length = c / bs.length := by
      rw [e, Nat.mul_add_div l1, Nat.div_eq_of_lt z, Nat.add_zero]
    have e2 : (c + 1) % bs.length = c % bs.length + 1 := by
      rw [e, Nat.mul_add_mod, Nat.mod_eq_of_lt z]
    rw [e1, e2, hp]
    omega
  · have y : c % bs.length + 1 = bs.length := by omega
    have e : c + 1 = bs.length * (c / bs.length) + bs.length := by omega
    have e1 : (c + 1) / bs.length = c / bs.length + 1 := by
      rw [e, Nat.mul_add_div l1, Nat.div_self l1]
    have e2 : (c + 1) % bs.length = 0 := by
      rw [e, Nat.mul_add_mod, Nat.mod_self]
    rw [y, part_full h] at hp
    rw [e1, e2, show part bs s 0 = 0 from by simp [part], Int.natCast_add, Int.add_mul]
    omega
theorem nth_b {bs : List Int} {t : Int} (h : RB bs) : 0 ≤ nth bs t := by
  have l1 := h.l1
  obtain ⟨h0, h1⟩ := modb (s := t) (n := bs.length) (by omega)
  unfold nth
  rw [List.getD_eq_getElem?_getD, List.getElem?_eq_getElem (by omega), Option.getD_some]
  exact h.h0 _ (List.getElem_mem _)
theorem win_mod {bs : List Int} {s c : Int} : win bs s c = win bs (s % (bs.length : Int)) c := by
  unfold win
  rw [Int.emod_emod_of_dvd _ (Int.dvd_refl _)]
theorem least_le {bs : List Int} {s c : Int} (h : RB bs) : least bs c ≤ win bs s c := by
  have l1 := h.l1
  obtain ⟨h0, h1⟩ := modb (s := s) (n := bs.length) (by omega)
  rw [win_mod]
  refine (least_is h).2 _ (List.mem_map.mpr ⟨(s % (bs.length : Int)).toNat, List.mem_range.mpr (by omega), ?_⟩)
  rw [Int.toNat_of_nonneg h0]

def spAtMost : Sp := fun vs H Q _ => ∃ (v m : Int) (z : Str), vs = [.int v, .int m, .str z] ∧ v ≤ m ∧ Q .non H
abbrev s_at_most : Stmt := (top 8)
abbrev N_at_most : List Str := ["value", "most", "field"]
theorem sc_at_most : FnScope N_at_most ["value", "most", "field"] (defScope s_at_most) := ⟨rfl, rfl, rfl, by decide +kernel, rfl, by decide +kernel, by decide +kernel⟩
theorem cl_at_most (T : Bl mg) (R : RdF K mg c_Round) (D : DfG K mg "at_most" s_at_most [] [])  : ClG CX0 P w K mg base 3 "at_most" s_at_most ["value", "most", "field"] [] [] spAtMost := by
  have nd := sc_at_most.nd
  refine D.okP sc_at_most (fun vs H Q E h => ?_) (fun f cdv A outer s H vs Q E hr h => ?_)
  · obtain ⟨v, m, z, rfl, _⟩ := h
    rfl
  · obtain ⟨v, m, z, rfl, h, k⟩ := h
    have hu := hu64 hr
    refine ⟨_, (pss_one (ps_if (pt_cmpR opGt (pv 0) (pv 1) (nomark _))
      (pss_one ps_never)
      pss_nil)), ?_⟩
    try dsimp only [L2.cxOf, L2.Cx.nox]
    simp only [L2.start, N_at_most, List.map_cons, List.map_nil, List.length_cons, List.length_nil, Nat.reduceAdd, Nat.reduceSub, List.replicate_succ, List.replicate_zero, List.cons_append, List.nil_append]

    walk_at "gos"
    exact k
local macro_rules | `(tactic| walk_at "call") => `(tactic| ((with_reducible show spAtMost _ _ _ _); refine ⟨_, _, _, rfl, by omega, ?_⟩))

/-! words, plainly -/
def Wd (l : List Bool) : Prop := l.length ≤ 64 ∧ l.head? ≠ some false
theorem Wd.nil : Wd [] := ⟨by simp, by simp⟩
theorem Wd.start {l : List Bool} (h : Wd l) : (l.take ([false] : List Bool).length == [false]) = false := by
  obtain ⟨_, h⟩ := h
  cases l with
  | nil => rfl
  | cons b r => cases b <;> simp_all
theorem wd_one {r : List Bool} (h : r.length ≤ 63) : Wd (true :: r) := ⟨by simp; omega, by simp⟩
theorem dw_wd {l : List Bool} (h : l.head? ≠ some false) (n : Nat) : (List.replicate n false ++ l).dropWhile (! ·) = l := by
  induction n with
  | zero =>
    cases l with
    | nil => rfl
    | cons b r => cases b <;> simp_all
  | succ n ih => rw [List.replicate_succ, List.cons_append, List.dropWhile_cons]; simpa using ih
theorem dw_self {l : List Bool} (h : l.head? ≠ some false) : l.dropWhile (! ·) = l := dw_wd h 0
theorem cnt2 (l : List Bool) : l.count false + l.count true = l.length := by
  induction l with
  | nil => rfl
  | cons b r ih => cases b <;> simp [List.count_cons] <;> omega
/-- the depths of the ones among the first i -/
def depTo (l : List Bool) (i : Nat) : List Int := ((List.range i).filter fun k => l[k]? == some true).map fun k => (l.length : Int) - (k : Nat)
def dep (l : List Bool) : List Int := depTo l l.length
theorem depTo_zero (l : List Bool) : depTo l 0 = [] := rfl
theorem depTo_succ {l : List Bool} {i : Nat} {b : Bool} (h : l[i]? = some b) : depTo l (i + 1) = depTo l i ++ (if b = true then [(l.length : Int) - (i : Nat)] else []) := by
  unfold depTo
  rw [List.range_succ, List.filter_append, List.map_append]
  congr 1
  cases b <;> simp [h]
theorem depTo_len (l : List Bool) (i : Nat) : (depTo l i).length ≤ i := by
  unfold depTo
  rw [List.length_map]
  exact Nat.le_trans (List.length_filter_le _ _) (by simp)
theorem dep_nil : dep [] = [] := rfl
theorem dep_cons (b : Bool) (r : List Bool) : dep (b :: r) = (if b = true then [((r.length : Int) + 1)] else []) ++ dep r := by
  unfold dep depTo
  rw [List.length_cons, List.range_succ_eq_map, List.filter_cons]
  have e : ((List.map Nat.succ (List.range r.length)).filter fun k => (b :: r)[k]? == some true).map (fun k => ((r.length + 1 : Nat) : Int) - (k : Nat)) = ((List.range r.length).filter fun k => r[k]? == some true).map fun k => (r.length : Int) - (k : Nat) := by
    rw [List.filter_map, List.map_map]
    have e1 : ((fun k => (b :: r)[k]? == some true) ∘ Nat.succ) = fun k => r[k]? == some true := by
      funext k
      simp
    rw [e1]
    apply List.map_congr_left
    intro k _
    simp only [Function.comp]
    omega
  cases b with
  | true => simp only [List.getElem?_cons_zero, beq_self_eq_true, if_true, List.map_cons, e, List.singleton_append]; simp
  | false =>
    rw [if_neg (by simp), if_neg (by simp), e]
    rfl
theorem dep_len (l : List Bool) : (dep l).length = l.count true := by
  induction l with
  | nil => rfl
  | cons b r ih => rw [dep_cons, List.length_append, ih, List.count_cons]; cases b <;> simp <;> omega
theorem dep_le (l : List Bool) : ∀ d ∈ dep l, 1 ≤ d ∧ d ≤ l.length := by
  induction l with
  | nil => intro d h; simp [dep_nil] at h
  | cons b r ih =>
    intro d h
    rw [dep_cons] at h
    rcases List.mem_append.mp h with h | h
    · cases b <;> simp at h
      subst h
      simp only [List.length_cons]
      omega
    · have := ih d h
      simp only [List.length_cons]
      omega
/-- each is greater than what follows, the last than 0 -/
def Dec : List Int → Prop
  | [] => True
  | d :: r => d > r.headD 0 ∧ Dec r
def wof : List Int → List (List Bool)
  | [] => []
  | d :: r => (true :: List.replicate (d - r.headD 0 - 1).toNat false) :: wof r
theorem dec_dep (l : List Bool) : Dec (dep l) := by
  induction l with
  | nil => trivial
  | cons b r ih =>
    rw [dep_cons]
    cases b with
    | false => simpa using ih
    | true =>
      refine ⟨?_, ih⟩
      show (r.length : Int) + 1 > (dep r).headD 0
      cases e : dep r with
      | nil => show (r.length : Int) + 1 > 0; omega
      | cons x y =>
        have := (dep_le r x (by rw [e]; exact List.mem_cons_self ..)).2
        simp
        omega
theorem dep_zeros (n : Nat) (r : List Bool) : dep (List.replicate n false ++ r) = dep r := by
  induction n with
  | zero => rfl
  | succ n ih => rw [List.replicate_succ, List.cons_append, dep_cons]; simpa using ih
theorem tw_dw (r : List Bool) : r = List.replicate (r.takeWhile (! ·)).length false ++ r.dropWhile (! ·) := by
  induction r with
  | nil => rfl
  | cons b r ih =>
    cases b with
    | true => rfl
    | false =>
      rw [List.takeWhile_cons, List.dropWhile_cons]
      simp only [Bool.not_false, if_true, List.length_cons, List.replicate_succ, List.cons_append]
      rw [← ih]
theorem dw_head (r : List Bool) : (r.dropWhile (! ·)).head? ≠ some false := by
  induction r with
  | nil => simp
  | cons b r ih => cases b <;> simp [List.dropWhile_cons, ih]
theorem head_dep {l : List Bool} (h : l.head? ≠ some false) : (dep l).headD 0 = (l.length : Int) := by
  cases l with
  | nil => rfl
  | cons b r =>
    cases b with
    | false => simp at h
    | true => rw [dep_cons]; simp
theorem wof_dep : ∀ (n : Nat) (l : List Bool), l.length ≤ n → l.head? ≠ some false → (wof (dep l)).flatten = l
  | 0, l, hn, _ => by
    have e : l = [] := List.length_eq_zero_iff.mp (by omega)
    rw [e]
    rfl
  | n + 1, [], _, _ => rfl
  | n + 1, false :: r, _, h => by simp at h
  | n + 1, true :: r, hn, _ => by
    have h2 := dw_head r
    have e := tw_dw r
    generalize hk : (r.takeWhile (! ·)).length = k at e
    generalize hm : r.dropWhile (! ·) = m at e h2
    have hl : r.length = k + m.length := by
      have := congrArg List.length e
      simpa using this
    rw [dep_cons, e, dep_zeros]
    simp only [if_true, List.singleton_append, wof, List.flatten_cons]
    rw [wof_dep n m (by simp only [List.length_cons] at hn; omega) h2, head_dep h2]
    have e3 : (((List.replicate k false ++ m).length : Int) + 1 - (m.length : Int) - 1).toNat = k := by
      simp
      omega
    rw [e3]
    rfl
theorem wof_at : ∀ (ds : List Int) (i : Nat) (d e : Int), ds[i]? = some d → (ds.drop 1 ++ [0])[i]? = some e → (wof ds)[i]? = some (true :: List.replicate (d - e - 1).toNat false)
  | [], i, d, e, h, _ => by simp at h
  | x :: r, 0, d, e, h, k => by
    simp at h
    subst h
    cases r with
    | nil => simp at k; subst k; simp [wof]
    | cons y r => simp at k; subst k; simp [wof]
  | x :: r, i + 1, d, e, h, k => by
    have h' : r[i]? = some d := by simpa using h
    show (wof r)[i]? = _
    refine wof_at r i d e h' ?_
    cases r with
    | nil => simp at h'
    | cons y r => simpa using k
theorem dec_at : ∀ (ds : List Int) (i : Nat) (d e : Int), Dec ds → ds[i]? = some d → (ds.drop 1 ++ [0])[i]? = some e → d > e
  | [], i, d, e, _, h, _ => by simp at h
  | x :: r, 0, d, e, hd, h, k => by
    simp at h
    subst h
    cases r with
    | nil => simp at k; subst k; simpa using hd.1
    | cons y r => simp at k; subst k; simpa using hd.1
  | x :: r, i + 1, d, e, hd, h, k => by
    have h' : r[i]? = some d := by simpa using h
    refine dec_at r i d e hd.2 h' ?_
    cases r with
    | nil => simp at h'
    | cons y r => simpa using k
theorem wof_len (ds : List Int) : (wof ds).length = ds.length := by
  induction ds with
  | nil => rfl
  | cons d r ih => simp [wof, ih]
theorem dec_pos : ∀ (ds : List Int), Dec ds → ∀ d ∈ ds, 0 < d
  | [], _, d, h => by simp at h
  | [x], hd, d, h => by
    have := hd.1
    simp at this h
    omega
  | x :: y :: r, hd, d, h => by
    have h2 := dec_pos (y :: r) hd.2
    rcases List.mem_cons.mp h with e | h
    · have := hd.1
      have := h2 y (List.mem_cons_self ..)
      simp at *
      omega
    · exact h2 d h

def spGood : Sp := fun vs H Q _ => ∃ (l : List Bool) (z : Str), vs = [.str (tx l), .str z] ∧ Wd l ∧ Q .non H
abbrev s_good_word : Stmt := (top 10)
abbrev N_good_word : List Str := ["word", "field"]
theorem sc_good_word : FnScope N_good_word ["word", "field"] (defScope s_good_word) := ⟨rfl, rfl, rfl, by decide +kernel, rfl, by decide +kernel, by decide +kernel⟩
theorem cl_good_word (T : Bl mg) (R : RdF K mg c_Round) (D : DfG K mg "good_word" s_good_word [] [])  : ClG CX0 P w K mg base 3 "good_word" s_good_word ["word", "field"] [] [] spGood := by
  have nd := sc_good_word.nd
  refine D.okP sc_good_word (fun vs H Q E h => ?_) (fun f cdv A outer s H vs Q E hr h => ?_)
  · obtain ⟨l, z, rfl, _⟩ := h
    rfl
  · obtain ⟨l, z, rfl, h, k⟩ := h
    have hu := hu64 hr
    refine ⟨_, (pss_one (ps_if (PW.pt (pw_or (pt_val (pe_bmK (K := K) (by rfl) PySem.F.plainAttrs_str PySem.F.slot_str_startswith PySem.F.type_str_startswith mtStarts (pv 0) (pa_cons pe_str pa_nil))) (pw_or1 (pt_cmpR (opNeK (K := K) (by rfl) (by exact hu)) (pe_bmK (K := K) (by rfl) PySem.F.plainAttrs_str PySem.F.slot_str_strip PySem.F.type_str_strip mtStripC (pv 0) (pa_cons pe_str pa_nil)) pe_str (nomark _)))))
      (pss_one ps_never)
      pss_nil)), ?_⟩
    try dsimp only [L2.cxOf, L2.Cx.nox]
    simp only [L2.start, N_good_word, List.map_cons, List.map_nil, List.length_cons, List.length_nil, Nat.reduceAdd, Nat.reduceSub, List.replicate_succ, List.replicate_zero, List.cons_append, List.nil_append]

    have h1 := h.1
    walk_at "go"
    rw [h.start]
    walk_at "gos"
    exact k
local macro_rules | `(tactic| walk_at "call") => `(tactic| ((with_reducible show spGood _ _ _ _); refine ⟨_, _, rfl, by assumption, ?_⟩))
def spOnes : Sp := fun vs H Q _ => ∃ (l : List Bool), vs = [.str (tx l)] ∧ Q (.int (l.count true : Nat)) H
def spDeps : Sp := fun vs H Q _ => ∃ (l : List Bool), vs = [.str (tx l)] ∧ l.length ≤ 1000 ∧ ∀ p H', Nw H p → Ex H H' → At H' p (.lst ((dep l).map V.int)) → Q (.ref p) H'
abbrev s_ones : Stmt := (top 17)
abbrev N_ones : List Str := ["word"]
theorem sc_ones : FnScope N_ones ["word"] (defScope s_ones) := ⟨rfl, rfl, rfl, by decide +kernel, rfl, by decide +kernel, by decide +kernel⟩
theorem cl_ones (T : Bl mg) (R : RdF K mg c_Round) (D : DfG K mg "_ones" s_ones [] [])  : ClG CX0 P w K mg base 3 "_ones" s_ones ["word"] [] [] spOnes := by
  have nd := sc_ones.nd
  refine D.okP sc_ones (fun vs H Q E h => ?_) (fun f cdv A outer s H vs Q E hr h => ?_)
  · obtain ⟨l, rfl, _⟩ := h
    rfl
  · obtain ⟨l, rfl, k⟩ := h
    have hu := hu64 hr
    refine ⟨_, (pss_one (ps_ret (pe_bmK (K := K) (by rfl) PySem.F.plainAttrs_str PySem.F.slot_str_count PySem.F.type_str_count mtCount (pv 0) (pa_cons pe_str pa_nil)))), ?_⟩
    try dsimp only [L2.cxOf, L2.Cx.nox]
    simp only [L2.start, N_ones, List.map_cons, List.map_nil, List.length_cons, List.length_nil, Nat.reduceAdd, Nat.reduceSub, List.replicate_succ, List.replicate_zero, List.cons_append, List.nil_append]

    walk_at "gos"
    exact k
abbrev s_depth_list : Stmt := (top 18)
abbrev N_depth_list : List Str := ["word", "place", "mark"]
theorem sc_depth_list : FnScope N_depth_list ["word"] (defScope s_depth_list) := ⟨rfl, rfl, rfl, by decide +kernel, rfl, by decide +kernel, by decide +kernel⟩
theorem cl_depth_list (T : Bl mg) (R : RdF K mg c_Round) (D : DfG K mg "_depth_list" s_depth_list [] [])  : ClG CX0 P w K mg base 3 "_depth_list" s_depth_list ["word"] [] [] spDeps := by
  have nd := sc_depth_list.nd
  refine D.okP sc_depth_list (fun vs H Q E h => ?_) (fun f cdv A outer s H vs Q E hr h => ?_)
  · obtain ⟨l, rfl, _⟩ := h
    rfl
  · obtain ⟨l, rfl, h, k⟩ := h
    have hu := hu64 hr
    refine ⟨_, (pss_one (ps_ret (pe_lc (own := [("place", 1), ("mark", 2)]) (g := gTup K 2 (gCons (gName 1) (gCons (gName 2) gNil))) rfl nd (pi_enumS (by rfl) T.enumerate (pa_cons (pv 0) pa_nil)) (blkOk_by (own := [("place", 1), ("mark", 2)]) (N := N_depth_list) (sc := defScope s_depth_list) (by decide +kernel)) (fun _ _ _ _ _ => (pg_tup rfl (pgs_cons (pg_name (i := 1) nd rfl (Or.inl rfl)) (pgs_cons (pg_name (i := 2) nd rfl (Or.inl rfl)) pgs_nil)))) (fun _ _ _ _ _ => (pts_one (pt_cmpR (opEqK (K := K) (by rfl) (by exact hu)) (pv 2) pe_str (nomark _)))) (fun _ _ _ _ _ => (pe_op opSub (pe_callB (callLenK (K := K) (by rfl)) (by rfl) T.len (by decide +kernel) (pa_cons (pv 0) pa_nil)) (pv 1)))))), ?_⟩
    try dsimp only [L2.cxOf, L2.Cx.nox]
    simp only [L2.start, N_depth_list, List.map_cons, List.map_nil, List.length_cons, List.length_nil, Nat.reduceAdd, Nat.reduceSub, List.replicate_succ, List.replicate_zero, List.cons_append, List.nil_append]

    walk_at "gos"
    refine Gx.lcE_F (fun i => (depTo l i).map V.int) rfl (fun i hi => ?_) (fun D i c x H' H'' hi hc hD e hp hz y => ?_) (fun D H' hD e hp => ?_)
    · rw [tx_size] at hi
      rw [List.length_map]
      have := depTo_len l i
      omega
    · obtain ⟨b, hb, eb⟩ := Gx.tx_char hc
      rw [eb] at y
      have hs := depTo_succ hb
      walk_at "go"
      cases b with
      | true =>
        walk_at "go"
        rw [show decide ([true] = [true]) = true from rfl]
        walk_at "go"
        refine ⟨Gx.rel, ?_⟩
        rw [hs]
        simp
      | false =>
        walk_at "go"
        rw [show decide ([false] = [true]) = false from rfl]
        walk_at "go"
        refine ⟨Gx.rel, ?_⟩
        rw [hs]
        simp
    · rw [tx_size] at hp
      exact k D H' hD e hp
local macro_rules | `(tactic| walk_at "call") => `(tactic| first
  | ((with_reducible show spOnes _ _ _ _); refine ⟨_, rfl, ?_⟩)
  | ((with_reducible show spDeps _ _ _ _); refine ⟨_, rfl, by walk_at "szt", ?_⟩; intro p_ H_ np_ e_ hp_))
def spLiving : Sp := fun vs H Q _ => ∃ (l : List Bool), vs = [.str (tx l)] ∧ Wd l ∧ Q (.int (l.count true : Nat)) H
def spDepths : Sp := fun vs H Q _ => ∃ (l : List Bool), vs = [.str (tx l)] ∧ Wd l ∧ ∀ p H', Nw H p → Ex H H' → At H' p (.lst ((dep l).map V.int)) → Q (.ref p) H'
abbrev s_living : Stmt := (top 12)
abbrev N_living : List Str := ["word"]
theorem sc_living : FnScope N_living ["word"] (defScope s_living) := ⟨rfl, rfl, rfl, by decide +kernel, rfl, by decide +kernel, by decide +kernel⟩
theorem cl_living (T : Bl mg) (R : RdF K mg c_Round) (D : DfG K mg "living" s_living [] []) (C_ones : ClG CX0 P w K mg base 3 "_ones" s_ones ["word"] [] [] spOnes) (C_good_word : ClG CX0 P w K mg base 3 "good_word" s_good_word ["word", "field"] [] [] spGood) : ClG CX0 P w K mg base 5 "living" s_living ["word"] [] [] spLiving := by
  have nd := sc_living.nd
  refine D.okP sc_living (fun vs H Q E h => ?_) (fun f cdv A outer s H vs Q E hr h => ?_)
  · obtain ⟨l, rfl, _⟩ := h
    rfl
  · obtain ⟨l, rfl, h, k⟩ := h
    have hu := hu64 hr
    refine ⟨_, (pss_cons (ps_expr (pe_g C_good_word (by exact hr.mono (by decide)) (E := fun _ => E0) (fun σ => passC0 σ) (fun _ _ _ _ _ _ us hl => match us, hl with | [_, _], _ => rfl) (pa_cons (pv 0) (pa_cons pe_str pa_nil))))
    (pss_one (ps_ret (pe_g C_ones (by exact hr.mono (by decide)) (E := fun _ => E0) (fun σ => passC0 σ) (fun _ _ _ _ _ _ us hl => match us, hl with | [_], _ => rfl) (pa_cons (pv 0) pa_nil))))), ?_⟩
    try dsimp only [L2.cxOf, L2.Cx.nox]
    simp only [L2.start, N_living, List.map_cons, List.map_nil, List.length_cons, List.length_nil, Nat.reduceAdd, Nat.reduceSub, List.replicate_succ, List.replicate_zero, List.cons_append, List.nil_append]

    have h1 := h.1
    walk_at "gos"
    exact k
abbrev s_depths : Stmt := (top 13)
abbrev N_depths : List Str := ["word"]
theorem sc_depths : FnScope N_depths ["word"] (defScope s_depths) := ⟨rfl, rfl, rfl, by decide +kernel, rfl, by decide +kernel, by decide +kernel⟩
theorem cl_depths (T : Bl mg) (R : RdF K mg c_Round) (D : DfG K mg "depths" s_depths [] []) (C_depth_list : ClG CX0 P w K mg base 3 "_depth_list" s_depth_list ["word"] [] [] spDeps) (C_good_word : ClG CX0 P w K mg base 3 "good_word" s_good_word ["word", "field"] [] [] spGood) : ClG CX0 P w K mg base 5 "depths" s_depths ["word"] [] [] spDepths := by
  have nd := sc_depths.nd
  refine D.okP sc_depths (fun vs H Q E h => ?_) (fun f cdv A outer s H vs Q E hr h => ?_)
  · obtain ⟨l, rfl, _⟩ := h
    rfl
  · obtain ⟨l, rfl, h, k⟩ := h
    have hu := hu64 hr
    refine ⟨_, (pss_cons (ps_expr (pe_g C_good_word (by exact hr.mono (by decide)) (E := fun _ => E0) (fun σ => passC0 σ) (fun _ _ _ _ _ _ us hl => match us, hl with | [_, _], _ => rfl) (pa_cons (pv 0) (pa_cons pe_str pa_nil))))
    (pss_one (ps_ret (pe_g C_depth_list (by exact hr.mono (by decide)) (E := fun _ => E0) (fun σ => passC0 σ) (fun _ _ _ _ _ _ us hl => match us, hl with | [_], _ => rfl) (pa_cons (pv 0) pa_nil))))), ?_⟩
    try dsimp only [L2.cxOf, L2.Cx.nox]
    simp only [L2.start, N_depths, List.map_cons, List.map_nil, List.length_cons, List.length_nil, Nat.reduceAdd, Nat.reduceSub, List.replicate_succ, List.replicate_zero, List.cons_append, List.nil_append]

    have h1 := h.1
    walk_at "gos"
    exact k _ _ Gx.new Gx.rel Gx.at_
local macro_rules | `(tactic| walk_at "call") => `(tactic| first
  | ((with_reducible show spLiving _ _ _ _); refine ⟨_, rfl, by assumption, ?_⟩)
  | ((with_reducible show spDepths _ _ _ _); refine ⟨_, rfl, by assumption, ?_⟩; intro p_ H_ np_ e_ hp_))

def spChk : Sp := fun vs H Q _ => ∃ (l : List Bool) (p lim φ m : Int), vs = [.str (tx l), .int p, .int lim, .int φ, .int m] ∧ (Wd l ∧ 1 ≤ p ∧ 1 ≤ lim ∧ 0 ≤ φ ∧ 0 ≤ m ∧ (l.length : Int) ≤ p ∧ (l.count true : Nat) ≤ lim ∧ lim ≤ p) ∧ Q .non H
abbrev s_check_standing : Stmt := (top 22)
abbrev N_check_standing : List Str := ["word", "places", "limit", "phase", "most"]
theorem sc_check_standing : FnScope N_check_standing ["word", "places", "limit", "phase", "most"] (defScope s_check_standing) := ⟨rfl, rfl, rfl, by decide +kernel, rfl, by decide +kernel, by decide +kernel⟩
theorem cl_check_standing (T : Bl mg) (R : RdF K mg c_Round) (D : DfG K mg "check_standing" s_check_standing [.int 0] []) (C_at_most : ClG CX0 P w K mg base 3 "at_most" s_at_most ["value", "most", "field"] [] [] spAtMost) (C_living : ClG CX0 P w K mg base 5 "living" s_living ["word"] [] [] spLiving) (C_at_least : ClG CX0 P w K mg base 3 "at_least" s_at_least ["value", "least", "field"] [] [] spAtl) (C_good_word : ClG CX0 P w K mg base 3 "good_word" s_good_word ["word", "field"] [] [] spGood) : ClG CX0 P w K mg base 7 "check_standing" s_check_standing ["word", "places", "limit", "phase", "most"] [.int 0] [] spChk := by
  have nd := sc_check_standing.nd
  refine D.okP sc_check_standing (fun vs H Q E h => ?_) (fun f cdv A outer s H vs Q E hr h => ?_)
  · obtain ⟨l, p, lim, φ, m, rfl, _⟩ := h
    rfl
  · obtain ⟨l, p, lim, φ, m, rfl, ⟨hw, h1, h2, h3, h4, h5, h6, h7⟩, k⟩ := h
    have hu := hu64 hr
    refine ⟨_, (pss_cons (ps_expr (pe_g C_good_word (by exact hr.mono (by decide)) (E := fun _ => E0) (fun σ => passC0 σ) (fun _ _ _ _ _ _ us hl => match us, hl with | [_, _], _ => rfl) (pa_cons (pv 0) (pa_cons pe_str pa_nil))))
    (pss_cons (ps_expr (pe_g C_at_least (by exact hr.mono (by decide)) (E := fun _ => E0) (fun σ => passC0 σ) (fun _ _ _ _ _ _ us hl => match us, hl with | [_, _, _], _ => rfl) (pa_cons (pv 1) (pa_cons pe_int (pa_cons pe_str pa_nil)))))
    (pss_cons (ps_expr (pe_g C_at_least (by exact hr.mono (by decide)) (E := fun _ => E0) (fun σ => passC0 σ) (fun _ _ _ _ _ _ us hl => match us, hl with | [_, _, _], _ => rfl) (pa_cons (pv 2) (pa_cons pe_int (pa_cons pe_str pa_nil)))))
    (pss_cons (ps_expr (pe_g C_at_least (by exact hr.mono (by decide)) (E := fun _ => E0) (fun σ => passC0 σ) (fun _ _ _ _ _ _ us hl => match us, hl with | [_, _, _], _ => rfl) (pa_cons (pv 3) (pa_cons pe_int (pa_cons pe_str pa_nil)))))
    (pss_cons (ps_expr (pe_g C_at_least (by exact hr.mono (by decide)) (E := fun _ => E0) (fun σ => passC0 σ) (fun _ _ _ _ _ _ us hl => match us, hl with | [_, _, _], _ => rfl) (pa_cons (pv 4) (pa_cons pe_int (pa_cons pe_str pa_nil)))))
    (pss_cons (ps_expr (pe_g C_at_most (by exact hr.mono (by decide)) (E := fun _ => E0) (fun σ => passC0 σ) (fun _ _ _ _ _ _ us hl => match us, hl with | [_, _, _], _ => rfl) (pa_cons (pe_callB (callLenK (K := K) (by rfl)) (by rfl) T.len (by decide +kernel) (pa_cons (pv 0) pa_nil)) (pa_cons (pv 1) (pa_cons pe_str pa_nil)))))
    (pss_cons (ps_expr (pe_g C_at_most (by exact hr.mono (by decide)) (E := fun _ => E0) (fun σ => passC0 σ) (fun _ _ _ _ _ _ us hl => match us, hl with | [_, _, _], _ => rfl) (pa_cons (pe_g C_living (by exact hr.mono (by decide)) (E := fun _ => E0) (fun σ => passC0 σ) (fun _ _ _ _ _ _ us hl => match us, hl with | [_], _ => rfl) (pa_cons (pv 0) pa_nil)) (pa_cons (pv 2) (pa_cons pe_str pa_nil)))))
    (pss_one (ps_expr (pe_g C_at_most (by exact hr.mono (by decide)) (E := fun _ => E0) (fun σ => passC0 σ) (fun _ _ _ _ _ _ us hl => match us, hl with | [_, _, _], _ => rfl) (pa_cons (pv 2) (pa_cons (pv 1) (pa_cons pe_str pa_nil))))))))))))), ?_⟩
    try dsimp only [L2.cxOf, L2.Cx.nox]
    simp only [L2.start, N_check_standing, List.map_cons, List.map_nil, List.length_cons, List.length_nil, Nat.reduceAdd, Nat.reduceSub, List.replicate_succ, List.replicate_zero, List.cons_append, List.nil_append]

    have hw1 := hw.1
    walk_at "gos"
    exact k
local macro_rules | `(tactic| walk_at "call") => `(tactic| ((with_reducible show spChk _ _ _ _); refine ⟨_, _, _, _, _, rfl, ⟨by assumption, by omega, by omega, by omega, by omega, by omega, by omega, by omega⟩, ?_⟩))
def spCnt : Sp := fun vs H Q _ => ∃ (p : Int) (l : Bool), vs = [.int p, .bl l] ∧ Q (.int (p - (if l = true then 1 else 0))) H
abbrev s_counted_places : Stmt := (top 23)
abbrev N_counted_places : List Str := ["places", "late"]
theorem sc_counted_places : FnScope N_counted_places ["places", "late"] (defScope s_counted_places) := ⟨rfl, rfl, rfl, by decide +kernel, rfl, by decide +kernel, by decide +kernel⟩
theorem cl_counted_places (T : Bl mg) (R : RdF K mg c_Round) (D : DfG K mg "counted_places" s_counted_places [] [])  : ClG CX0 P w K mg base 3 "counted_places" s_counted_places ["places", "late"] [] [] spCnt := by
  have nd := sc_counted_places.nd
  refine D.okP sc_counted_places (fun vs H Q E h => ?_) (fun f cdv A outer s H vs Q E hr h => ?_)
  · obtain ⟨p, l, rfl, _⟩ := h
    rfl
  · obtain ⟨p, l, rfl, k⟩ := h
    have hu := hu64 hr
    refine ⟨_, (pss_cons (ps_if (pt_val (pv 1))
      (pss_one (ps_ret (pe_op opSub (pv 0) pe_int)))
      pss_nil)
    (pss_one (ps_ret (pv 0)))), ?_⟩
    try dsimp only [L2.cxOf, L2.Cx.nox]
    simp only [L2.start, N_counted_places, List.map_cons, List.map_nil, List.length_cons, List.length_nil, Nat.reduceAdd, Nat.reduceSub, List.replicate_succ, List.replicate_zero, List.cons_append, List.nil_append]

    cases l
    · walk_at "gos"
      simpa using k
    · walk_at "gos"
      simpa using k
local macro_rules | `(tactic| walk_at "call") => `(tactic| ((with_reducible show spCnt _ _ _ _); refine ⟨_, _, rfl, ?_⟩))

theorem sum_nn : ∀ {l : List Int}, (∀ x ∈ l, 0 ≤ x) → 0 ≤ l.sum
  | [], _ => by simp
  | a :: r, h => by
    have h1 := sum_nn fun x hx => h x (List.mem_cons_of_mem a hx)
    have h2 := h a (List.mem_cons_self ..)
    rw [List.sum_cons]
    omega
theorem win_nn {bs : List Int} {s c : Int} (h : RB bs) (hc : 0 ≤ c) : 0 ≤ win bs s c := by
  have hs := h.sum
  have l1 := h.l1
  have h1 : 0 ≤ (((bs ++ bs).drop (s % (bs.length : Int)).toNat).take (c % (bs.length : Int)).toNat).sum := sum_nn fun x hx => by
    have h2 := List.mem_of_mem_drop (List.mem_of_mem_take hx)
    rcases List.mem_append.mp h2 with h3 | h3
    · exact h.h0 x h3
    · exact h.h0 x h3
  have h2 : 0 ≤ c / (bs.length : Int) * bs.sum := Int.mul_nonneg (Int.ediv_nonneg hc (by omega)) hs.1
  unfold win
  omega
/-! the formula of the life -/
def Blk (l : List Bool) (bs : List Int) (cnt lim φ t : Int) : Prop := 0 ≤ t ∧ win bs φ t < (l.count true : Nat) ∧ win bs φ t < lim - 1 ∧ cnt ≤ (dep l).getD (win bs φ t).toNat 0 + win bs φ t + t
def Sht (ones : Int) (bs : List Int) (cnt lim φ t : Int) : Prop := 0 ≤ t ∧ cnt - ones ≤ t ∧ (cnt < lim ∨ win bs (φ + t - (cnt - lim)) (cnt - lim) < lim - 1)
def Bad (l : List Bool) (bs : List Int) (cnt lim φ t : Int) : Prop := (t < cnt ∧ Blk l bs cnt lim φ t) ∨ ((t < bs.length ∨ t < cnt - (l.count true : Nat) + bs.length) ∧ Sht (l.count true : Nat) bs cnt lim φ t)
structure Std (l : List Bool) (p lim φ : Int) : Prop where
  wd : Wd l
  p1 : 1 ≤ p
  p2 : p ≤ 10 ^ 6
  m1 : 1 ≤ lim
  f0 : 0 ≤ φ
  f1 : φ < 2 ^ 100
  lp : (l.length : Int) ≤ p
  om : ((l.count true : Nat) : Int) ≤ lim
  mp : lim ≤ p
def spBlk (C : Addr) (K : PySem.W.Frag) : Sp := fun vs H Q _ => ∃ (t cnt lim φ : Int) (p a : Addr) (l : List Bool) (bs : List Int), vs = [.int t, .ref p, .int cnt, .int lim, .ref a, .int φ] ∧ (SqC K H p ((dep l).map V.int) ∧ RdC C H a bs ∧ RB bs ∧ t < 2 ^ 100 ∧ 0 ≤ φ ∧ φ < 2 ^ 101 ∧ l.length ≤ 1000) ∧
  (Blk l bs cnt lim φ t → ∀ H', Ex H H' → Q (.bl true) H') ∧ (¬ Blk l bs cnt lim φ t → ∀ H', Ex H H' → Q (.bl false) H')
abbrev s_blocked_now : Stmt := (top 24)
abbrev N_blocked_now : List Str := ["t", "spots", "counted", "limit", "budgets", "phase", "carried"]
theorem sc_blocked_now : FnScope N_blocked_now ["t", "spots", "counted", "limit", "budgets", "phase"] (defScope s_blocked_now) := ⟨rfl, rfl, rfl, by decide +kernel, rfl, by decide +kernel, by decide +kernel⟩
theorem cl_blocked_now (T : Bl mg) (R : RdF K mg c_Round) (D : DfG K mg "blocked_now" s_blocked_now [] []) (C_Round_total : ClM CX0 P w K mg base 5 c_Round "total" "Round.total" s_Round_total ["self", "start", "count"] [] [] (spWin c_Round)) : ClG CX0 P w K mg base 7 "blocked_now" s_blocked_now ["t", "spots", "counted", "limit", "budgets", "phase"] [] [] (spBlk c_Round K) := by
  have nd := sc_blocked_now.nd
  refine D.okP sc_blocked_now (fun vs H Q E h => ?_) (fun f cdv A outer s H vs Q E hr h => ?_)
  · obtain ⟨t, cnt, lim, φ, p, a, l, bs, rfl, _⟩ := h
    rfl
  · obtain ⟨t, cnt, lim, φ, p, a, l, bs, rfl, ⟨hp, ha, hB, h1, h2, h3, h4⟩, k1, k2⟩ := h
    have hu := hu64 hr
    refine ⟨_, (pss_cons (ps_if (pt_cmpR opLt (pv 0) pe_int (nomark _))
      (pss_one (ps_ret pe_bl))
      pss_nil)
    (pss_cons (ps_set (i := 6) nd rfl (Or.inl rfl) (pe_m C_Round_total R.c (by exact hr.mono (by decide)) pass0 (fun _ _ _ _ _ _ us hl => match us, hl with | [_, _, _], _ => rfl) (pv 4) (pa_cons (pv 5) (pa_cons (pv 0) pa_nil))))
    (pss_cons (ps_if (pt_cmpR opGe (pv 6) (pe_callB (callMin2 rfl) (by rfl) T.min (by decide +kernel) (pa_cons (pe_callB (callLenK (K := K) (by rfl)) (by rfl) T.len (by decide +kernel) (pa_cons (pv 1) pa_nil)) (pa_cons (pe_op opSub (pv 3) pe_int) pa_nil))) (nomark _))
      (pss_one (ps_ret pe_bl))
      pss_nil)
    (pss_one (ps_ret (pe_cmpR opGe (pe_op (opAddK (K := K) (by rfl)) (pe_op (opAddK (K := K) (by rfl)) (pe_ix (ixSeqK (K := K) (by rfl)) (pv 1) (pv 6) (fun _ _ => rfl)) (pv 6)) (pv 0)) (pv 2) (nomark _))))))), ?_⟩
    try dsimp only [L2.cxOf, L2.Cx.nox]
    simp only [L2.start, N_blocked_now, List.map_cons, List.map_nil, List.length_cons, List.length_nil, Nat.reduceAdd, Nat.reduceSub, List.replicate_succ, List.replicate_zero, List.cons_append, List.nil_append]

    have hdl := dep_len l
    have hcl := List.count_le_length (a := true) (l := l)
    have hnn : 0 ≤ t → 0 ≤ win bs φ t := fun h => win_nn hB h
    walk_at "gos"
    · exact k2 (fun g => by have := g.1; omega) _ Gx.rel
    · exact k2 (fun g => by obtain ⟨g0, g1, g2, g3⟩ := g; omega) _ Gx.rel
    · by_cases z : cnt ≤ (dep l).getD (win bs φ t).toNat 0 + win bs φ t + t
      · exact Gx.q_dec (k1 ⟨by omega, by omega, by omega, z⟩ _ Gx.rel) z
      · exact Gx.q_decN (k2 (fun g => z g.2.2.2) _ Gx.rel) z
local macro_rules | `(tactic| walk_at "call") => `(tactic| ((with_reducible show spBlk _ _ _ _ _ _); refine ⟨_, _, _, _, _, _, _, _, rfl, ⟨inferInstance, inferInstance, by assumption, by omega, by omega, by omega, by omega⟩, fun hA H_ e_ => ?_, fun hA H_ e_ => ?_⟩))
def spSht (C : Addr) : Sp := fun vs H Q _ => ∃ (t ones cnt lim φ : Int) (a : Addr) (bs : List Int), vs = [.int t, .int ones, .int cnt, .int lim, .ref a, .int φ] ∧ (RdC C H a bs ∧ RB bs ∧ t < 2 ^ 100 ∧ 0 ≤ φ ∧ φ < 2 ^ 101 ∧ ones ≤ lim ∧ 0 ≤ cnt ∧ cnt < 2 ^ 30 ∧ 0 ≤ lim ∧ lim < 2 ^ 30 ∧ 0 ≤ ones) ∧
  (Sht ones bs cnt lim φ t → ∀ H', Ex H H' → Q (.bl true) H') ∧ (¬ Sht ones bs cnt lim φ t → ∀ H', Ex H H' → Q (.bl false) H')
abbrev s_short_now : Stmt := (top 25)
abbrev N_short_now : List Str := ["t", "ones", "counted", "limit", "budgets", "phase", "window"]
theorem sc_short_now : FnScope N_short_now ["t", "ones", "counted", "limit", "budgets", "phase"] (defScope s_short_now) := ⟨rfl, rfl, rfl, by decide +kernel, rfl, by decide +kernel, by decide +kernel⟩
theorem cl_short_now (T : Bl mg) (R : RdF K mg c_Round) (D : DfG K mg "short_now" s_short_now [] []) (C_Round_total : ClM CX0 P w K mg base 5 c_Round "total" "Round.total" s_Round_total ["self", "start", "count"] [] [] (spWin c_Round)) : ClG CX0 P w K mg base 7 "short_now" s_short_now ["t", "ones", "counted", "limit", "budgets", "phase"] [] [] (spSht c_Round) := by
  have nd := sc_short_now.nd
  refine D.okP sc_short_now (fun vs H Q E h => ?_) (fun f cdv A outer s H vs Q E hr h => ?_)
  · obtain ⟨t, ones, cnt, lim, φ, a, bs, rfl, _⟩ := h
    rfl
  · obtain ⟨t, ones, cnt, lim, φ, a, bs, rfl, ⟨ha, hB, h1, h2, h3, h4, h5, h6, h7, h8, h9⟩, k1, k2⟩ := h
    have hu := hu64 hr
    refine ⟨_, (pss_cons (ps_if (pt_cmpR opLt (pv 0) (pe_callB (callMax2 rfl) (by rfl) T.max (by decide +kernel) (pa_cons pe_int (pa_cons (pe_op opSub (pv 2) (pv 1)) pa_nil))) (nomark _))
      (pss_one (ps_ret pe_bl))
      pss_nil)
    (pss_cons (ps_set (i := 6) nd rfl (Or.inl rfl) (pe_op opSub (pv 2) (pv 3)))
    (pss_cons (ps_if (pt_cmpR opLt (pv 6) pe_int (nomark _))
      (pss_one (ps_ret pe_bl))
      pss_nil)
    (pss_one (ps_ret (pe_cmpR opLt (pe_m C_Round_total R.c (by exact hr.mono (by decide)) pass0 (fun _ _ _ _ _ _ us hl => match us, hl with | [_, _, _], _ => rfl) (pv 4) (pa_cons (pe_op opSub (pe_op (opAddK (K := K) (by rfl)) (pv 5) (pv 0)) (pv 6)) (pa_cons (pv 6) pa_nil))) (pe_op opSub (pv 3) pe_int) (nomark _))))))), ?_⟩
    try dsimp only [L2.cxOf, L2.Cx.nox]
    simp only [L2.start, N_short_now, List.map_cons, List.map_nil, List.length_cons, List.length_nil, Nat.reduceAdd, Nat.reduceSub, List.replicate_succ, List.replicate_zero, List.cons_append, List.nil_append]

    walk_at "gos"
    · exact k2 (fun g => by obtain ⟨g0, g1, g2⟩ := g; omega) _ Gx.rel
    · exact k1 ⟨by omega, by omega, .inl (by omega)⟩ _ Gx.rel
    · by_cases z : win bs (φ + t - (cnt - lim)) (cnt - lim) < lim - 1
      · exact Gx.q_dec (k1 ⟨by omega, by omega, .inr z⟩ _ Gx.rel) z
      · exact Gx.q_decN (k2 (fun g => by obtain ⟨g0, g1, g2⟩ := g; omega) _ Gx.rel) z
local macro_rules | `(tactic| walk_at "call") => `(tactic| ((with_reducible show spSht _ _ _ _ _); refine ⟨_, _, _, _, _, _, _, rfl, ⟨inferInstance, by assumption, by omega, by omega, by omega, by omega, by omega, by omega, by omega, by omega, by omega⟩, fun hA H_ e_ => ?_, fun hA H_ e_ => ?_⟩))
def b2 (l : Bool) : Int := if l = true then 1 else 0
theorem b2_b (l : Bool) : 0 ≤ b2 l ∧ b2 l ≤ 1 := by cases l <;> simp [b2]
def spBlkAt (C : Addr) : Sp := fun vs H Q _ => ∃ (l : List Bool) (p lim φ : Int) (a : Addr) (bs : List Int) (lt : Bool), vs = [.str (tx l), .int p, .int lim, .ref a, .int φ, .bl lt] ∧ (RdC C H a bs ∧ RB bs ∧ Std l p lim φ) ∧
  (∀ t H', Ex H H' → t < p - b2 lt → Blk l bs (p - b2 lt) lim φ t → (∀ j, j < t → ¬ Blk l bs (p - b2 lt) lim φ j) → Q (.int t) H') ∧ ((∀ j, j < p - b2 lt → ¬ Blk l bs (p - b2 lt) lim φ j) → ∀ H', Ex H H' → Q .non H')
abbrev s_blocked_at : Stmt := (top 26)
abbrev N_blocked_at : List Str := ["word", "places", "limit", "budgets", "phase", "late", "counted", "spots", "t"]
theorem sc_blocked_at : FnScope N_blocked_at ["word", "places", "limit", "budgets", "phase", "late"] (defScope s_blocked_at) := ⟨rfl, rfl, rfl, by decide +kernel, rfl, by decide +kernel, by decide +kernel⟩
theorem cl_blocked_at (T : Bl mg) (R : RdF K mg c_Round) (D : DfG K mg "blocked_at" s_blocked_at [.int 0] [("late", .bl false)]) (C_blocked_now : ClG CX0 P w K mg base 7 "blocked_now" s_blocked_now ["t", "spots", "counted", "limit", "budgets", "phase"] [] [] (spBlk c_Round K)) (C_depths : ClG CX0 P w K mg base 5 "depths" s_depths ["word"] [] [] spDepths) (C_counted_places : ClG CX0 P w K mg base 3 "counted_places" s_counted_places ["places", "late"] [] [] spCnt) (C_check_standing : ClG CX0 P w K mg base 7 "check_standing" s_check_standing ["word", "places", "limit", "phase", "most"] [.int 0] [] spChk) : ClG CX0 P w K mg base 9 "blocked_at" s_blocked_at ["word", "places", "limit", "budgets", "phase", "late"] [.int 0] [("late", .bl false)] (spBlkAt c_Round) := by
  have nd := sc_blocked_at.nd
  refine D.okP sc_blocked_at (fun vs H Q E h => ?_) (fun f cdv A outer s H vs Q E hr h => ?_)
  · obtain ⟨l, p, lim, φ, a, bs, lt, rfl, _⟩ := h
    rfl
  · obtain ⟨l, p, lim, φ, a, bs, lt, rfl, ⟨ha, hB, ⟨i1, i2, i3, i4, i5, i6, i7, i8, i9⟩⟩, k1, k2⟩ := h
    have hu := hu64 hr
    refine ⟨_, (pss_cons (ps_expr (pe_g1 C_check_standing (by exact hr.mono (by decide)) (E := fun _ => E0) (fun σ => passC0 σ) 4 0 (by decide) (by decide) (fun _ _ _ _ _ _ _ us its h1 h2 => match us, its, h1, h2 with | [_, _, _, _], [_], _, _ => ⟨_, rfl, rfl⟩) (pa_cons (pv 0) (pa_cons (pv 1) (pa_cons (pv 2) (pa_cons (pv 4) pa_nil))))))
    (pss_cons (ps_set (i := 6) nd rfl (Or.inl rfl) (pe_g C_counted_places (by exact hr.mono (by decide)) (E := fun _ => E0) (fun σ => passC0 σ) (fun _ _ _ _ _ _ us hl => match us, hl with | [_, _], _ => rfl) (pa_cons (pv 1) (pa_cons (pv 5) pa_nil))))
    (pss_cons (ps_set (i := 7) nd rfl (Or.inl rfl) (pe_g C_depths (by exact hr.mono (by decide)) (E := fun _ => E0) (fun σ => passC0 σ) (fun _ _ _ _ _ _ us hl => match us, hl with | [_], _ => rfl) (pa_cons (pv 0) pa_nil)))
    (pss_cons (ps_for PassesOwn.never rfl (pi_range1 rfl T.range (pa_cons (pv 6) pa_nil)) (pg_name (i := 8) nd rfl (Or.inl rfl))
      (pss_one (ps_if (pt_val (pe_g C_blocked_now (by exact hr.mono (by decide)) (E := fun _ => E0) (fun σ => passC0 σ) (fun _ _ _ _ _ _ us hl => match us, hl with | [_, _, _, _, _, _], _ => rfl) (pa_cons (pv 8) (pa_cons (pv 7) (pa_cons (pv 6) (pa_cons (pv 2) (pa_cons (pv 3) (pa_cons (pv 4) pa_nil))))))))
      (pss_one (ps_ret (pv 8)))
      pss_nil)))
    (pss_one (ps_ret pe_non)))))), ?_⟩
    try dsimp only [L2.cxOf, L2.Cx.nox]
    simp only [L2.start, N_blocked_at, List.map_cons, List.map_nil, List.length_cons, List.length_nil, Nat.reduceAdd, Nat.reduceSub, List.replicate_succ, List.replicate_zero, List.cons_append, List.nil_append]

    have hw1 := i1.1
    have hb2 := b2_b lt
    walk_at "gos"
    rename_i q H1 nq e1 hq
    have hbb : (if lt = true then (1 : Int) else 0) = b2 lt := rfl
    rw [hbb]
    refine Gx.for1 [] (fun i σ' H' => ∃ s8, σ' = [some (.str (tx l)), some (.int p), some (.int lim), some (.ref a), some (.int φ), some (.bl lt), some (.int (p - b2 lt)), some (.ref q), s8] ∧ ∀ j : Int, j < (i : Nat) → ¬ Blk l bs (p - b2 lt) lim φ j) (by omega) ⟨_, rfl, fun j hj g => by have := g.1; omega⟩ ?_ ?_
    · rintro i σ' H' hi e ⟨s8, rfl, hj⟩
      walk_at "gos"
      · walk_at "gos"
        rename_i hA H2 e2
        exact k1 _ _ Gx.rel (by omega) hA hj
      · walk_at "gos"
        rename_i hA H2 e2
        refine Gx.li ⟨_, rfl, fun j hj2 => ?_⟩
        by_cases z : j = (i : Nat)
        · rw [z]; exact hA
        · exact hj j (by omega)
    · rintro σ' H' e ⟨s8, rfl, hj⟩
      walk_at "gos"
      exact k2 (fun j h => hj j (by omega)) _ Gx.rel

abbrev s_Round___len__ : Stmt := (inClass (top 50) 4)
abbrev N_Round___len__ : List Str := ["self"]
theorem sc_Round___len__ : FnScope N_Round___len__ ["self"] (defScope s_Round___len__) := ⟨rfl, rfl, rfl, by decide +kernel, rfl, by decide +kernel, by decide +kernel⟩
theorem cl_Round___len__ (T : Bl mg) (R : RdF K mg c_Round) (D : DfM K c_Round "__len__" "Round.__len__" s_Round___len__ [] [])  : ClM CX0 P w K mg base 3 c_Round "__len__" "Round.__len__" s_Round___len__ ["self"] [] [] (Gx.spLen c_Round) := by
  have nd := sc_Round___len__.nd
  refine D.okP sc_Round___len__ (fun vs H Q E h => ?_) (fun f cdv A outer s H vs Q E hr h => ?_)
  · obtain ⟨a, bs, rfl, _⟩ := h
    rfl
  · obtain ⟨a, bs, rfl, ha, k⟩ := h
    have hu := hu64 hr
    refine ⟨_, (pss_one (ps_ret (pe_callB (callLenK (K := K) (by rfl)) (by rfl) T.len (by decide +kernel) (pa_cons (pe_fld (pv 0) rfl) pa_nil)))), ?_⟩
    try dsimp only [L2.cxOf, L2.Cx.nox]
    simp only [L2.start, N_Round___len__, List.map_cons, List.map_nil, List.length_cons, List.length_nil, Nat.reduceAdd, Nat.reduceSub, List.replicate_succ, List.replicate_zero, List.cons_append, List.nil_append]

    walk_at "gos"
    exact k
local macro_rules | `(tactic| walk_at "call") => `(tactic| ((with_reducible show Gx.spLen _ _ _ _ _); refine Gx.use_len (by omega) ?_))
def spShtAt (C : Addr) : Sp := fun vs H Q _ => ∃ (l : List Bool) (p lim φ : Int) (a : Addr) (bs : List Int) (lt : Bool), vs = [.str (tx l), .int p, .int lim, .ref a, .int φ, .bl lt] ∧ (RdC C H a bs ∧ RB bs ∧ Std l p lim φ) ∧
  (∀ (t : Int) H', Ex H H' → (t < bs.length ∨ t < p - b2 lt - (l.count true : Nat) + bs.length) → Sht (l.count true : Nat) bs (p - b2 lt) lim φ t → (∀ j : Int, j < t → ¬ Sht (l.count true : Nat) bs (p - b2 lt) lim φ j) → Q (.int t) H') ∧
  ((∀ j : Int, (j < bs.length ∨ j < p - b2 lt - (l.count true : Nat) + bs.length) → ¬ Sht (l.count true : Nat) bs (p - b2 lt) lim φ j) → ∀ H', Ex H H' → Q .non H')
abbrev s_short_at : Stmt := (top 27)
abbrev N_short_at : List Str := ["word", "places", "limit", "budgets", "phase", "late", "counted", "ones", "first", "t"]
theorem sc_short_at : FnScope N_short_at ["word", "places", "limit", "budgets", "phase", "late"] (defScope s_short_at) := ⟨rfl, rfl, rfl, by decide +kernel, rfl, by decide +kernel, by decide +kernel⟩
theorem cl_short_at (T : Bl mg) (R : RdF K mg c_Round) (D : DfG K mg "short_at" s_short_at [.int 0] [("late", .bl false)]) (C_Round___len__ : ClM CX0 P w K mg base 3 c_Round "__len__" "Round.__len__" s_Round___len__ ["self"] [] [] (Gx.spLen c_Round)) (C_short_now : ClG CX0 P w K mg base 7 "short_now" s_short_now ["t", "ones", "counted", "limit", "budgets", "phase"] [] [] (spSht c_Round)) (C_living : ClG CX0 P w K mg base 5 "living" s_living ["word"] [] [] spLiving) (C_counted_places : ClG CX0 P w K mg base 3 "counted_places" s_counted_places ["places", "late"] [] [] spCnt) (C_check_standing : ClG CX0 P w K mg base 7 "check_standing" s_check_standing ["word", "places", "limit", "phase", "most"] [.int 0] [] spChk) : ClG CX0 P w K mg base 9 "short_at" s_short_at ["word", "places", "limit", "budgets", "phase", "late"] [.int 0] [("late", .bl false)] (spShtAt c_Round) := by
  have nd := sc_short_at.nd
  refine D.okP sc_short_at (fun vs H Q E h => ?_) (fun f cdv A outer s H vs Q E hr h => ?_)
  · obtain ⟨l, p, lim, φ, a, bs, lt, rfl, _⟩ := h
    rfl
  · obtain ⟨l, p, lim, φ, a, bs, lt, rfl, ⟨ha, hB, ⟨i1, i2, i3, i4, i5, i6, i7, i8, i9⟩⟩, k1, k2⟩ := h
    have hu := hu64 hr
    refine ⟨_, (pss_cons (ps_expr (pe_g1 C_check_standing (by exact hr.mono (by decide)) (E := fun _ => E0) (fun σ => passC0 σ) 4 0 (by decide) (by decide) (fun _ _ _ _ _ _ _ us its h1 h2 => match us, its, h1, h2 with | [_, _, _, _], [_], _, _ => ⟨_, rfl, rfl⟩) (pa_cons (pv 0) (pa_cons (pv 1) (pa_cons (pv 2) (pa_cons (pv 4) pa_nil))))))
    (pss_cons (ps_set (i := 6) nd rfl (Or.inl rfl) (pe_g C_counted_places (by exact hr.mono (by decide)) (E := fun _ => E0) (fun σ => passC0 σ) (fun _ _ _ _ _ _ us hl => match us, hl with | [_, _], _ => rfl) (pa_cons (pv 1) (pa_cons (pv 5) pa_nil))))
    (pss_cons (ps_set (i := 7) nd rfl (Or.inl rfl) (pe_g C_living (by exact hr.mono (by decide)) (E := fun _ => E0) (fun σ => passC0 σ) (fun _ _ _ _ _ _ us hl => match us, hl with | [_], _ => rfl) (pa_cons (pv 0) pa_nil)))
    (pss_cons (ps_set (i := 8) nd rfl (Or.inl rfl) (pe_callB (callMax2 rfl) (by rfl) T.max (by decide +kernel) (pa_cons pe_int (pa_cons (pe_op opSub (pv 6) (pv 7)) pa_nil))))
    (pss_cons (ps_for PassesOwn.never rfl (pi_range2 rfl T.range (pa_cons (pv 8) (pa_cons (pe_op (opAddK (K := K) (by rfl)) (pv 8) (pe_callB (callOwnLen C_Round___len__ (by exact hr.mono (by decide)) pass0 (fun _ _ _ _ _ _ us hl => match us, hl with | [_], _ => rfl)) (by rfl) T.len (by decide +kernel) (pa_cons (pv 3) pa_nil))) pa_nil))) (pg_name (i := 9) nd rfl (Or.inl rfl))
      (pss_one (ps_if (pt_val (pe_g C_short_now (by exact hr.mono (by decide)) (E := fun _ => E0) (fun σ => passC0 σ) (fun _ _ _ _ _ _ us hl => match us, hl with | [_, _, _, _, _, _], _ => rfl) (pa_cons (pv 9) (pa_cons (pv 7) (pa_cons (pv 6) (pa_cons (pv 2) (pa_cons (pv 3) (pa_cons (pv 4) pa_nil))))))))
      (pss_one (ps_ret (pv 9)))
      pss_nil)))
    (pss_one (ps_ret pe_non))))))), ?_⟩
    try dsimp only [L2.cxOf, L2.Cx.nox]
    simp only [L2.start, N_short_at, List.map_cons, List.map_nil, List.length_cons, List.length_nil, Nat.reduceAdd, Nat.reduceSub, List.replicate_succ, List.replicate_zero, List.cons_append, List.nil_append]

    have hw1 := i1.1
    have l1 := hB.l1
    have l2 := hB.l2
    have hb2 := b2_b lt
    have hbb : (if lt = true then (1 : Int) else 0) = b2 lt := rfl
    walk_at "gos"
    rw [hbb]
    obtain ⟨f, hf⟩ : ∃ f : Int, f = if p - b2 lt - (l.count true : Nat) > 0 then p - b2 lt - (l.count true : Nat) else 0 := ⟨_, rfl⟩
    rw [← hf]
    refine Gx.for2 [] (fun i σ' H' => ∃ s8, σ' = [some (.str (tx l)), some (.int p), some (.int lim), some (.ref a), some (.int φ), some (.bl lt), some (.int (p - b2 lt)), some (.int (l.count true : Nat)), some (.int f), s8] ∧ ∀ j : Int, j < f + (i : Nat) → ¬ Sht (l.count true : Nat) bs (p - b2 lt) lim φ j) (by omega) ⟨_, rfl, fun j hj g => by obtain ⟨g0, g1, g2⟩ := g; omega⟩ ?_ ?_
    · rintro i σ' H' hi e ⟨s8, rfl, hj⟩
      walk_at "gos"
      · walk_at "gos"
        rename_i hA H2 e2
        exact k1 _ _ Gx.rel (by omega) hA hj
      · walk_at "gos"
        rename_i hA H2 e2
        refine Gx.li ⟨_, rfl, fun j hj2 => ?_⟩
        by_cases z : j = f + (i : Nat)
        · rw [z]; exact hA
        · exact hj j (by omega)
    · rintro σ' H' e ⟨s8, rfl, hj⟩
      walk_at "gos"
      exact k2 (fun j h => hj j (by omega)) _ Gx.rel
local macro_rules | `(tactic| walk_at "call") => `(tactic| first
  | ((with_reducible show spBlkAt _ _ _ _ _); refine ⟨_, _, _, _, _, _, _, rfl, ⟨inferInstance, by assumption, by assumption⟩, fun t_ H_ e_ h1_ h2_ h3_ => ?_, fun h1_ H_ e_ => ?_⟩)
  | ((with_reducible show spShtAt _ _ _ _ _); refine ⟨_, _, _, _, _, _, _, rfl, ⟨inferInstance, by assumption, by assumption⟩, fun t_ H_ e_ h1_ h2_ h3_ => ?_, fun h1_ H_ e_ => ?_⟩))
def spCrit (C : Addr) : Sp := fun vs H Q _ => ∃ (l : List Bool) (p lim φ : Int) (a : Addr) (bs : List Int) (lt : Bool), vs = [.str (tx l), .int p, .int lim, .ref a, .int φ, .bl lt] ∧ (RdC C H a bs ∧ RB bs ∧ Std l p lim φ) ∧
  (∀ t H', Ex H H' → Bad l bs (p - b2 lt) lim φ t → (∀ j, j < t → ¬ Bad l bs (p - b2 lt) lim φ j) → Q (.int t) H') ∧ ((∀ j, ¬ Bad l bs (p - b2 lt) lim φ j) → ∀ H', Ex H H' → Q .non H')
abbrev s_critical_put : Stmt := (top 28)
abbrev N_critical_put : List Str := ["word", "places", "limit", "budgets", "phase", "late", "blocked", "short"]
theorem sc_critical_put : FnScope N_critical_put ["word", "places", "limit", "budgets", "phase", "late"] (defScope s_critical_put) := ⟨rfl, rfl, rfl, by decide +kernel, rfl, by decide +kernel, by decide +kernel⟩
theorem cl_critical_put (T : Bl mg) (R : RdF K mg c_Round) (D : DfG K mg "critical_put" s_critical_put [] []) (C_short_at : ClG CX0 P w K mg base 9 "short_at" s_short_at ["word", "places", "limit", "budgets", "phase", "late"] [.int 0] [("late", .bl false)] (spShtAt c_Round)) (C_blocked_at : ClG CX0 P w K mg base 9 "blocked_at" s_blocked_at ["word", "places", "limit", "budgets", "phase", "late"] [.int 0] [("late", .bl false)] (spBlkAt c_Round)) : ClG CX0 P w K mg base 11 "critical_put" s_critical_put ["word", "places", "limit", "budgets", "phase", "late"] [] [] (spCrit c_Round) := by
  have nd := sc_critical_put.nd
  refine D.okP sc_critical_put (fun vs H Q E h => ?_) (fun f cdv A outer s H vs Q E hr h => ?_)
  · obtain ⟨l, p, lim, φ, a, bs, lt, rfl, _⟩ := h
    rfl
  · obtain ⟨l, p, lim, φ, a, bs, lt, rfl, ⟨ha, hB, hS⟩, k1, k2⟩ := h
    have hu := hu64 hr
    refine ⟨_, (pss_cons (ps_set (i := 6) nd rfl (Or.inl rfl) (pe_gkd (st := s_blocked_at) (ps := ["word", "places", "limit", "budgets", "phase", "late"]) (kws := [("late", .bl false)]) (x := "blocked_at") C_blocked_at (by exact hr.mono (by decide)) (E := fun _ => E0) (fun σ => passC0 σ) 5 ["late"] [] (fun us its mv ws => ((us ++ its.drop 1) ++ ((ws.drop 0).take 1))) (by decide) (by decide) (by decide) (fun r1 r2 r3 r4 => (Vals.append (Vals.append r1 (r2.drop 1)) ((r4.drop 0).take 1))) (fun _ _ _ _ _ _ _ us its mv ws h1 h2 h3 h4 => match us, its, mv, ws, h1, h2, h3, h4 with | [_, _, _, _, _], [_], [], [_], _, _, _, _ => ⟨_, rfl, rfl⟩) (pa_cons (pv 0) (pa_cons (pv 1) (pa_cons (pv 2) (pa_cons (pv 3) (pa_cons (pv 4) pa_nil))))) (pk_cons (pv 5) pk_nil)))
    (pss_cons (ps_set (i := 7) nd rfl (Or.inl rfl) (pe_gkd (st := s_short_at) (ps := ["word", "places", "limit", "budgets", "phase", "late"]) (kws := [("late", .bl false)]) (x := "short_at") C_short_at (by exact hr.mono (by decide)) (E := fun _ => E0) (fun σ => passC0 σ) 5 ["late"] [] (fun us its mv ws => ((us ++ its.drop 1) ++ ((ws.drop 0).take 1))) (by decide) (by decide) (by decide) (fun r1 r2 r3 r4 => (Vals.append (Vals.append r1 (r2.drop 1)) ((r4.drop 0).take 1))) (fun _ _ _ _ _ _ _ us its mv ws h1 h2 h3 h4 => match us, its, mv, ws, h1, h2, h3, h4 with | [_, _, _, _, _], [_], [], [_], _, _, _, _ => ⟨_, rfl, rfl⟩) (pa_cons (pv 0) (pa_cons (pv 1) (pa_cons (pv 2) (pa_cons (pv 3) (pa_cons (pv 4) pa_nil))))) (pk_cons (pv 5) pk_nil)))
    (pss_cons (ps_if (pt_cmpR opIsN (pv 6) pe_non (nomark _))
      (pss_one (ps_ret (pv 7)))
      pss_nil)
    (pss_cons (ps_if (pt_cmpR opIsN (pv 7) pe_non (nomark _))
      (pss_one (ps_ret (pv 6)))
      pss_nil)
    (pss_one (ps_ret (pe_callB (callMin2 rfl) (by rfl) T.min (by decide +kernel) (pa_cons (pv 6) (pa_cons (pv 7) pa_nil))))))))), ?_⟩
    try dsimp only [L2.cxOf, L2.Cx.nox]
    simp only [L2.start, N_critical_put, List.map_cons, List.map_nil, List.length_cons, List.length_nil, Nat.reduceAdd, Nat.reduceSub, List.replicate_succ, List.replicate_zero, List.cons_append, List.nil_append]

    walk_at "go"
    · walk_at "gos"
      rename_i t H1 e1 h1 h2 h3 u H2 e2 g1 g2 g3
      refine k1 (if u < t then u else t) _ Gx.rel ?_ fun j hj => ?_
      · by_cases z : u < t
        · rw [if_pos z]; exact .inr ⟨g1, g2⟩
        · rw [if_neg z]; exact .inl ⟨h1, h2⟩
      · rintro (⟨_, b⟩ | ⟨_, b⟩)
        · exact h3 j (by omega) b
        · exact g3 j (by omega) b
    · walk_at "gos"
      rename_i t H1 e1 h1 h2 h3 g1 H2 e2
      refine k1 t _ Gx.rel (.inl ⟨h1, h2⟩) fun j hj => ?_
      rintro (⟨_, b⟩ | ⟨a, b⟩)
      · exact h3 j (by omega) b
      · exact g1 j a b
    · rename_i h1 H1 e1
      walk_at "gos"
      · walk_at "gos"
        rename_i u H2 e2 g1 g2 g3
        refine k1 u _ Gx.rel (.inr ⟨g1, g2⟩) fun j hj => ?_
        rintro (⟨a, b⟩ | ⟨_, b⟩)
        · exact h1 j a b
        · exact g3 j (by omega) b
      · walk_at "gos"
        rename_i g1 H2 e2
        refine k2 (fun j => ?_) _ Gx.rel
        rintro (⟨a, b⟩ | ⟨a, b⟩)
        · exact h1 j a b
        · exact g1 j a b
local macro_rules | `(tactic| walk_at "call") => `(tactic| ((with_reducible show spCrit _ _ _ _ _); refine ⟨_, _, _, _, _, _, _, rfl, ⟨inferInstance, by assumption, by assumption⟩, fun t_ H_ e_ h1_ h2_ => ?_, fun h1_ H_ e_ => ?_⟩))
def spLife (C : Addr) : Sp := fun vs H Q _ => ∃ (l : List Bool) (p lim φ : Int) (a : Addr) (bs : List Int) (lt : Bool), vs = [.str (tx l), .int p, .int lim, .ref a, .int φ, .bl lt] ∧ (RdC C H a bs ∧ RB bs ∧ Std l p lim φ) ∧
  (lt = true → (l.length : Int) = p → Q (.int 0) H) ∧
  (¬ (lt = true ∧ (l.length : Int) = p) → ∀ t H', Ex H H' → Bad l bs (p - b2 lt) lim φ t → (∀ j, j < t → ¬ Bad l bs (p - b2 lt) lim φ j) → Q (.int (t + b2 lt)) H') ∧
  (¬ (lt = true ∧ (l.length : Int) = p) → (∀ j, ¬ Bad l bs (p - b2 lt) lim φ j) → ∀ H', Ex H H' → Q .non H')
abbrev s_life : Stmt := (top 29)
abbrev N_life : List Str := ["word", "places", "limit", "budgets", "phase", "late", "critical"]
theorem sc_life : FnScope N_life ["word", "places", "limit", "budgets", "phase", "late"] (defScope s_life) := ⟨rfl, rfl, rfl, by decide +kernel, rfl, by decide +kernel, by decide +kernel⟩
theorem cl_life (T : Bl mg) (R : RdF K mg c_Round) (D : DfG K mg "life" s_life [.int 0] [("late", .bl false)]) (C_critical_put : ClG CX0 P w K mg base 11 "critical_put" s_critical_put ["word", "places", "limit", "budgets", "phase", "late"] [] [] (spCrit c_Round)) (C_check_standing : ClG CX0 P w K mg base 7 "check_standing" s_check_standing ["word", "places", "limit", "phase", "most"] [.int 0] [] spChk) : ClG CX0 P w K mg base 13 "life" s_life ["word", "places", "limit", "budgets", "phase", "late"] [.int 0] [("late", .bl false)] (spLife c_Round) := by
  have nd := sc_life.nd
  refine D.okP sc_life (fun vs H Q E h => ?_) (fun f cdv A outer s H vs Q E hr h => ?_)
  · obtain ⟨l, p, lim, φ, a, bs, lt, rfl, _⟩ := h
    rfl
  · obtain ⟨l, p, lim, φ, a, bs, lt, rfl, ⟨ha, hB, hS⟩, k0, k1, k2⟩ := h
    have hu := hu64 hr
    refine ⟨_, (pss_cons (ps_expr (pe_g1 C_check_standing (by exact hr.mono (by decide)) (E := fun _ => E0) (fun σ => passC0 σ) 4 0 (by decide) (by decide) (fun _ _ _ _ _ _ _ us its h1 h2 => match us, its, h1, h2 with | [_, _, _, _], [_], _, _ => ⟨_, rfl, rfl⟩) (pa_cons (pv 0) (pa_cons (pv 1) (pa_cons (pv 2) (pa_cons (pv 4) pa_nil))))))
    (pss_cons (ps_if (PW.pt (pw_and (pt_val (pv 5)) (pw_and1 (pt_cmpR (opEqK (K := K) (by rfl) (by exact hu)) (pe_callB (callLenK (K := K) (by rfl)) (by rfl) T.len (by decide +kernel) (pa_cons (pv 0) pa_nil)) (pv 1) (nomark _)))))
      (pss_one (ps_ret pe_int))
      pss_nil)
    (pss_cons (ps_set (i := 6) nd rfl (Or.inl rfl) (pe_g C_critical_put (by exact hr.mono (by decide)) (E := fun _ => E0) (fun σ => passC0 σ) (fun _ _ _ _ _ _ us hl => match us, hl with | [_, _, _, _, _, _], _ => rfl) (pa_cons (pv 0) (pa_cons (pv 1) (pa_cons (pv 2) (pa_cons (pv 3) (pa_cons (pv 4) (pa_cons (pv 5) pa_nil))))))))
    (pss_cons (ps_if (pt_cmpR opIsN (pv 6) pe_non (nomark _))
      (pss_one (ps_ret pe_non))
      pss_nil)
    (pss_cons (ps_if (pt_val (pv 5))
      (pss_one (ps_ret (pe_op (opAddK (K := K) (by rfl)) (pv 6) pe_int)))
      pss_nil)
    (pss_one (ps_ret (pv 6)))))))), ?_⟩
    try dsimp only [L2.cxOf, L2.Cx.nox]
    simp only [L2.start, N_life, List.map_cons, List.map_nil, List.length_cons, List.length_nil, Nat.reduceAdd, Nat.reduceSub, List.replicate_succ, List.replicate_zero, List.cons_append, List.nil_append]

    have hS' := hS
    obtain ⟨i1, i2, i3, i4, i5, i6, i7, i8, i9⟩ := hS
    have hw1 := i1.1
    cases lt
    · walk_at "gos"
      · walk_at "gos"
        rename_i t H1 e1 h1 h2
        have := k1 (fun h => by cases h.1) t _ e1 h1 h2
        rw [show t + b2 false = t from by simp [b2]] at this
        exact this
      · walk_at "gos"
        rename_i h1 H1 e1
        exact k2 (fun h => by cases h.1) h1 _ e1
    · have e1 : p - b2 true = p - 1 := by simp [b2]
      walk_at "gos"
      · rename_i hI
        exact k0 rfl hI
      · walk_at "gos"
        rename_i hI t H1 e1 h1 h2
        exact k1 (fun h => hI h.2) t _ Gx.rel h1 h2
      · walk_at "gos"
        rename_i hI h1 H1 e1
        exact k2 (fun h => hI h.2) h1 _ Gx.rel
theorem use_lifeN {C : Addr} {l : List Bool} {p lim φ : Int} {a : Addr} {bs : List Int} {lt : Bool} {H : Hp} {Q : VK} {E : XK} [h : RdC C H a bs] (hB : RB bs) (hS : Std l p lim φ) (h1 : ¬ (lt = true ∧ (l.length : Int) = p)) (h2 : ∀ j, ¬ Bad l bs (p - b2 lt) lim φ j) (q : ∀ H', Ex H H' → Q .non H') : spLife C [.str (tx l), .int p, .int lim, .ref a, .int φ, .bl lt] H Q E :=
  ⟨l, p, lim, φ, a, bs, lt, rfl, ⟨h, hB, hS⟩, fun a b => absurd ⟨a, b⟩ h1, fun _ t _ _ b _ => absurd b (h2 t), fun _ _ => q⟩
theorem use_lifeS {C : Addr} {l : List Bool} {p lim φ t : Int} {a : Addr} {bs : List Int} {lt : Bool} {H : Hp} {Q : VK} {E : XK} [h : RdC C H a bs] (hB : RB bs) (hS : Std l p lim φ) (h1 : ¬ (lt = true ∧ (l.length : Int) = p)) (h2 : Bad l bs (p - b2 lt) lim φ t) (h3 : ∀ j, j < t → ¬ Bad l bs (p - b2 lt) lim φ j) (q : ∀ H', Ex H H' → Q (.int (t + b2 lt)) H') : spLife C [.str (tx l), .int p, .int lim, .ref a, .int φ, .bl lt] H Q E :=
  ⟨l, p, lim, φ, a, bs, lt, rfl, ⟨h, hB, hS⟩, fun a b => absurd ⟨a, b⟩ h1, fun _ u H' e b c => by
    have : u = t := by
      rcases Int.lt_trichotomy u t with z | z | z
      · exact absurd b (h3 u z)
      · exact z
      · exact absurd h2 (c t z)
    subst this
    exact q H' e, fun _ c => absurd h2 (c t)⟩
def spSafe (C : Addr) : Sp := fun vs H Q _ => ∃ (l : List Bool) (p lim φ : Int) (a : Addr) (bs : List Int) (lt : Bool), vs = [.str (tx l), .int p, .int lim, .ref a, .int φ, .bl lt] ∧ (RdC C H a bs ∧ RB bs ∧ Std l p lim φ) ∧
  (¬ (lt = true ∧ (l.length : Int) = p) → (∀ j, ¬ Bad l bs (p - b2 lt) lim φ j) → ∀ H', Ex H H' → Q (.bl true) H') ∧
  ((lt = true ∧ (l.length : Int) = p) ∨ (∃ t, Bad l bs (p - b2 lt) lim φ t) → ∀ H', Ex H H' → Q (.bl false) H')
abbrev s_safe : Stmt := (top 30)
abbrev N_safe : List Str := ["word", "places", "limit", "budgets", "phase", "late"]
theorem sc_safe : FnScope N_safe ["word", "places", "limit", "budgets", "phase", "late"] (defScope s_safe) := ⟨rfl, rfl, rfl, by decide +kernel, rfl, by decide +kernel, by decide +kernel⟩
theorem cl_safe (T : Bl mg) (R : RdF K mg c_Round) (D : DfG K mg "safe" s_safe [.int 0] [("late", .bl false)]) (C_life : ClG CX0 P w K mg base 13 "life" s_life ["word", "places", "limit", "budgets", "phase", "late"] [.int 0] [("late", .bl false)] (spLife c_Round)) : ClG CX0 P w K mg base 15 "safe" s_safe ["word", "places", "limit", "budgets", "phase", "late"] [.int 0] [("late", .bl false)] (spSafe c_Round) := by
  have nd := sc_safe.nd
  refine D.okP sc_safe (fun vs H Q E h => ?_) (fun f cdv A outer s H vs Q E hr h => ?_)
  · obtain ⟨l, p, lim, φ, a, bs, lt, rfl, _⟩ := h
    rfl
  · obtain ⟨l, p, lim, φ, a, bs, lt, rfl, ⟨ha, hB, hS⟩, k1, k2⟩ := h
    have hu := hu64 hr
    refine ⟨_, (pss_one (ps_ret (pe_cmpR opIsN (pe_gkd (st := s_life) (ps := ["word", "places", "limit", "budgets", "phase", "late"]) (kws := [("late", .bl false)]) (x := "life") C_life (by exact hr.mono (by decide)) (E := fun _ => E0) (fun σ => passC0 σ) 5 ["late"] [] (fun us its mv ws => ((us ++ its.drop 1) ++ ((ws.drop 0).take 1))) (by decide) (by decide) (by decide) (fun r1 r2 r3 r4 => (Vals.append (Vals.append r1 (r2.drop 1)) ((r4.drop 0).take 1))) (fun _ _ _ _ _ _ _ us its mv ws h1 h2 h3 h4 => match us, its, mv, ws, h1, h2, h3, h4 with | [_, _, _, _, _], [_], [], [_], _, _, _, _ => ⟨_, rfl, rfl⟩) (pa_cons (pv 0) (pa_cons (pv 1) (pa_cons (pv 2) (pa_cons (pv 3) (pa_cons (pv 4) pa_nil))))) (pk_cons (pv 5) pk_nil)) pe_non (nomark _)))), ?_⟩
    try dsimp only [L2.cxOf, L2.Cx.nox]
    simp only [L2.start, N_safe, List.map_cons, List.map_nil, List.length_cons, List.length_nil, Nat.reduceAdd, Nat.reduceSub, List.replicate_succ, List.replicate_zero, List.cons_append, List.nil_append]

    walk_at "go"
    refine ⟨_, _, _, _, _, _, _, rfl, ⟨inferInstance, by assumption, by assumption⟩, fun h1 h2 => ?_, fun h1 t H1 e1 h2 h3 => ?_, fun h1 h2 H1 e1 => ?_⟩
    · walk_at "gos"
      exact k2 (.inl ⟨h1, h2⟩) _ Gx.rel
    · walk_at "gos"
      exact k2 (.inr ⟨t, h2⟩) _ Gx.rel
    · walk_at "gos"
      exact k1 h1 h2 _ Gx.rel
theorem use_safeT {C : Addr} {l : List Bool} {p lim φ : Int} {a : Addr} {bs : List Int} {lt : Bool} {H : Hp} {Q : VK} {E : XK} [h : RdC C H a bs] (hB : RB bs) (hS : Std l p lim φ) (h1 : ¬ (lt = true ∧ (l.length : Int) = p)) (h2 : ∀ j, ¬ Bad l bs (p - b2 lt) lim φ j) (q : ∀ H', Ex H H' → Q (.bl true) H') : spSafe C [.str (tx l), .int p, .int lim, .ref a, .int φ, .bl lt] H Q E :=
  ⟨l, p, lim, φ, a, bs, lt, rfl, ⟨h, hB, hS⟩, fun _ _ => q, fun g => g.elim (fun g => absurd g h1) fun ⟨t, g⟩ => absurd g (h2 t)⟩
theorem use_safeF {C : Addr} {l : List Bool} {p lim φ : Int} {a : Addr} {bs : List Int} {lt : Bool} {H : Hp} {Q : VK} {E : XK} [h : RdC C H a bs] (hB : RB bs) (hS : Std l p lim φ) (h1 : (lt = true ∧ (l.length : Int) = p) ∨ ∃ t, Bad l bs (p - b2 lt) lim φ t) (q : ∀ H', Ex H H' → Q (.bl false) H') : spSafe C [.str (tx l), .int p, .int lim, .ref a, .int φ, .bl lt] H Q E :=
  ⟨l, p, lim, φ, a, bs, lt, rfl, ⟨h, hB, hS⟩, fun g1 g2 => h1.elim (fun g => absurd g g1) fun ⟨t, g⟩ => absurd g (g2 t), fun _ => q⟩

/-! the bag: counter, digits, place, cells -/
class Bg (b : Addr) (H : Hp) : Prop where
  ex : ∃ ns : List Int, H b = some (.lst (ns.map V.int)) ∧ 4 ≤ ns.length ∧ ns.length ≤ 1000
instance (priority := low) bgStep {b : Addr} {cs : List Addr} {H1 H : Hp} [h : Bg b H1] [r : Chg cs H1 H] [n : NotIn b cs] : Bg b H := ⟨by
  obtain ⟨ns, h1, h2⟩ := h.ex
  exact ⟨ns, r.keep _ _ n.out h1, h2⟩⟩
instance liveBg {b : Addr} {H : Hp} [h : Bg b H] : Live H b := ⟨by
  obtain ⟨ns, h1, h2⟩ := h.ex
  exact ⟨_, h1⟩⟩
theorem bg_of {b : Addr} {H : Hp} {ms : List Int} {c : Int} (h : At H b (.lst ([V.int 0, V.int 0, V.int 0] ++ ms.map V.int ++ [V.int c]))) (hl : ms.length ≤ 63) : Bg b H := by
  refine ⟨[0, 0, 0] ++ ms ++ [c], ?_, by simp, by simp; omega⟩
  rw [List.map_append, List.map_append]
  exact h.eq
theorem rb_mem2 {bs cs : List Int} (h : RB bs) (hs : ∀ x ∈ cs, x ∈ bs) (h1 : 1 ≤ cs.length) (h2 : cs.length ≤ 12) : RB cs := ⟨h1, h2, fun b hb => h.h0 b (hs b hb), fun b hb => h.h1 b (hs b hb)⟩
def spBag (K : PySem.W.Frag) : Sp := fun vs H Q _ => ∃ (a : Addr) (ns : List Int), vs = [.ref a] ∧ (SqC K H a (ns.map V.int) ∧ ns.length ≤ 63) ∧ ∀ b H', Nw H b → Ex H H' → Bg b H' → Q (.ref b) H'
local macro_rules | `(tactic| walk_at "call") => `(tactic| ((with_reducible show spBag _ _ _ _ _); refine ⟨_, _, rfl, ⟨inferInstance, by omega⟩, ?_⟩; intro b_ H_ np_ e_ hB_))
def spTake : Sp := fun vs H Q _ => ∃ (b : Addr) (size : Int), vs = [.ref b, .int size] ∧ (Bg b H ∧ 0 < size ∧ size < 2 ^ 200) ∧ ∀ d H', 0 ≤ d → d < size → ExB b H H' → Bg b H' → Q (.int d) H'
theorem use_take {b : Addr} {size : Int} {H : Hp} {Q : VK} {E : XK} [hb : Bg b H] (h1 : 0 < size) (h2 : size < 2 ^ 200) (q : ∀ d H', 0 ≤ d → d < size → ExB b H H' → Bg b H' → Q (.int d) H') : spTake ([.ref b, .int size] ++ []) H Q E := ⟨b, size, rfl, ⟨hb, h1, h2⟩, q⟩
local macro_rules | `(tactic| walk_at "call") => `(tactic| ((with_reducible show spTake _ _ _ _); refine use_take (by omega) (by omega) ?_; intro d_ H_ h0_ h1_ e_ hB_))
/-- a round's budgets -/
def Bud (bs : List Int) : Prop := 1 ≤ bs.length ∧ bs.length ≤ 12 ∧ ∀ x ∈ bs, 0 ≤ x ∧ x ≤ 10 ^ 30
theorem Bud.rb {bs : List Int} (h : Bud bs) : RB bs := ⟨h.1, h.2.1, fun b hb => (h.2.2 b hb).1, fun b hb => by have := (h.2.2 b hb).2; omega⟩
theorem ix_lit {K : PySem.W.Frag} {H : Hp} {Q : VK} {p : Addr} {xs : List V} {ns : List Int} {i : Int} [h : SqC K H p xs] [a : IntsC xs ns] (P : Int → Prop) (h0 : 0 ≤ i) (h1 : i < (ns.length : Int)) (hP : ∀ x ∈ ns, P x) (q : ∀ x, P x → Q (.int x) H) : rIx K (.ref p) (.int i) H Q := by
  haveI : SqC K H p (ns.map V.int) := ⟨by have := h.sq; rw [a.eq] at this; exact this⟩
  refine Gx.g_ixI h0 h1 (q _ ?_)
  rw [List.getD_eq_getElem?_getD, List.getElem?_eq_getElem (by omega), Option.getD_some]
  exact hP _ (List.getElem_mem _)
def spBuds : Sp := fun vs H Q _ => ∃ b : Addr, vs = [.ref b] ∧ Bg b H ∧ ∀ p bs H', Nw H p → ExB b H H' → Bg b H' → At H' p (.lst (bs.map V.int)) → Bud bs → Q (.ref p) H'
local macro_rules | `(tactic| walk_at "call") => `(tactic| ((with_reducible show spBuds _ _ _ _); refine ⟨_, rfl, inferInstance, ?_⟩; intro p_ bs_ H_ np_ e_ hB_ hp_ hR_))
def spLRd (C : Addr) (K : PySem.W.Frag) : Sp := fun vs H Q _ => ∃ (p : Addr) (bs : List Int), vs = [.ref p] ∧ (SqC K H p (bs.map V.int) ∧ RB bs) ∧ ∀ a H', Nw H a → Ex H H' → RdC C H' a bs → Q (.ref a) H'
local macro_rules | `(tactic| walk_at "call") => `(tactic| ((with_reducible show spLRd _ _ _ _ _ _); refine ⟨_, _, rfl, ⟨inferInstance, by assumption⟩, ?_⟩; intro a_ H_ np_ e_ ha_))
/-! the least number of budgets that is enough -/
def spEnough (K : PySem.W.Frag) : Sp := fun vs H Q _ => ∃ (p : Addr) (bs : List Int) (n : Int), vs = [.ref p, .int n] ∧ (SqC K H p (bs.map V.int) ∧ RB bs) ∧ ∀ (r : Nat) H', Ex H H' → r ≤ 70 → (r < 70 → n ≤ least bs (r : Nat)) → (∀ j : Nat, j < r → least bs (j : Nat) < n) → Q (.int (r : Nat)) H'
theorem wins_zero {bs : List Int} : wins bs ((0 : Nat) : Int) = bs.map fun _ => 0 := by
  refine List.ext_getElem? fun i => ?_
  unfold wins
  rw [List.getElem?_map, List.getElem?_map]
  by_cases h : i < bs.length
  · rw [List.getElem?_range h, List.getElem?_eq_getElem h]
    show some (win bs (i : Nat) 0) = some 0
    rw [win_zero]
  · rw [List.getElem?_eq_none (by simp; omega), List.getElem?_eq_none (by omega)]
    rfl
theorem wins_at {bs : List Int} {c : Int} {i : Nat} (h : i < bs.length) : (wins bs c).getD i 0 = win bs (i : Nat) c := by
  rw [List.getD_eq_getElem?_getD]
  unfold wins
  rw [List.getElem?_map, List.getElem?_range h]
  rfl
local macro_rules | `(tactic| walk_at "call") => `(tactic| ((with_reducible show spEnough _ _ _ _ _); refine ⟨_, _, _, rfl, ⟨inferInstance, by assumption⟩, ?_⟩; intro r_ H_ e_ h1_ h2_ h3_))

/-! a word drawn by its gaps -/
def gw (gs : List Int) : List (List Bool) := gs.map fun g => true :: List.replicate g.toNat false
theorem gw_count : ∀ gs : List Int, (gw gs).flatten.count true = gs.length
  | [] => rfl
  | g :: r => by
    show ((true :: List.replicate g.toNat false) ++ (gw r).flatten).count true = _
    rw [List.count_append, gw_count r, List.count_cons, List.count_replicate]
    simp
    omega
theorem gw_len : ∀ {gs : List Int}, (∀ x ∈ gs, 0 ≤ x) → ((gw gs).flatten.length : Int) = gs.length + gs.sum
  | [], _ => rfl
  | g :: r, h => by
    have h1 := gw_len fun x hx => h x (List.mem_cons_of_mem g hx)
    have h2 := h g (List.mem_cons_self ..)
    show ((((true :: List.replicate g.toNat false) ++ (gw r).flatten).length : Nat) : Int) = _
    rw [List.length_append, List.length_cons, List.length_replicate, List.sum_cons, List.length_cons]
    omega
theorem gw_head {gs : List Int} : (gw gs).flatten.head? ≠ some false := by
  cases gs with
  | nil => simp [gw]
  | cons g r => simp [gw]
theorem set_sum : ∀ {gs : List Int} {i : Nat} {v : Int}, i < gs.length → (gs.set i v).sum = gs.sum - gs.getD i 0 + v
  | [], i, v, h => absurd h (Nat.not_lt_zero _)
  | g :: r, 0, v, h => by
    rw [List.set_cons_zero, List.sum_cons, List.sum_cons, List.getD_cons_zero]
    omega
  | g :: r, i + 1, v, h => by
    rw [List.set_cons_succ, List.sum_cons, List.sum_cons, set_sum (by simpa using h), List.getD_cons_succ]
    omega
theorem getD_nn {gs : List Int} {i : Nat} (h : ∀ x ∈ gs, 0 ≤ x) : 0 ≤ gs.getD i 0 := by
  rw [List.getD_eq_getElem?_getD]
  cases e : gs[i]? with
  | none => exact Int.le_refl _
  | some x => exact h x (List.mem_of_getElem? e)
theorem le_sum : ∀ {gs : List Int}, (∀ x ∈ gs, 0 ≤ x) → ∀ x ∈ gs, x ≤ gs.sum
  | [], _, x, hx => by cases hx
  | g :: r, h, x, hx => by
    have h0 := h g (List.mem_cons_self ..)
    have h1 := sum_nn fun y hy => h y (List.mem_cons_of_mem g hy)
    rw [List.sum_cons]
    rcases List.mem_cons.mp hx with e | e
    · omega
    · have := le_sum (fun y hy => h y (List.mem_cons_of_mem g hy)) x e
      omega
theorem mem_set_nn {gs : List Int} {i : Nat} {v : Int} (h : ∀ x ∈ gs, 0 ≤ x) (hv : 0 ≤ v) : ∀ x ∈ gs.set i v, 0 ≤ x := fun x hx => by
  rcases List.mem_or_eq_of_mem_set hx with q | q
  · exact h x q
  · rw [q]; exact hv
theorem gw_snoc {ms : List Int} {i : Nat} {m : Int} (h : ms[i]? = some m) : gw (ms.take (i + 1)) = gw (ms.take i) ++ [true :: List.replicate m.toNat false] := by
  unfold gw
  rw [List.take_succ, h, List.map_append]
  rfl
theorem sum_rep0 : ∀ n : Nat, (List.replicate n (0 : Int)).sum = 0
  | 0 => rfl
  | n + 1 => by rw [List.replicate_succ, List.sum_cons, sum_rep0 n]; rfl
theorem flat_rep : ∀ n : Nat, (List.replicate n [V.int 0]).flatten = (List.replicate n (0 : Int)).map V.int
  | 0 => rfl
  | n + 1 => by rw [List.replicate_succ, List.replicate_succ, List.flatten_cons, flat_rep n]; rfl
theorem g_repZ {K : PySem.W.Frag} {H : Hp} {Q : VK} {p : Addr} {n : Int} [h : At H p (.lst [V.int 0])] (hn : n ≤ 1000 ∧ -1000 ≤ n) (q : ∀ q H', Nw H q → Ex H H' → At H' q (.lst ((List.replicate n.toNat (0 : Int)).map V.int)) → Q (.ref q) H') : Gx.rMul K (.ref p) (.int n) H Q := by
  refine .inr (.inr (.inr ⟨p, n, [V.int 0], rfl, rfl, h.eq, by omega, by omega, ?_, ?_⟩))
  · rw [sizeLine_eq]
    simp
    omega
  · rw [flat_rep]
    exact Gx.g_new q
def spWord : Sp := fun vs H Q _ => ∃ (b : Addr) (p lim : Int), vs = [.ref b, .int p, .int lim] ∧ (Bg b H ∧ 1 ≤ lim ∧ lim ≤ p ∧ p ≤ 64) ∧ ∀ l H', ExB b H H' → Bg b H' → Wd l → ((l.count true : Nat) : Int) ≤ lim → (l.length : Int) ≤ p → Q (.str (tx l)) H'
local macro_rules | `(tactic| walk_at "call") => `(tactic| ((with_reducible show spWord _ _ _ _); refine ⟨_, _, _, rfl, ⟨inferInstance, by omega, by omega, by omega⟩, ?_⟩; intro l_ H_ e_ hB_ hw_ h1_ h2_))
def spIs : Sp := fun vs H Q _ => ∃ (x : V), vs = [x, x] ∧ (x = .non ∨ ∃ i, x = .int i) ∧ Q (.bl true) H
theorem use_isN {H : Hp} {Q : VK} {E : XK} (q : Q (.bl true) H) : spIs ([.non, .non] ++ []) H Q E := ⟨.non, rfl, .inl rfl, q⟩
theorem use_isI {i j : Int} {H : Hp} {Q : VK} {E : XK} (h : i = j) (q : Q (.bl true) H) : spIs ([.int i, .int j] ++ []) H Q E := ⟨.int j, by rw [h]; rfl, .inr ⟨j, rfl⟩, q⟩
local macro_rules | `(tactic| walk_at "call") => `(tactic| ((with_reducible show spIs _ _ _ _); first | refine use_isN ?_ | refine use_isI (by omega) ?_))
def spTruth : Sp := fun vs H Q _ => ∃ (x : Bool), vs = [.bl x, .bl x] ∧ Q (.bl true) H
theorem win_mono {bs : List Int} {s : Int} (h : RB bs) {c : Nat} : ∀ {d : Nat}, win bs s (c : Nat) ≤ win bs s ((c + d : Nat) : Int)
  | 0 => Int.le_refl _
  | d + 1 => by
    have h1 := win_mono h (s := s) (c := c) (d := d)
    have h2 := win_succ h (s := s) (c + d)
    have h3 := nth_b (t := s + ((c + d : Nat) : Int)) h
    rw [← Nat.add_assoc, h2]
    omega

/-! the formula and the play -/
theorem sfx_true {j : Nat} {r : List Bool} : Lif.sfx (j + 1) (true :: r) = Lif.sfx j r := by
  induction j with
  | zero => rfl
  | succ j ih => rw [Lif.sfx, ih, Lif.sfx]
theorem sfx_false {j : Nat} {r : List Bool} : Lif.sfx j (false :: r) = Lif.sfx j r := by
  induction j with
  | zero => rfl
  | succ j ih => rw [Lif.sfx, ih, Lif.sfx]
theorem dep_sfx : ∀ {l : List Bool} {j : Nat}, j < l.count true → (dep l).getD j 0 = ((Lif.sfx j l).length : Int)
  | [], j, h => absurd h (Nat.not_lt_zero _)
  | true :: r, j, h => by
    rw [dep_cons, if_pos rfl, List.singleton_append]
    cases j with
    | zero => rw [List.getD_cons_zero]; show _ = (((true :: r).length : Nat) : Int); rw [List.length_cons]; omega
    | succ j =>
      rw [List.count_cons_self] at h
      rw [List.getD_cons_succ, sfx_true]
      exact dep_sfx (by omega)
  | false :: r, j, h => by
    rw [dep_cons, if_neg (by simp), List.nil_append, sfx_false]
    rw [List.count_cons_of_ne (by simp)] at h
    exact dep_sfx h
def bud (bs : List Int) (f : Int) (i : Nat) : Nat := (nth bs (f + (i : Nat))).toNat
theorem bsL_win {bs : List Int} {f : Int} (h : RB bs) (w : Nat) : ∀ g : Nat, ((Lif.bsum (bud bs f) w g : Nat) : Int) = win bs (f + (w : Nat)) (g : Nat)
  | 0 => by
    rw [show ((0 : Nat) : Int) = 0 from rfl, win_zero]
    rfl
  | g + 1 => by
    have ih := bsL_win (f := f) h w g
    have hn := nth_b (t := f + ((w + g : Nat) : Int)) h
    rw [win_succ h, ← ih, show f + (w : Nat) + ((g : Nat) : Int) = f + ((w + g : Nat) : Int) from by omega]
    show ((Lif.bsum (bud bs f) w g + bud bs f (w + g) : Nat) : Int) = _
    unfold bud at ih ⊢
    omega
theorem Wd.tz {l : List Bool} (h : Wd l) : Lif.tz l = l := dw_self h.2
/-- full at put t: the formula -/
theorem bad_iff {l : List Bool} {bs : List Int} {φ : Int} {lim C : Nat} (hB : RB bs) (hw : Wd l) (hl : l.count true ≤ lim) (h1 : 1 ≤ lim) (hC : lim ≤ C + 1) (t : Nat) :
    C ≤ (Lif.Uw lim (bud bs φ) l t).length ↔ (Blk l bs C lim φ (t : Nat) ∨ Sht (l.count true : Nat) bs C lim φ (t : Nat)) := by
  have hs := bsL_win (f := φ) hB 0 t
  rw [show φ + ((0 : Nat) : Int) = φ from by omega] at hs
  have hblk : Lif.BlkN l lim C (bud bs φ) t ↔ Blk l bs C lim φ (t : Nat) := by
    unfold Lif.BlkN Blk
    constructor
    · rintro ⟨a, b, c⟩
      have hd := dep_sfx a
      refine ⟨by omega, by omega, by omega, ?_⟩
      rw [← hs, Int.toNat_natCast, hd]
      omega
    · rintro ⟨_, a, b, c⟩
      have a' : Lif.bsum (bud bs φ) 0 t < l.count true := by omega
      have hd := dep_sfx a'
      rw [← hs, Int.toNat_natCast, hd] at c
      exact ⟨a', by omega, by omega⟩
  by_cases hc : lim ≤ C
  · rw [Lif.full_iff hw.tz hl h1 hc, hblk]
    have hsh : Lif.ShtN (l.count true) lim C (bud bs φ) t ↔ Sht (l.count true : Nat) bs C lim φ (t : Nat) := by
      unfold Lif.ShtN Sht
      constructor
      · rintro ⟨a, b⟩
        have h2 := bsL_win (f := φ) hB (t - (C - lim)) (C - lim)
        rw [show φ + ((t - (C - lim) : Nat) : Int) = φ + (t : Nat) - ((C : Int) - lim) from by omega, show ((C - lim : Nat) : Int) = (C : Int) - lim from by omega] at h2
        refine ⟨by omega, by omega, .inr ?_⟩
        rw [← h2]
        omega
      · rintro ⟨_, a, b⟩
        have h2 := bsL_win (f := φ) hB (t - (C - lim)) (C - lim)
        rw [show φ + ((t - (C - lim) : Nat) : Int) = φ + (t : Nat) - ((C : Int) - lim) from by omega, show ((C - lim : Nat) : Int) = (C : Int) - lim from by omega] at h2
        rcases b with b | b
        · omega
        · rw [← h2] at b
          exact ⟨by omega, by omega⟩
    rw [hsh]
  · have hu := Lif.Uw_cnt (b := bud bs φ) hw.tz hl h1 t
    have hls := Lif.len_split (Lif.Uw lim (bud bs φ) l t)
    have hk := Lif.old_cnt hl h1
    constructor
    · intro z
      by_cases y : C ≤ t + l.count true
      · exact .inr ⟨by omega, by omega, .inl (by omega)⟩
      · left
        rw [← hblk]
        by_cases ha : Lif.bsum (bud bs φ) 0 t < (Lif.old lim l).count true
        · obtain ⟨T, c1, c2, c3⟩ := Lif.case_a (b := bud bs φ) hw.tz hl h1 ha
          have hlen : (Lif.Uw lim (bud bs φ) l t).length = (Lif.sfx (Lif.bsum (bud bs φ) 0 t) l).length + Lif.bsum (bud bs φ) 0 t + t := by
            rw [c1, List.length_append, c2, Lif.old_sfx hl h1 ha]
            omega
          rw [hk] at ha
          exact ⟨by omega, by omega, by omega⟩
        · exfalso
          have hz := Lif.case_b (b := bud bs φ) hw.tz hl h1 (t := t) (by omega)
          have hr := (Lif.rls_le (o := l.count true) (lim := lim) (t := t)).2 (by omega)
          rw [if_pos (by omega)] at hu
          omega
    · rintro (z | ⟨_, z, _⟩)
      · rw [← hblk] at z
        obtain ⟨a, b, c⟩ := z
        have ha : Lif.bsum (bud bs φ) 0 t < (Lif.old lim l).count true := by rw [hk]; omega
        obtain ⟨T, c1, c2, c3⟩ := Lif.case_a (b := bud bs φ) hw.tz hl h1 ha
        rw [c1, List.length_append, c2, Lif.old_sfx hl h1 ha]
        omega
      · rw [hls, hu]
        split <;> omega
theorem Blk.neg {l : List Bool} {bs : List Int} {cnt lim φ j : Int} (h : Blk l bs cnt lim φ j) : 0 ≤ j := h.1
/-- the words never fill up: no bad put -/
theorem first_none {l : List Bool} {bs : List Int} {φ : Int} {lim C : Nat} (hB : RB bs) (hw : Wd l) (hl : l.count true ≤ lim) (h1 : 1 ≤ lim) (hC : lim ≤ C + 1) (h : ∀ t, (Lif.Uw lim (bud bs φ) l t).length < C) (j : Int) : ¬ Bad l bs C lim φ j := by
  intro hb
  have key : ∀ t : Nat, ¬ (Blk l bs C lim φ (t : Nat) ∨ Sht (l.count true : Nat) bs C lim φ (t : Nat)) := fun t z => by
    have := (bad_iff (φ := φ) hB hw hl h1 hC t).mpr z
    have := h t
    omega
  rcases hb with ⟨_, z⟩ | ⟨_, z⟩
  · have h0 := z.1
    obtain ⟨t, rfl⟩ : ∃ t : Nat, j = (t : Nat) := ⟨j.toNat, by omega⟩
    exact key t (.inl z)
  · have h0 := z.1
    obtain ⟨t, rfl⟩ : ∃ t : Nat, j = (t : Nat) := ⟨j.toNat, by omega⟩
    exact key t (.inr z)
/-- the first full put is the first bad one -/
theorem first_some {l : List Bool} {bs : List Int} {φ : Int} {lim C T : Nat} (hB : RB bs) (hw : Wd l) (hl : l.count true ≤ lim) (h1 : 1 ≤ lim) (hC : lim ≤ C + 1) (hf : 0 ≤ φ) (h : C ≤ (Lif.Uw lim (bud bs φ) l T).length) (h2 : ∀ t, t < T → (Lif.Uw lim (bud bs φ) l t).length < C) :
    Bad l bs C lim φ (T : Nat) ∧ (∀ j : Int, j < (T : Nat) → ¬ Bad l bs C lim φ j) ∧ T < C + bs.length := by
  have l1 := hB.l1
  have key : ∀ t : Nat, t < T → ¬ (Blk l bs C lim φ (t : Nat) ∨ Sht (l.count true : Nat) bs C lim φ (t : Nat)) := fun t ht z => by
    have := (bad_iff (φ := φ) hB hw hl h1 hC t).mpr z
    have := h2 t ht
    omega
  have hbad : Bad l bs C lim φ (T : Nat) := by
    rcases (bad_iff (φ := φ) hB hw hl h1 hC T).mp h with z | z
    · left
      refine ⟨?_, z⟩
      refine Int.not_le.mp fun y => ?_
      -- an earlier put would be full
      obtain ⟨z0, z1, z2, z3⟩ := z
      have hC0 : 1 ≤ C := by
        rcases Nat.eq_zero_or_pos C with q | q
        · have h3 := win_nn (s := φ) (c := (T : Nat)) hB (by omega)
          omega
        · exact q
      refine key (C - 1) (by omega) (.inl ⟨by omega, ?_⟩)
      have hm := win_mono hB (s := φ) (c := C - 1) (d := T - (C - 1))
      rw [show C - 1 + (T - (C - 1)) = T from by omega] at hm
      have h4 := win_nn (s := φ) (c := ((C - 1 : Nat) : Int)) hB (by omega)
      refine ⟨by omega, by omega, ?_⟩
      have hd := dep_sfx (l := l) (j := (win bs φ ((C - 1 : Nat) : Int)).toNat) (by omega)
      have hp : 1 ≤ (Lif.sfx (win bs φ ((C - 1 : Nat) : Int)).toNat l).length := by
        have := Lif.sfx_ne (l := l) (j := (win bs φ ((C - 1 : Nat) : Int)).toNat) (by omega)
        exact List.length_pos_iff.mpr this
      rw [hd]
      omega
    · right
      refine ⟨?_, z⟩
      refine Classical.byContradiction fun y => ?_
      obtain ⟨z0, z1, z2⟩ := z
      refine key (T - bs.length) (by omega) (.inr ⟨by omega, by omega, ?_⟩)
      rcases z2 with q | q
      · exact .inl q
      · right
        have e : φ + (T : Nat) - ((C : Int) - lim) = φ + ((T - bs.length : Nat) : Int) - ((C : Int) - lim) + bs.length := by omega
        rw [e, win_mod, Int.add_emod_right, ← win_mod] at q
        exact q
  refine ⟨hbad, fun j hj hb => ?_, ?_⟩
  · rcases hb with ⟨_, z⟩ | ⟨_, z⟩
    · have h0 := z.1
      obtain ⟨t, rfl⟩ : ∃ t : Nat, j = (t : Nat) := ⟨j.toNat, by omega⟩
      exact key t (by omega) (.inl z)
    · have h0 := z.1
      obtain ⟨t, rfl⟩ : ∃ t : Nat, j = (t : Nat) := ⟨j.toNat, by omega⟩
      exact key t (by omega) (.inr z)
  · rcases hbad with ⟨z, _⟩ | ⟨z, _⟩
    · omega
    · omega

/-! the law's own put, plainly -/
theorem depTo_pos {l : List Bool} {i : Nat} {b : Bool} (h : l[i]? = some b) : (depTo l (i + 1)).map (fun d => (l.length : Int) - d) = (depTo l i).map (fun d => (l.length : Int) - d) ++ (if b = true then [((i : Nat) : Int)] else []) := by
  rw [depTo_succ h, List.map_append]
  congr 1
  cases b
  · rfl
  · show [(l.length : Int) - ((l.length : Int) - (i : Nat))] = [((i : Nat) : Int)]
    congr 1
    omega
def placeZ (l : List Bool) (i : Nat) : Nat := l.length - ((dep l).getD i 0).toNat
def cutZ (l : List Bool) (i : Nat) : List Bool := l.take (placeZ l i) ++ false :: l.drop (placeZ l i + 1)
theorem dep_pos {l : List Bool} {i : Nat} (h : i < l.count true) : 1 ≤ (dep l).getD i 0 ∧ (dep l).getD i 0 ≤ l.length := by
  have hl := dep_len l
  rw [List.getD_eq_getElem?_getD, List.getElem?_eq_getElem (by omega), Option.getD_some]
  exact dep_le l _ (List.getElem_mem _)
theorem cutZ_last : ∀ {l : List Bool} {i : Nat}, l.count true = i + 1 → cutZ l i = Lif.zl l
  | [], i, h => by simp at h
  | b :: r, i, h => by
    rw [Lif.zl]
    by_cases z : r.count true = 0
    · rw [if_pos z]
      have hb : b = true := by
        cases b with
        | true => rfl
        | false => rw [List.count_cons_of_ne (by simp)] at h; omega
      subst hb
      rw [List.count_cons_self] at h
      have hi : i = 0 := by omega
      subst hi
      unfold cutZ placeZ
      rw [dep_cons, if_pos rfl, List.singleton_append, List.getD_cons_zero, List.length_cons, show r.length + 1 - ((r.length : Int) + 1).toNat = 0 from by omega]
      rfl
    · rw [if_neg z]
      cases b with
      | true =>
        rw [List.count_cons_self] at h
        obtain ⟨j, rfl⟩ : ∃ j, i = j + 1 := ⟨i - 1, by omega⟩
        have ih := cutZ_last (l := r) (i := j) (by omega)
        have hp := dep_pos (l := r) (i := j) (by omega)
        rw [← ih]
        unfold cutZ placeZ
        rw [dep_cons, if_pos rfl, List.singleton_append, List.getD_cons_succ, List.length_cons, show r.length + 1 - ((dep r).getD j 0).toNat = (r.length - ((dep r).getD j 0).toNat) + 1 from by omega]
        rfl
      | false =>
        rw [List.count_cons_of_ne (by simp)] at h
        have ih := cutZ_last (l := r) (i := i) h
        have hp := dep_pos (l := r) (i := i) (by omega)
        rw [← ih]
        unfold cutZ placeZ
        rw [dep_cons, if_neg (by simp), List.nil_append, List.length_cons, show r.length + 1 - ((dep r).getD i 0).toNat = (r.length - ((dep r).getD i 0).toNat) + 1 from by omega]
        rfl
theorem dep_snoc : ∀ {l : List Bool}, dep (l ++ [true]) = (dep l).map (· + 1) ++ [1]
  | [] => rfl
  | b :: r => by
    rw [List.cons_append, dep_cons, dep_cons, dep_snoc (l := r), List.map_append, List.append_assoc, List.length_append]
    congr 1
    cases b <;> simp
theorem cutZ_snoc {l : List Bool} {i : Nat} (h : i < l.count true) : cutZ (l ++ [true]) i = cutZ l i ++ [true] := by
  have hp := dep_pos h
  have hl := dep_len l
  have e : (dep (l ++ [true])).getD i 0 = (dep l).getD i 0 + 1 := by
    rw [dep_snoc, List.getD_eq_getElem?_getD, List.getElem?_append_left (by rw [List.length_map]; omega), List.getElem?_map, List.getD_eq_getElem?_getD, List.getElem?_eq_getElem (by omega)]
    rfl
  unfold cutZ placeZ
  have e2 : (l ++ [true]).length - ((dep l).getD i 0 + 1).toNat = l.length - ((dep l).getD i 0).toNat := by rw [List.length_append, List.length_singleton]; omega
  rw [e, e2, List.take_append_of_le_length (by omega), List.drop_append_of_le_length (by omega), List.append_assoc]
  rfl
theorem car_len {w : List Bool} : (Lif.car w).length ≤ w.length := by
  unfold Lif.car
  split
  · exact Nat.le_refl _
  · rename_i h
    refine Nat.le_trans Lif.tz_len ?_
    cases w with
    | nil => exact absurd rfl h
    | cons x r => simp
theorem cars_len {w : List Bool} : ∀ j, (Lif.cars j w).length ≤ w.length
  | 0 => Nat.le_refl _
  | j + 1 => Nat.le_trans car_len (cars_len j)
theorem car_snoc {w : List Bool} (h : w ≠ []) : Lif.car (w ++ [true]) = Lif.car w ++ [true] := by
  cases w with
  | nil => exact absurd rfl h
  | cons x r =>
    unfold Lif.car
    rw [if_neg (by simp), if_neg h, List.cons_append, List.tail_cons, List.tail_cons, Lif.tz_app _ (Lif.tz_ne (by rw [List.count_append]; simp))]
theorem cars_ne {w : List Bool} (h : Lif.tz w = w) (hc : 0 < w.count true) (j : Nat) : Lif.cars j w ≠ [] := fun e => by
  have := Lif.cars_cnt h j
  rw [e] at this
  simp at this
  omega
theorem cars_snoc {w : List Bool} (h : Lif.tz w = w) (hc : 0 < w.count true) : ∀ j, Lif.cars j (w ++ [true]) = Lif.cars j w ++ [true]
  | 0 => rfl
  | j + 1 => by rw [Lif.cars, cars_snoc h hc j, car_snoc (cars_ne h hc j), Lif.cars]
def spCarr : Sp := fun vs H Q _ => ∃ (w : List Bool) (p : Int), vs = [.str (tx w), .int p] ∧ w.length ≤ 1000 ∧ (w = [] ∨ p ≤ w.length → Q (.str (tx w)) H) ∧ (¬ (w = [] ∨ p ≤ w.length) → Q (.str (tx (Lif.car w))) H)
local macro_rules | `(tactic| walk_at "call") => `(tactic| ((with_reducible show spCarr _ _ _ _); refine ⟨_, _, rfl, by walk_at "szt", fun hA => ?_, fun hA => ?_⟩))
def spRld : Sp := fun vs H Q _ => ∃ (l : List Bool) (i : Nat), vs = [.str (tx l), .int (i : Nat)] ∧ (l.length ≤ 1000 ∧ i < l.count true) ∧ ∀ H', Ex H H' → Q (.str (tx (Lif.tz (cutZ l i)))) H'
local macro_rules | `(tactic| walk_at "call") => `(tactic| ((with_reducible show spRld _ _ _ _); refine ⟨_, _, rfl, ⟨by walk_at "szt", by assumption⟩, ?_⟩; intro H_ e_))

theorem tz_snoc1 {a : List Bool} : Lif.tz (a ++ [true]) = Lif.tz a ++ [true] := by
  by_cases h : Lif.tz a = []
  · rw [Lif.tz_nil_app _ h, h]
    rfl
  · exact Lif.tz_app _ h
theorem zl_rel {w : List Bool} {lim i : Nat} (hc : w.count true = lim) (hi : w.count true = i + 1) : Lif.tz (cutZ w i) = Lif.rel lim w := by
  rw [cutZ_last hi]
  unfold Lif.rel
  rw [if_neg (by omega)]
theorem zl_rel2 {w : List Bool} {lim i : Nat} (hc : w.count true = lim) (hi : w.count true = i + 1) : Lif.tz (cutZ (w ++ [true]) i) = Lif.rel lim w ++ [true] := by
  rw [cutZ_snoc (by omega), tz_snoc1, zl_rel hc hi]
theorem rel_lt {w : List Bool} {lim : Nat} (h : w.count true < lim) : Lif.rel lim w = w := by
  unfold Lif.rel
  rw [if_pos h]
theorem rel_len {w : List Bool} {lim : Nat} : (Lif.rel lim w).length ≤ w.length := by
  unfold Lif.rel
  split
  · exact Nat.le_refl _
  · refine Nat.le_trans Lif.tz_len ?_
    rw [Lif.zl_len]
    exact Nat.le_refl _
def spNw : Sp := fun vs H Q _ => ∃ (w : List Bool) (lim : Nat), vs = [.str (tx w), .int (lim : Nat)] ∧ Q (if w.count true = lim then .int ((w.count true : Nat) - 1) else .non) H
/-- the word behind the release of the record with index o -/
def rlo (w : List Bool) : Option Nat → List Bool
  | none => w
  | some i => Lif.tz (cutZ w i)
def vo : Option Nat → V
  | none => .non
  | some i => .int (i : Nat)
theorem cutZ_len {l : List Bool} {i : Nat} (h : i < l.count true) : (cutZ l i).length = l.length := by
  have hp := dep_pos h
  unfold cutZ placeZ
  rw [List.length_append, List.length_take, List.length_cons, List.length_drop]
  omega
theorem rlo_len {w : List Bool} {o : Option Nat} (h : ∀ i, o = some i → i < w.count true) : (rlo w o).length ≤ w.length := by
  cases o with
  | none => exact Nat.le_refl _
  | some i => exact Nat.le_trans Lif.tz_len (Nat.le_of_eq (cutZ_len (h i rfl)))
theorem rlo_tz {w : List Bool} {o : Option Nat} (h : Lif.tz w = w) : Lif.tz (rlo w o) = rlo w o := by
  cases o with
  | none => exact h
  | some i => exact Lif.tz_idem
def spPut : Sp := fun vs H Q _ => ∃ (w : List Bool) (o : Option Nat) (c p : Int) (lt : Bool), vs = [.str (tx w), vo o, .int c, .int p, .bl lt] ∧ (Lif.tz w = w ∧ (∀ i, o = some i → i < w.count true) ∧ w.length ≤ 100 ∧ 0 ≤ c) ∧
  (lt = false → p ≤ (rlo w o).length → ∀ H', Ex H H' → Q .non H') ∧
  (lt = false → ((rlo w o).length : Int) < p → ∀ H', Ex H H' → Q (.str (tx (Lif.cars (min c.toNat ((rlo w o).count true)) (rlo w o) ++ [true]))) H') ∧
  (lt = true → p ≤ w.length → ∀ H', Ex H H' → Q .non H') ∧
  (lt = true → (w.length : Int) < p → ((rlo w o).length : Int) + 1 < p → ∀ H', Ex H H' → Q (.str (tx (Lif.cars (min c.toNat ((rlo w o).count true)) (rlo w o) ++ [true]))) H') ∧
  (lt = true → (w.length : Int) < p → p ≤ ((rlo w o).length : Int) + 1 → ∀ H', Ex H H' → Q (.str (tx (rlo w o ++ [true]))) H')
def spPutN : Sp := fun vs H Q _ => ∃ (w : List Bool) (v : V) (lim : Nat) (c p : Int) (lt : Bool), vs = [.str (tx w), v, .int c, .int p, .bl lt] ∧ (Lif.tz w = w ∧ w.count true ≤ lim ∧ 1 ≤ lim ∧ w.length ≤ 100 ∧ 0 ≤ c ∧ v = (if w.count true = lim then .int ((w.count true : Nat) - 1) else .non)) ∧
  (lt = false → p ≤ (Lif.rel lim w).length → ∀ H', Ex H H' → Q .non H') ∧
  (lt = false → ((Lif.rel lim w).length : Int) < p → ∀ H', Ex H H' → Q (.str (tx (Lif.cars (min c.toNat ((Lif.rel lim w).count true)) (Lif.rel lim w) ++ [true]))) H') ∧
  (lt = true → p ≤ w.length → ∀ H', Ex H H' → Q .non H') ∧
  (lt = true → (w.length : Int) < p → ((Lif.rel lim w).length : Int) + 1 < p → ∀ H', Ex H H' → Q (.str (tx (Lif.cars (min c.toNat ((Lif.rel lim w).count true)) (Lif.rel lim w) ++ [true]))) H') ∧
  (lt = true → (w.length : Int) < p → p ≤ ((Lif.rel lim w).length : Int) + 1 → ∀ H', Ex H H' → Q (.str (tx (Lif.rel lim w ++ [true]))) H')
theorem put_of {vs : List V} {H : Hp} {Q : VK} {E : XK} (h : spPutN vs H Q E) : spPut vs H Q E := by
  obtain ⟨w, v, lim, c, p, lt, rfl, ⟨hz, hc1, h1, hl, h0, rfl⟩, k⟩ := h
  by_cases hc : w.count true = lim
  · obtain ⟨i, hi⟩ : ∃ i, w.count true = i + 1 := ⟨w.count true - 1, by omega⟩
    have e : rlo w (some i) = Lif.rel lim w := zl_rel hc hi
    refine ⟨w, some i, c, p, lt, ?_, ⟨hz, fun j hj => (by cases hj; omega), hl, h0⟩, ?_⟩
    · rw [if_pos hc, show ((w.count true : Nat) : Int) - 1 = ((i : Nat) : Int) from by omega]
      rfl
    · rw [e]
      exact k
  · have e : rlo w none = Lif.rel lim w := (rel_lt (w := w) (by omega)).symm
    refine ⟨w, none, c, p, lt, ?_, ⟨hz, fun j hj => (by cases hj), hl, h0⟩, ?_⟩
    · rw [if_neg hc]
      rfl
    · rw [e]
      exact k
local macro_rules | `(tactic| walk_at "call") => `(tactic| ((with_reducible show spNw _ _ _ _); refine ⟨_, _, rfl, ?_⟩))

/-- the words of the play -/
def Wt (lim : Nat) (b : Nat → Nat) (l : List Bool) : Nat → List Bool
  | 0 => l
  | t + 1 => Lif.cars (min (b t) ((Lif.Uw lim b l t).count true)) (Lif.Uw lim b l t) ++ [true]
theorem Wt_rel {lim : Nat} {b : Nat → Nat} {l : List Bool} (t : Nat) : Lif.rel lim (Wt lim b l t) = Lif.Uw lim b l t := by
  cases t with
  | zero => rfl
  | succ t => rfl
theorem Wt_tz {lim : Nat} {b : Nat → Nat} {l : List Bool} (h : Lif.tz l = l) (t : Nat) : Lif.tz (Wt lim b l t) = Wt lim b l t := by
  cases t with
  | zero => exact h
  | succ t => exact Lif.snoc_tz (Lif.cars_tz (Lif.Uw_tz h t) _)
theorem Wt_cnt {lim : Nat} {b : Nat → Nat} {l : List Bool} (h : Lif.tz l = l) (hl : l.count true ≤ lim) (h1 : 1 ≤ lim) (t : Nat) : (Wt lim b l t).count true ≤ lim := by
  cases t with
  | zero => exact hl
  | succ t =>
    have hu := Lif.Uw_cnt (b := b) h hl h1 t
    rw [Wt, List.count_append, Lif.cars_cnt (Lif.Uw_tz h t), hu]
    simp
    split <;> omega
theorem Wt_len {lim : Nat} {b : Nat → Nat} {l : List Bool} (t : Nat) : (Wt lim b l (t + 1)).length ≤ (Lif.Uw lim b l t).length + 1 := by
  have := cars_len (w := Lif.Uw lim b l t) (min (b t) ((Lif.Uw lim b l t).count true))
  rw [Wt, List.length_append]
  simp
  exact this
/-- what the row of the play tells by its length -/
def PlayIs (lim : Nat) (b : Nat → Nat) (l : List Bool) (p C : Nat) (lt : Bool) (most n : Nat) : Prop :=
  (lt = true ∧ l.length = p ∧ n = 0) ∨
  (¬ (lt = true ∧ l.length = p) ∧ n < most ∧ ∃ T, n = T + (if lt = true then 1 else 0) ∧ C ≤ (Lif.Uw lim b l T).length ∧ ∀ t, t < T → (Lif.Uw lim b l t).length < C) ∨
  (¬ (lt = true ∧ l.length = p) ∧ n = most ∧ ∀ t, t + (if lt = true then 1 else 0) < most → (Lif.Uw lim b l t).length < C)
def PI (lim : Nat) (b : Nat → Nat) (l : List Bool) (C : Nat) (lt : Bool) (t : Nat) (w : List Bool) : Prop :=
  (w = Wt lim b l t ∧ ∀ j, j < t → (Lif.Uw lim b l j).length < C) ∨
  (lt = true ∧ ∃ T, t = T + 1 ∧ w = Lif.Uw lim b l T ++ [true] ∧ C ≤ (Lif.Uw lim b l T).length ∧ (Lif.Uw lim b l T).length ≤ C + 1 ∧ ∀ j, j < T → (Lif.Uw lim b l j).length < C)

/-! one greedy put of the newest play, and the row of its words, plainly -/
theorem relc_le {w : List Bool} {lim : Nat} (hw : Lif.tz w = w) (hl : w.count true ≤ lim) (h1 : 1 ≤ lim) : (Lif.rel lim w).count true + 1 ≤ lim := by
  have := Lif.Uw_cnt (b := fun _ => 0) hw hl h1 0
  rw [Lif.Uw] at this
  rw [this]
  split <;> omega
def nwo (l : List Bool) (lim : Nat) : Option Nat := if l.count true = lim then some (l.count true - 1) else none
theorem nwo_lt {l : List Bool} {lim : Nat} (h1 : 1 ≤ lim) : ∀ j, nwo l lim = some j → j < l.count true := fun j hj => by
  unfold nwo at hj
  split at hj
  · cases hj; omega
  · cases hj
theorem nwo_rlo {l : List Bool} {lim : Nat} (hc : l.count true ≤ lim) (h1 : 1 ≤ lim) : rlo l (nwo l lim) = Lif.rel lim l := by
  unfold nwo
  split
  · rename_i h
    exact zl_rel h (by omega)
  · exact (rel_lt (w := l) (by omega)).symm
theorem vo_nwo {l : List Bool} {lim : Nat} (h1 : 1 ≤ lim) : (if l.count true = lim then V.int ((l.count true : Nat) - 1) else V.non) = vo (nwo l lim) := by
  unfold nwo
  split
  · show _ = V.int ((l.count true - 1 : Nat) : Int)
    congr 1
    omega
  · rfl
def gst (lim c p : Nat) (lt : Bool) (w : List Bool) : Option (List Bool) :=
  if lt = true then
    if w.length < p then
      if (Lif.rel lim w).length + 1 < p then some (Lif.cars (min c ((Lif.rel lim w).count true)) (Lif.rel lim w) ++ [true]) else some (Lif.rel lim w ++ [true])
    else none
  else if (Lif.rel lim w).length < p then some (Lif.cars (min c ((Lif.rel lim w).count true)) (Lif.rel lim w) ++ [true]) else none
theorem gst_e1 {lim c p : Nat} {w : List Bool} (h : (Lif.rel lim w).length < p) : gst lim c p false w = some (Lif.cars (min c ((Lif.rel lim w).count true)) (Lif.rel lim w) ++ [true]) := by
  unfold gst; rw [if_neg (by decide), if_pos h]
theorem gst_e0 {lim c p : Nat} {w : List Bool} (h : p ≤ (Lif.rel lim w).length) : gst lim c p false w = none := by
  unfold gst; rw [if_neg (by decide), if_neg (by omega)]
theorem gst_l2 {lim c p : Nat} {w : List Bool} (h : w.length < p) (h2 : (Lif.rel lim w).length + 1 < p) : gst lim c p true w = some (Lif.cars (min c ((Lif.rel lim w).count true)) (Lif.rel lim w) ++ [true]) := by
  unfold gst; rw [if_pos rfl, if_pos h, if_pos h2]
theorem gst_l1 {lim c p : Nat} {w : List Bool} (h : w.length < p) (h2 : p ≤ (Lif.rel lim w).length + 1) : gst lim c p true w = some (Lif.rel lim w ++ [true]) := by
  unfold gst; rw [if_pos rfl, if_pos h, if_neg (by omega)]
theorem gst_l0 {lim c p : Nat} {w : List Bool} (h : p ≤ w.length) : gst lim c p true w = none := by
  unfold gst; rw [if_pos rfl, if_neg (by omega)]
theorem gst_ok {lim c p : Nat} {lt : Bool} {w u : List Bool} (hw : Lif.tz w = w) (hl : w.count true ≤ lim) (h1 : 1 ≤ lim) (h : gst lim c p lt w = some u) : Lif.tz u = u ∧ u.count true ≤ lim ∧ u.length ≤ p ∧ u ≠ [] := by
  have hz := Lif.rel_tz (lim := lim) hw
  have hr := relc_le hw hl h1
  have hrl := rel_len (lim := lim) (w := w)
  have hcc := Lif.cars_cnt hz (min c ((Lif.rel lim w).count true))
  have hcl := cars_len (w := Lif.rel lim w) (min c ((Lif.rel lim w).count true))
  have A : ∀ {x : List Bool}, x = Lif.cars (min c ((Lif.rel lim w).count true)) (Lif.rel lim w) ++ [true] → (Lif.rel lim w).length < p → Lif.tz x = x ∧ x.count true ≤ lim ∧ x.length ≤ p ∧ x ≠ [] := fun {x} e hp => by
    subst e
    refine ⟨Lif.snoc_tz (Lif.cars_tz hz _), ?_, ?_, by simp⟩
    · rw [List.count_append, hcc]; simp; omega
    · rw [List.length_append, List.length_singleton]; omega
  cases lt with
  | false =>
    by_cases z : (Lif.rel lim w).length < p
    · rw [gst_e1 z] at h
      cases h
      exact A rfl z
    · rw [gst_e0 (by omega)] at h
      cases h
  | true =>
    by_cases z : w.length < p
    · by_cases y : (Lif.rel lim w).length + 1 < p
      · rw [gst_l2 z y] at h
        cases h
        exact A rfl (by omega)
      · rw [gst_l1 z (by omega)] at h
        cases h
        refine ⟨Lif.snoc_tz hz, ?_, ?_, by simp⟩
        · rw [List.count_append]; simp; omega
        · rw [List.length_append, List.length_singleton]; omega
    · rw [gst_l0 (by omega)] at h
      cases h
/-- the word behind t puts -/
def pw (lim p : Nat) (b : Nat → Nat) (lt : Bool) (l : List Bool) : Nat → Option (List Bool)
  | 0 => some l
  | t + 1 => (pw lim p b lt l t).bind (gst lim (b t) p lt)
def plays (lim p : Nat) (b : Nat → Nat) (lt : Bool) (l : List Bool) : Nat → List (List Bool)
  | 0 => []
  | t + 1 => plays lim p b lt l t ++ (pw lim p b lt l (t + 1)).toList
section
variable {lim p : Nat} {b : Nat → Nat} {lt : Bool} {l : List Bool}
theorem pw_none {t : Nat} (h : pw lim p b lt l t = none) : ∀ k, pw lim p b lt l (t + k) = none
  | 0 => h
  | k + 1 => by rw [← Nat.add_assoc, pw, pw_none h k]; rfl
theorem plays_stop {t : Nat} (h : pw lim p b lt l (t + 1) = none) : ∀ k, plays lim p b lt l (t + k) = plays lim p b lt l t
  | 0 => rfl
  | k + 1 => by
    have := pw_none h k
    rw [show t + 1 + k = t + k + 1 from by omega] at this
    rw [← Nat.add_assoc, plays, this, plays_stop h k]
    exact List.append_nil _
theorem pw_some {t : Nat} {w : List Bool} (h : pw lim p b lt l (t + 1) = some w) : ∃ u, pw lim p b lt l t = some u ∧ gst lim (b t) p lt u = some w := by
  rw [pw] at h
  cases e : pw lim p b lt l t with
  | none => rw [e] at h; cases h
  | some u => rw [e] at h; exact ⟨u, rfl, h⟩
theorem plays_len {t : Nat} : ∀ {w : List Bool}, pw lim p b lt l t = some w → (plays lim p b lt l t).length = t := by
  induction t with
  | zero => intro w _; rfl
  | succ t ih =>
    intro w h
    obtain ⟨u, h1, h2⟩ := pw_some h
    rw [plays, List.length_append, ih h1, h]
    rfl
theorem plays_le (t : Nat) : (plays lim p b lt l t).length ≤ t := by
  induction t with
  | zero => exact Nat.le_refl _
  | succ t ih =>
    rw [plays, List.length_append]
    have : (pw lim p b lt l (t + 1)).toList.length ≤ 1 := by cases pw lim p b lt l (t + 1) <;> simp
    omega
/-- it ends at most, or by a put without a place -/
theorem plays_end (most : Nat) : (∃ w, pw lim p b lt l most = some w ∧ (plays lim p b lt l most).length = most) ∨ ∃ t w, t < most ∧ pw lim p b lt l t = some w ∧ pw lim p b lt l (t + 1) = none ∧ plays lim p b lt l most = plays lim p b lt l t := by
  induction most with
  | zero => exact .inl ⟨l, rfl, rfl⟩
  | succ n ih =>
    rcases ih with ⟨w, h1, h2⟩ | ⟨t, w, h1, h2, h3, h4⟩
    · cases e : pw lim p b lt l (n + 1) with
      | none =>
        refine .inr ⟨n, w, Nat.lt_succ_self _, h1, e, ?_⟩
        rw [plays, e]
        exact List.append_nil _
      | some u => exact .inl ⟨u, rfl, plays_len e⟩
    · refine .inr ⟨t, w, Nat.lt_succ_of_lt h1, h2, h3, ?_⟩
      have := plays_stop h3 (n + 1 - t)
      rwa [show t + (n + 1 - t) = n + 1 from by omega] at this
theorem plays_take {m n : Nat} (h : m ≤ n) : (plays lim p b lt l n).take m = plays lim p b lt l m := by
  induction n with
  | zero => rw [Nat.le_zero.mp h]; rfl
  | succ n ih =>
    by_cases z : m = n + 1
    · subst z
      exact List.take_of_length_le (plays_le _)
    · have ih := ih (by omega)
      rw [plays]
      cases e : pw lim p b lt l (n + 1) with
      | none => rw [show (none : Option (List Bool)).toList = [] from rfl, List.append_nil, ih]
      | some u =>
        obtain ⟨v, h1, _⟩ := pw_some e
        rw [List.take_append_of_le_length (by rw [plays_len h1]; omega), ih]
theorem plays_at {n t : Nat} (h : t < (plays lim p b lt l n).length) : (plays lim p b lt l n)[t]? = pw lim p b lt l (t + 1) := by
  induction n with
  | zero => exact absurd h (Nat.not_lt_zero _)
  | succ n ih =>
    rw [plays] at h ⊢
    cases e : pw lim p b lt l (n + 1) with
    | none =>
      rw [e] at h
      rw [show (none : Option (List Bool)).toList = [] from rfl, List.append_nil] at h ⊢
      exact ih h
    | some u =>
      obtain ⟨v, h1, _⟩ := pw_some e
      have hl := plays_len h1
      rw [e, List.length_append, hl] at h
      simp at h
      by_cases z : t = n
      · subst z
        rw [List.getElem?_append_right (by omega), hl, Nat.sub_self, e]
        rfl
      · rw [List.getElem?_append_left (by omega)]
        exact ih (by omega)
/-- the play of a later word -/
theorem pw_shift {s : Nat} {w : List Bool} (h : pw lim p b lt l s = some w) : ∀ t, pw lim p (fun i => b (s + i)) lt w t = pw lim p b lt l (s + t)
  | 0 => h.symm
  | t + 1 => by rw [pw, pw_shift h t, ← Nat.add_assoc, pw]
theorem pw_ok (hw : Lif.tz l = l) (hl : l.count true ≤ lim) (h1 : 1 ≤ lim) (hp : l.length ≤ p) : ∀ {t : Nat} {w : List Bool}, pw lim p b lt l t = some w → Lif.tz w = w ∧ w.count true ≤ lim ∧ w.length ≤ p
  | 0, w, h => by cases h; exact ⟨hw, hl, hp⟩
  | t + 1, w, h => by
    obtain ⟨u, k1, k2⟩ := pw_some h
    obtain ⟨i1, i2, _⟩ := pw_ok hw hl h1 hp k1
    obtain ⟨j1, j2, j3, _⟩ := gst_ok i1 i2 h1 k2
    exact ⟨j1, j2, j3⟩
/-- what is known of the word behind t puts -/
theorem pw_pi (hw : Lif.tz l = l) (hl : l.count true ≤ lim) (h1 : 1 ≤ lim) (hm : lim ≤ p) (hp : l.length ≤ p) : ∀ {t : Nat} {w : List Bool}, pw lim p b lt l t = some w →
    PI lim b l (p - (if lt = true then 1 else 0)) lt t w ∧ (1 ≤ t → ¬ (lt = true ∧ l.length = p))
  | 0, w, h => by
    cases h
    exact ⟨.inl ⟨rfl, fun j hj => absurd hj (Nat.not_lt_zero _)⟩, fun h => absurd h (by decide)⟩
  | t + 1, w, h => by
    obtain ⟨u, k1, k2⟩ := pw_some h
    obtain ⟨q1, q2⟩ := pw_pi hw hl h1 hm hp k1
    rcases q1 with ⟨rfl, g1⟩ | ⟨rfl, T, rfl, rfl, g1, g2, g3⟩
    · have hr := Wt_rel (lim := lim) (b := b) (l := l) t
      have hf : 1 ≤ t + 1 → ¬ (lt = true ∧ l.length = p) := fun _ hh => by
        by_cases z : t = 0
        · subst z
          obtain ⟨rfl, h3⟩ := hh
          have h4 : gst lim (b 0) p true l = none := gst_l0 (Nat.le_of_eq h3.symm)
          have k2' : gst lim (b 0) p true l = some w := k2
          rw [h4] at k2'
          cases k2'
        · exact q2 (by omega) hh
      cases lt with
      | false =>
        by_cases z : (Lif.rel lim (Wt lim b l t)).length < p
        · rw [gst_e1 z, hr] at k2
          cases k2
          rw [hr] at z
          refine ⟨.inl ⟨rfl, fun j hj => ?_⟩, hf⟩
          by_cases y : j = t
          · rw [y, if_neg (by decide)]; omega
          · exact g1 j (by omega)
        · rw [gst_e0 (by omega)] at k2
          cases k2
      | true =>
        by_cases z : (Wt lim b l t).length < p
        · have hUl := rel_len (lim := lim) (w := Wt lim b l t)
          rw [hr] at hUl
          by_cases y : (Lif.rel lim (Wt lim b l t)).length + 1 < p
          · rw [gst_l2 z y, hr] at k2
            cases k2
            rw [hr] at y
            refine ⟨.inl ⟨rfl, fun j hj => ?_⟩, hf⟩
            by_cases x : j = t
            · rw [x, if_pos rfl]; omega
            · exact g1 j (by omega)
          · rw [gst_l1 z (by omega), hr] at k2
            cases k2
            rw [hr] at y
            exact ⟨.inr ⟨rfl, t, rfl, rfl, by rw [if_pos rfl]; omega, by rw [if_pos rfl]; omega, g1⟩, hf⟩
        · rw [gst_l0 (by omega)] at k2
          cases k2
    · rw [if_pos rfl] at g1 g2
      have hlU : (Lif.Uw lim b l T ++ [true]).length = (Lif.Uw lim b l T).length + 1 := by rw [List.length_append]; rfl
      rw [gst_l0 (by omega)] at k2
      cases k2
theorem play_is (hw : Lif.tz l = l) (hl : l.count true ≤ lim) (h1 : 1 ≤ lim) (hm : lim ≤ p) (hp : l.length ≤ p) {most : Nat} (hmo : 1 ≤ most) : PlayIs lim b l p (p - (if lt = true then 1 else 0)) lt most (plays lim p b lt l most).length := by
  rcases plays_end (lim := lim) (p := p) (b := b) (lt := lt) (l := l) most with ⟨w, h2, h3⟩ | ⟨t, w, h2, h3, h4, h5⟩
  · obtain ⟨q1, q2⟩ := pw_pi hw hl h1 hm hp h2
    rw [h3]
    refine .inr (.inr ⟨q2 hmo, rfl, fun t ht => ?_⟩)
    rcases q1 with ⟨_, g1⟩ | ⟨g0, T, g1, _, _, _, g3⟩
    · exact g1 t (by split at ht <;> omega)
    · rw [if_pos g0] at ht
      exact g3 t (by omega)
  · rw [h5, plays_len h3]
    obtain ⟨q1, q2⟩ := pw_pi hw hl h1 hm hp h3
    rw [pw, h3] at h4
    have h4 : gst lim (b t) p lt w = none := h4
    rcases q1 with ⟨rfl, g1⟩ | ⟨rfl, T, rfl, rfl, g1, g2, g3⟩
    · have hr := Wt_rel (lim := lim) (b := b) (l := l) t
      cases lt with
      | false =>
        have z : p ≤ (Lif.Uw lim b l t).length := by
          refine Nat.le_of_not_lt fun z => ?_
          rw [← hr] at z
          rw [gst_e1 z] at h4
          cases h4
        exact .inr (.inl ⟨fun h => absurd h.1 (by decide), h2, t, rfl, by rw [if_neg (by decide)]; omega, g1⟩)
      | true =>
        have z : p ≤ (Wt lim b l t).length := by
          refine Nat.le_of_not_lt fun z => ?_
          by_cases y : (Lif.rel lim (Wt lim b l t)).length + 1 < p
          · rw [gst_l2 z y] at h4; cases h4
          · rw [gst_l1 z (by omega)] at h4; cases h4
        cases t with
        | zero => exact .inl ⟨rfl, by have z2 : p ≤ l.length := z; omega, rfl⟩
        | succ t =>
          exfalso
          have h8 := Wt_len (lim := lim) (b := b) (l := l) t
          have h9 := g1 t (Nat.lt_succ_self t)
          rw [if_pos rfl] at h9
          omega
    · exact .inr (.inl ⟨q2 (by omega), h2, T, rfl, g1, g3⟩)
end

/-- the call of the law's put for the newest play -/
theorem use_putG {w : List Bool} {lim : Nat} {c p : Int} {lt : Bool} {H : Hp} {Q : VK} {E : XK} (hz : Lif.tz w = w) (hc : w.count true ≤ lim) (h1 : 1 ≤ lim) (hl : w.length ≤ 100) (h0 : 0 ≤ c) (hp : 0 ≤ p) (k : ∀ H', Ex H H' → (gst lim c.toNat p.toNat lt w = none → Q .non H') ∧ ∀ u, gst lim c.toNat p.toNat lt w = some u → Q (.str (tx u)) H') :
    spPut ([.str (tx w), if w.count true = lim then .int ((w.count true : Nat) - 1) else .non, .int c, .int p, .bl lt] ++ []) H Q E := by
  rw [vo_nwo h1]
  have hr := nwo_rlo hc h1
  refine ⟨w, nwo w lim, c, p, lt, rfl, ⟨hz, nwo_lt h1, hl, h0⟩, fun y1 y2 H1 e1 => ?_, fun y1 y2 H1 e1 => ?_, fun y1 y2 H1 e1 => ?_, fun y1 y2 y3 H1 e1 => ?_, fun y1 y2 y3 H1 e1 => ?_⟩
  all_goals (try rw [hr] at y2)
  all_goals (try rw [hr] at y3)
  all_goals (try rw [hr])
  all_goals subst y1
  · exact (k H1 e1).1 (gst_e0 (by omega))
  · exact (k H1 e1).2 _ (gst_e1 (by omega))
  · exact (k H1 e1).1 (gst_l0 (by omega))
  · exact (k H1 e1).2 _ (gst_l2 (by omega) (by omega))
  · exact (k H1 e1).2 _ (gst_l1 (by omega) (by omega))
theorem use_putV {w : List Bool} {lim : Nat} {c p : Int} {lt : Bool} {H : Hp} {Q : VK} {E : XK} {x : V} (hx : x = if w.count true = lim then .int ((w.count true : Nat) - 1) else .non) (hz : Lif.tz w = w) (hc : w.count true ≤ lim) (h1 : 1 ≤ lim) (hl : w.length ≤ 100) (h0 : 0 ≤ c) (hp : 0 ≤ p) (k : ∀ H', Ex H H' → (gst lim c.toNat p.toNat lt w = none → Q .non H') ∧ ∀ u, gst lim c.toNat p.toNat lt w = some u → Q (.str (tx u)) H') :
    spPut ([.str (tx w), x, .int c, .int p, .bl lt] ++ []) H Q E := by
  subst hx
  exact use_putG hz hc h1 hl h0 hp k
local macro_rules | `(tactic| walk_at "call") => `(tactic| ((with_reducible show spNw _ _ _ _); refine ⟨_, _, rfl, ?_⟩))
def spPlay (K : PySem.W.Frag) : Sp := fun vs H Q _ => ∃ (l : List Bool) (φ : Int) (tm p0 : Addr) (lim p : Nat) (bs : List Int) (lt : Bool) (most : Nat), vs = [.str (tx l), .int φ, .ref tm, .bl lt, .int (most : Nat)] ∧ (At H tm (.tup [.ref p0, .int (lim : Nat), .int (p : Nat)]) ∧ At H p0 (.lst (bs.map V.int)) ∧ RB bs ∧ Wd l ∧ l.count true ≤ lim ∧ 1 ≤ lim ∧ p ≤ 70 ∧ l.length ≤ p ∧ most ≤ 1000 ∧ 0 ≤ φ) ∧
  ∀ q H', Nw H q → Ex H H' → At H' q (.lst ((plays lim p (bud bs φ) lt l most).map fun w => V.str (tx w))) → Q (.ref q) H'
abbrev s_InvalidInput___init__ : Stmt := (inClass (top 3) 0)
abbrev s_NoPlace___init__ : Stmt := (inClass (top 4) 0)
structure EcF (P : Program) (K : PySem.W.Frag) (mg : Str → Option Value) (c_StoreError c_InvalidInput c_NoPlace : Addr) : Prop where
  g_StoreError : mg "StoreError" = some (.ref c_StoreError)
  g_InvalidInput : mg "InvalidInput" = some (.ref c_InvalidInput)
  g_NoPlace : mg "NoPlace" = some (.ref c_NoPlace)
  d_InvalidInput : ExD P K mg "InvalidInput" "InvalidInput.__init__" s_InvalidInput___init__ ["self", "field"] c_InvalidInput
  xf_InvalidInput : XfC K c_InvalidInput
  xc_InvalidInput : ExcC K c_InvalidInput
  em_InvalidInput_StoreError : PySem.W.exmOne K (.ref c_InvalidInput) (.ref c_StoreError) = some true
  kt_InvalidInput_StoreError : PySem.W.kitOne K (.ref c_InvalidInput) (.ref c_StoreError) = some true
  em_InvalidInput_InvalidInput : PySem.W.exmOne K (.ref c_InvalidInput) (.ref c_InvalidInput) = some true
  kt_InvalidInput_InvalidInput : PySem.W.kitOne K (.ref c_InvalidInput) (.ref c_InvalidInput) = some true
  em_InvalidInput_NoPlace : PySem.W.exmOne K (.ref c_InvalidInput) (.ref c_NoPlace) = some false
  kt_InvalidInput_NoPlace : PySem.W.kitOne K (.ref c_InvalidInput) (.ref c_NoPlace) = some false
  em_InvalidInput_ValueError : PySem.W.exmOne K (.ref c_InvalidInput) (.type "ValueError") = some true
  kt_InvalidInput_ValueError : PySem.W.kitOne K (.ref c_InvalidInput) (.type "ValueError") = some true
  ns_InvalidInput : PySem.W.subIn K (.ref c_InvalidInput) (.type "StopIteration") = some false
  d_NoPlace : ExD P K mg "NoPlace" "NoPlace.__init__" s_NoPlace___init__ ["self", "length"] c_NoPlace
  xf_NoPlace : XfC K c_NoPlace
  xc_NoPlace : ExcC K c_NoPlace
  em_NoPlace_StoreError : PySem.W.exmOne K (.ref c_NoPlace) (.ref c_StoreError) = some true
  kt_NoPlace_StoreError : PySem.W.kitOne K (.ref c_NoPlace) (.ref c_StoreError) = some true
  em_NoPlace_InvalidInput : PySem.W.exmOne K (.ref c_NoPlace) (.ref c_InvalidInput) = some false
  kt_NoPlace_InvalidInput : PySem.W.kitOne K (.ref c_NoPlace) (.ref c_InvalidInput) = some false
  em_NoPlace_NoPlace : PySem.W.exmOne K (.ref c_NoPlace) (.ref c_NoPlace) = some true
  kt_NoPlace_NoPlace : PySem.W.kitOne K (.ref c_NoPlace) (.ref c_NoPlace) = some true
  em_NoPlace_ValueError : PySem.W.exmOne K (.ref c_NoPlace) (.type "ValueError") = some true
  kt_NoPlace_ValueError : PySem.W.kitOne K (.ref c_NoPlace) (.type "ValueError") = some true
  ns_NoPlace : PySem.W.subIn K (.ref c_NoPlace) (.type "StopIteration") = some false
variable {c_StoreError c_InvalidInput c_NoPlace : Addr}
local macro_rules | `(tactic| walk_at "exm") => `(tactic| first | exact EcF.em_InvalidInput_StoreError (by assumption) | exact EcF.em_InvalidInput_InvalidInput (by assumption) | exact EcF.em_InvalidInput_NoPlace (by assumption) | exact EcF.em_InvalidInput_ValueError (by assumption) | exact EcF.em_NoPlace_StoreError (by assumption) | exact EcF.em_NoPlace_InvalidInput (by assumption) | exact EcF.em_NoPlace_NoPlace (by assumption) | exact EcF.em_NoPlace_ValueError (by assumption))
local macro_rules | `(tactic| walk_at "kit") => `(tactic| first | exact EcF.kt_InvalidInput_StoreError (by assumption) | exact EcF.kt_InvalidInput_InvalidInput (by assumption) | exact EcF.kt_InvalidInput_NoPlace (by assumption) | exact EcF.kt_InvalidInput_ValueError (by assumption) | exact EcF.kt_NoPlace_StoreError (by assumption) | exact EcF.kt_NoPlace_InvalidInput (by assumption) | exact EcF.kt_NoPlace_NoPlace (by assumption) | exact EcF.kt_NoPlace_ValueError (by assumption))
local macro_rules | `(tactic| walk_at "xcc") => `(tactic| first | exact EcF.xc_InvalidInput (by assumption) | exact EcF.xc_NoPlace (by assumption))
local macro_rules | `(tactic| walk_at "xfc") => `(tactic| first | exact EcF.xf_InvalidInput (by assumption) | exact EcF.xf_NoPlace (by assumption))
local macro_rules | `(tactic| walk_at "xfd") => `(tactic| first | exact (EcF.d_InvalidInput (by assumption)).fld _ rfl | exact (EcF.d_NoPlace (by assumption)).fld _ rfl)
theorem ns_InvalidInput___init__ : NdefX.NScope ["self", "field", "__class__"] ["self", "field"] ["__class__"] (defScope s_InvalidInput___init__) := NdefX.nscope_by (by decide +kernel)
theorem ex_InvalidInput {C : Addr} (D : ExD P K mg "InvalidInput" "InvalidInput.__init__" s_InvalidInput___init__ ["self", "field"] C) : ExK P w K mg base 1 "InvalidInput" C "field" := by
  obtain ⟨f, fd, i1, i2, F⟩ := D.ini
  have hb : ∀ (c cc : Addr) (doc pm ct : Value) (us : List Value), us.length = ["self", "field"].length → bindArgs (PySem.W.fnX "__init__" "InvalidInput.__init__" (defArgs s_InvalidInput___init__) (defBody s_InvalidInput___init__) (defScope s_InvalidInput___init__) [("__class__", cc)] .none .none doc pm none (.ref c) ct) ⟨us, []⟩ = pure ((["self", "field"] : List Str).zip us) := fun c cc doc pm ct us hl => match us, hl with | [_, _], _ => rfl
  refine ⟨D.mgC, D.sup.oex, f, fd, i1, i2, sup_ok (k := 0) (sp := spEx1 C "field") F ns_InvalidInput___init__ rfl rfl rfl rfl rfl hb (fun _ _ _ _ => rfl) (fun _ _ _ _ => rfl) (fun _ _ _ _ => ⟨_, rfl⟩) (fun _ _ _ _ => rfl) (fun vs H Q E h => by obtain ⟨a, v, rfl, _⟩ := h; rfl) ?_, Binds.all fun us hl => by
    obtain ⟨c, cc, oc, doc, pm, ct, _, _, _, _, _, _, _, _, _, _, _, _, e, _⟩ := F.ex
    rw [e]
    exact hb c cc doc pm ct us hl⟩
  intro c cc A outer s H vs Q E hr h
  obtain ⟨a, v, rfl, ⟨ha, hv⟩, k⟩ := h
  refine ⟨_, _, a, C, [v], (pa_cons (pe_joined (PJ.cons pe_str (PJ.cons (pe_fmt (pv 1)) PJ.nil))) pa_nil), (pss_one (ps_ost (pv 0) (pv 1))), rfl, D.sup, ha, ?_⟩
  refine Gx.Step.run ?_
  refine js_any (fun out => ?_) _ _ (List.forall_mem_cons.mpr ⟨shorty_c (by decide +kernel), List.forall_mem_cons.mpr ⟨shorty_f rfl hv, fun t ht => by cases ht⟩⟩) (by decide +kernel)
  refine Gx.Step.run ?_
  exact ⟨by simp, ha, g_ost ha D.sup.oex (D.fld _ rfl) rfl rfl k⟩
theorem ns_NoPlace___init__ : NdefX.NScope ["self", "length", "__class__"] ["self", "length"] ["__class__"] (defScope s_NoPlace___init__) := NdefX.nscope_by (by decide +kernel)
theorem ex_NoPlace {C : Addr} (D : ExD P K mg "NoPlace" "NoPlace.__init__" s_NoPlace___init__ ["self", "length"] C) : ExK P w K mg base 1 "NoPlace" C "length" := by
  obtain ⟨f, fd, i1, i2, F⟩ := D.ini
  have hb : ∀ (c cc : Addr) (doc pm ct : Value) (us : List Value), us.length = ["self", "length"].length → bindArgs (PySem.W.fnX "__init__" "NoPlace.__init__" (defArgs s_NoPlace___init__) (defBody s_NoPlace___init__) (defScope s_NoPlace___init__) [("__class__", cc)] .none .none doc pm none (.ref c) ct) ⟨us, []⟩ = pure ((["self", "length"] : List Str).zip us) := fun c cc doc pm ct us hl => match us, hl with | [_, _], _ => rfl
  refine ⟨D.mgC, D.sup.oex, f, fd, i1, i2, sup_ok (k := 0) (sp := spEx1 C "length") F ns_NoPlace___init__ rfl rfl rfl rfl rfl hb (fun _ _ _ _ => rfl) (fun _ _ _ _ => rfl) (fun _ _ _ _ => ⟨_, rfl⟩) (fun _ _ _ _ => rfl) (fun vs H Q E h => by obtain ⟨a, v, rfl, _⟩ := h; rfl) ?_, Binds.all fun us hl => by
    obtain ⟨c, cc, oc, doc, pm, ct, _, _, _, _, _, _, _, _, _, _, _, _, e, _⟩ := F.ex
    rw [e]
    exact hb c cc doc pm ct us hl⟩
  intro c cc A outer s H vs Q E hr h
  obtain ⟨a, v, rfl, ⟨ha, hv⟩, k⟩ := h
  refine ⟨_, _, a, C, [v], (pa_cons (pe_joined (PJ.cons pe_str (PJ.cons (pe_fmt (pv 1)) (PJ.cons pe_str PJ.nil)))) pa_nil), (pss_one (ps_ost (pv 0) (pv 1))), rfl, D.sup, ha, ?_⟩
  refine Gx.Step.run ?_
  refine js_any (fun out => ?_) _ _ (List.forall_mem_cons.mpr ⟨shorty_c (by decide +kernel), List.forall_mem_cons.mpr ⟨shorty_f rfl hv, List.forall_mem_cons.mpr ⟨shorty_c (by decide +kernel), fun t ht => by cases ht⟩⟩⟩) (by decide +kernel)
  refine Gx.Step.run ?_
  exact ⟨by simp, ha, g_ost ha D.sup.oex (D.fld _ rfl) rfl rfl k⟩

local macro_rules | `(tactic| walk_at "fmt") => `(tactic| first | assumption | exact .inr ⟨_, rfl, by omega, by omega⟩ | exact .inl ⟨_, rfl, by decide +kernel⟩ | exact .inl ⟨_, rfl, by assumption⟩)
local macro_rules | `(tactic| walk_at "call") => `(tactic| ((with_reducible show Gx.rMk1 _ _ _ _ _); refine Gx.g_mk1 (by walk_at "fmt") ?_; intro d_ H_ np_ e_ hp_))
local macro_rules | `(tactic| walk_at "call") => `(tactic| first
  | ((with_reducible show L2.wAs _ _ _ _ _ _ _ _ _ _); first | (refine Gx.g_wasT (by walk_at "exm") ?_; intro a_ na_) | refine Gx.g_wasF (by walk_at "exm") ?_)
  | ((with_reducible show L2.wOnly _ _ _ _ _ _ _ _ _); first | (refine Gx.g_wonT (by walk_at "exm") ?_; intro a_ na_) | refine Gx.g_wonF (by walk_at "exm") ?_)
  | ((with_reducible show Gx.rIsS _ _ _ _ _ _ _); refine Gx.g_isS (by walk_at "xcc") (fun u h => h) (by walk_at "kit") ?_)
  | ((with_reducible show Gx.rXs _ _ _ _ _ _ _ _); refine Gx.g_xs (by walk_at "xfc") (by walk_at "xfd") (by exact rfl) ?_))

def spNewest : Sp := fun vs H Q _ => ∃ (l : List Bool), vs = [.str (tx l)] ∧ Wd l ∧ Q (if l.count true = 0 then .non else .int ((l.count true : Nat) - 1)) H
local macro_rules | `(tactic| walk_at "call") => `(tactic| ((with_reducible show spNewest _ _ _ _); refine ⟨_, rfl, by assumption, ?_⟩))
def spTrim : Sp := fun vs H Q _ => ∃ (l : List Bool), vs = [.str (tx l)] ∧ l.length ≤ 1000 ∧ Q (.str (tx (l.dropWhile (! ·)))) H
abbrev s_trimmed : Stmt := (top 16)
abbrev N_trimmed : List Str := ["text"]
theorem sc_trimmed : FnScope N_trimmed ["text"] (defScope s_trimmed) := ⟨rfl, rfl, rfl, by decide +kernel, rfl, by decide +kernel, by decide +kernel⟩
theorem cl_trimmed (T : Bl mg) (Z : EcF P K mg c_StoreError c_InvalidInput c_NoPlace) (R : RdF K mg c_Round) (D : DfG K mg "_trimmed" s_trimmed [] [])  : ClG CX0 P w K mg base 3 "_trimmed" s_trimmed ["text"] [] [] spTrim := by
  have nd := sc_trimmed.nd
  refine D.okP sc_trimmed (fun vs H Q E h => ?_) (fun f cdv A outer s H vs Q E hr h => ?_)
  · obtain ⟨l, rfl, _⟩ := h
    rfl
  · obtain ⟨l, rfl, h, k⟩ := h
    have hu := hu64 hr
    refine ⟨_, (pss_one (ps_ret (pe_bmK (K := K) (by rfl) PySem.F.plainAttrs_str PySem.F.slot_str_lstrip PySem.F.type_str_lstrip mtLstripC (pv 0) (pa_cons pe_str pa_nil)))), ?_⟩
    try dsimp only [L2.cxOf, L2.Cx.nox]
    simp only [L2.start, N_trimmed, List.map_cons, List.map_nil, List.length_cons, List.length_nil, Nat.reduceAdd, Nat.reduceSub, List.replicate_succ, List.replicate_zero, List.cons_append, List.nil_append]

    walk_at "gos"
    exact k
local macro_rules | `(tactic| walk_at "call") => `(tactic| ((with_reducible show spTrim _ _ _ _); refine ⟨_, rfl, by walk_at "szt", ?_⟩))
/-! words: put steps, plainly -/
def trimW (l : List Bool) : List Bool := l.dropWhile (! ·)
def carW (n : Nat) (l : List Bool) : List Bool := if l = [] ∨ n ≤ l.length then l else trimW (l.drop 1 ++ [true])
def carN (n : Nat) : Nat → List Bool → List Bool
  | 0, l => l
  | k + 1, l => carN n k (carW n l)
theorem carN_fix {n : Nat} {l : List Bool} (h : carW n l = l) : ∀ k, carN n k l = l
  | 0 => rfl
  | k + 1 => by rw [carN, h, carN_fix h k]
theorem trim_len (l : List Bool) : (trimW l).length ≤ l.length := by
  unfold trimW
  rw [← Gx.drop_tw, List.length_drop]
  omega
theorem carW_len (n : Nat) (l : List Bool) : (carW n l).length ≤ max l.length 1 := by
  unfold carW
  split
  · omega
  · have := trim_len (l.drop 1 ++ [true])
    simp only [List.length_append, List.length_drop, List.length_cons, List.length_nil] at this
    rename_i h
    have : l.length ≠ 0 := fun z => h (.inl (List.length_eq_zero_iff.mp z))
    omega
/-- the place of the index-th one -/
def placeW (l : List Bool) (i : Nat) : Nat := l.length - ((dep l).getD i 0).toNat
def relW (l : List Bool) (i : Nat) : List Bool := trimW (l.take (placeW l i) ++ [false] ++ l.drop (placeW l i + 1))
theorem head_trim (l : List Bool) : (trimW l).head? ≠ some false := dw_head l
theorem wd_trim {l : List Bool} (h : l.length ≤ 64) : Wd (trimW l) := ⟨Nat.le_trans (trim_len l) h, head_trim l⟩
theorem wd_car {n : Nat} {l : List Bool} (h : Wd l) : Wd (carW n l) := by
  refine ⟨?_, ?_⟩
  · by_cases z : l = []
    · subst z; simp [carW]
    · have h1 := carW_len n l
      have h2 := h.1
      have : l.length ≠ 0 := fun y => z (List.length_eq_zero_iff.mp y)
      omega
  · unfold carW
    split
    · exact h.2
    · exact head_trim _
def spRel : Sp := fun vs H Q _ => ∃ (l : List Bool) (i : Nat), vs = [.str (tx l), .int (i : Nat)] ∧ (l.length ≤ 100 ∧ i < l.count true) ∧ ∀ H', Ex H H' → Q (.str (tx (relW l i))) H'
def spRelN : Sp := fun vs H Q _ => ∃ (l : List Bool) (v : V), vs = [.str (tx l), v] ∧ l.length ≤ 100 ∧ ((v = .non ∧ ∀ H', Ex H H' → Q (.str (tx l)) H') ∨ ∃ i : Nat, v = .int (i : Nat) ∧ i < l.count true ∧ ∀ H', Ex H H' → Q (.str (tx (relW l i))) H')
local macro_rules | `(tactic| walk_at "call") => `(tactic| ((with_reducible show spRelN _ _ _ _); first
  | (refine ⟨_, _, rfl, by walk_at "szt", .inl ⟨rfl, ?_⟩⟩; intro H_ e_)
  | (refine ⟨_, _, rfl, by walk_at "szt", .inr ⟨_, rfl, by assumption, ?_⟩⟩; intro H_ e_)))
def spCar : Sp := fun vs H Q _ => ∃ (l : List Bool) (n : Nat), vs = [.str (tx l), .int (n : Nat)] ∧ l.length ≤ 100 ∧ Q (.str (tx (carW n l))) H
abbrev s_carried : Stmt := (top 19)
abbrev N_carried : List Str := ["word", "places"]
theorem sc_carried : FnScope N_carried ["word", "places"] (defScope s_carried) := ⟨rfl, rfl, rfl, by decide +kernel, rfl, by decide +kernel, by decide +kernel⟩
theorem cl_carried (T : Bl mg) (Z : EcF P K mg c_StoreError c_InvalidInput c_NoPlace) (R : RdF K mg c_Round) (D : DfG K mg "_carried" s_carried [] []) (C_trimmed : ClG CX0 P w K mg base 3 "_trimmed" s_trimmed ["text"] [] [] spTrim) : ClG CX0 P w K mg base 5 "_carried" s_carried ["word", "places"] [] [] spCar := by
  have nd := sc_carried.nd
  refine D.okP sc_carried (fun vs H Q E h => ?_) (fun f cdv A outer s H vs Q E hr h => ?_)
  · obtain ⟨l, n, rfl, _⟩ := h
    rfl
  · obtain ⟨l, n, rfl, hl, k⟩ := h
    have hu := hu64 hr
    refine ⟨_, (pss_cons (ps_if (PW.pt (pw_or (pt_cmpR (opEqK (K := K) (by rfl) (by exact hu)) (pv 0) pe_str (nomark _)) (pw_or1 (pt_cmpR opGe (pe_callB (callLenK (K := K) (by rfl)) (by rfl) T.len (by decide +kernel) (pa_cons (pv 0) pa_nil)) (pv 1) (nomark _)))))
      (pss_one (ps_ret (pv 0)))
      pss_nil)
    (pss_one (ps_ret (pe_g C_trimmed (by exact hr.mono (by decide)) (E := fun _ => E0) (fun σ => passC0 σ) (fun _ _ _ _ _ _ us hl => match us, hl with | [_], _ => rfl) (pa_cons (pe_op (opAddK (K := K) (by rfl)) (pe_slice (slAnyK (K := K) (by rfl)) (pv 0) (po_some pe_int) po_none) pe_str) pa_nil))))), ?_⟩
    try dsimp only [L2.cxOf, L2.Cx.nox]
    simp only [L2.start, N_carried, List.map_cons, List.map_nil, List.length_cons, List.length_nil, Nat.reduceAdd, Nat.reduceSub, List.replicate_succ, List.replicate_zero, List.cons_append, List.nil_append]

    walk_at "gos"
    · rename_i h
      rw [show carW n l = l from if_pos (.inl h)] at k
      exact k
    · rename_i h
      rw [show carW n l = l from if_pos (.inr (by omega))] at k
      exact k
    · rename_i h1 h2
      rw [Gx.cutB_1]
      rw [show carW n l = trimW (l.drop 1 ++ [true]) from if_neg (fun z => z.elim h1 (fun z => h2 (by omega)))] at k
      exact k
local macro_rules | `(tactic| walk_at "call") => `(tactic| ((with_reducible show spCar _ _ _ _); refine ⟨_, _, rfl, by walk_at "szt", ?_⟩))
def spCarN : Sp := fun vs H Q _ => ∃ (l : List Bool) (c n : Nat), vs = [.str (tx l), .int (c : Nat), .int (n : Nat)] ∧ (l.length ≤ 99 ∧ c < 2 ^ 60) ∧ ∀ H', Ex H H' → Q (.str (tx (carN n c l))) H'
theorem carN_len (n : Nat) : ∀ (k : Nat) (l : List Bool), (carN n k l).length ≤ max l.length 1
  | 0, l => by show l.length ≤ _; omega
  | k + 1, l => by
    have := carN_len n k (carW n l)
    have := carW_len n l
    rw [carN]
    omega
theorem carN_add (n : Nat) : ∀ (a b : Nat) (l : List Bool), carN n (a + b) l = carN n b (carN n a l)
  | 0, b, l => by rw [Nat.zero_add]; rfl
  | a + 1, b, l => by rw [Nat.succ_add, carN, carN, carN_add n a b]
local macro_rules | `(tactic| walk_at "call") => `(tactic| ((with_reducible show spCarN _ _ _ _); refine ⟨_, _, _, rfl, ⟨by omega, by omega⟩, ?_⟩; intro H_ e_))
def spApp (cN : Addr) : Sp := fun vs H Q E => ∃ (l r : List Bool) (n : Nat), vs = [.str (tx l), .int (n : Nat), .str (tx r)] ∧ (l.length ≤ 99 ∧ r.length = 1) ∧ (l.length < n → Q (.str (tx (trimW (l ++ r)))) H) ∧ (¬ l.length < n → ∀ d H', Nw H d → Ex H H' → At H' d (.xd [("length", .int (l.length : Nat))]) → E (.ref cN) (some d) H')
abbrev s_appended : Stmt := (top 20)
abbrev N_appended : List Str := ["word", "places", "record"]
theorem sc_appended : FnScope N_appended ["word", "places", "record"] (defScope s_appended) := ⟨rfl, rfl, rfl, by decide +kernel, rfl, by decide +kernel, by decide +kernel⟩
theorem cl_appended (T : Bl mg) (Z : EcF P K mg c_StoreError c_InvalidInput c_NoPlace) (R : RdF K mg c_Round) (D : DfG K mg "_appended" s_appended [] []) (C_trimmed : ClG CX0 P w K mg base 3 "_trimmed" s_trimmed ["text"] [] [] spTrim) : ClG (L2.CX P w) P w K mg base 5 "_appended" s_appended ["word", "places", "record"] [] [] (spApp c_NoPlace) := by
  have nd := sc_appended.nd
  refine D.ok sc_appended (fun vs H Q E h => ?_) (fun f cdv A outer s H vs Q E hr h => ?_)
  · obtain ⟨l, r, n, rfl, _⟩ := h
    rfl
  · obtain ⟨l, r, n, rfl, ⟨hl, hrr⟩, k, k2⟩ := h
    have hu := hu64 hr
    refine ⟨_, (pss_cons (ps_if (pt_cmpR opGe (pe_callB (callLenK (K := K) (by rfl)) (by rfl) T.len (by decide +kernel) (pa_cons (pv 0) pa_nil)) (pv 1) (nomark _))
      (pss_one (ps_raise rfl takesX (pmk1 (ex_NoPlace Z.d_NoPlace) (by exact hr.mono (by decide)) rfl (pa_cons (pe_callB (callLenK (K := K) (by rfl)) (by rfl) T.len (by decide +kernel) (pa_cons (pv 0) pa_nil)) pa_nil))))
      pss_nil)
    (pss_one (ps_ret (pe_g C_trimmed (by exact hr.mono (by decide)) (E := fun _ => E0) (fun σ => passC0 σ) (fun _ _ _ _ _ _ us hl => match us, hl with | [_], _ => rfl) (pa_cons (pe_op (opAddK (K := K) (by rfl)) (pv 0) (pv 2)) pa_nil))))), ?_⟩
    try dsimp only [L2.cxOf, L2.Cx.nox]
    simp only [L2.start, N_appended, List.map_cons, List.map_nil, List.length_cons, List.length_nil, Nat.reduceAdd, Nat.reduceSub, List.replicate_succ, List.replicate_zero, List.cons_append, List.nil_append]

    walk_at "gos"
    · rename_i h _ _ _ _ _
      exact k2 (by omega) _ _ ‹_› Gx.rel Gx.at_
    · exact k (by omega)
local macro_rules | `(tactic| walk_at "call") => `(tactic| ((with_reducible show spApp _ _ _ _ _); refine ⟨_, _, _, rfl, ⟨by omega, by first | rfl | assumption⟩, fun hA => ?_, fun hA d_ H_ np_ e_ hp_ => ?_⟩))
def spRelease : Sp := fun vs H Q _ => ∃ (l : List Bool) (i : Int), vs = [.str (tx l), .int i] ∧ (Wd l ∧ 0 ≤ i ∧ i < (l.count true : Nat)) ∧ ∀ H', Ex H H' → Q (.str (tx (relW l i.toNat))) H'
def spCarry : Sp := fun vs H Q _ => ∃ (l : List Bool) (n : Nat), vs = [.str (tx l), .int (n : Nat)] ∧ (Wd l ∧ 1 ≤ n ∧ l.length ≤ n) ∧ Q (.str (tx (carW n l))) H
def spCarries : Sp := fun vs H Q _ => ∃ (l : List Bool) (c n : Nat), vs = [.str (tx l), .int (c : Nat), .int (n : Nat)] ∧ (Wd l ∧ c < 2 ^ 60 ∧ 1 ≤ n ∧ l.length ≤ n) ∧ ∀ H', Ex H H' → Q (.str (tx (carN n c l))) H'
abbrev s_carry : Stmt := (top 14)
abbrev N_carry : List Str := ["word", "places"]
theorem sc_carry : FnScope N_carry ["word", "places"] (defScope s_carry) := ⟨rfl, rfl, rfl, by decide +kernel, rfl, by decide +kernel, by decide +kernel⟩
theorem cl_carry (T : Bl mg) (Z : EcF P K mg c_StoreError c_InvalidInput c_NoPlace) (R : RdF K mg c_Round) (D : DfG K mg "carry" s_carry [] []) (C_carried : ClG CX0 P w K mg base 5 "_carried" s_carried ["word", "places"] [] [] spCar) (C_at_least : ClG CX0 P w K mg base 3 "at_least" s_at_least ["value", "least", "field"] [] [] spAtl) (C_good_word : ClG CX0 P w K mg base 3 "good_word" s_good_word ["word", "field"] [] [] spGood) : ClG CX0 P w K mg base 7 "carry" s_carry ["word", "places"] [] [] spCarry := by
  have nd := sc_carry.nd
  refine D.okP sc_carry (fun vs H Q E h => ?_) (fun f cdv A outer s H vs Q E hr h => ?_)
  · obtain ⟨l, n, rfl, _⟩ := h
    rfl
  · obtain ⟨l, n, rfl, ⟨h, h0, h1⟩, k⟩ := h
    have hu := hu64 hr
    refine ⟨_, (pss_cons (ps_expr (pe_g C_good_word (by exact hr.mono (by decide)) (E := fun _ => E0) (fun σ => passC0 σ) (fun _ _ _ _ _ _ us hl => match us, hl with | [_, _], _ => rfl) (pa_cons (pv 0) (pa_cons pe_str pa_nil))))
    (pss_cons (ps_expr (pe_g C_at_least (by exact hr.mono (by decide)) (E := fun _ => E0) (fun σ => passC0 σ) (fun _ _ _ _ _ _ us hl => match us, hl with | [_, _, _], _ => rfl) (pa_cons (pv 1) (pa_cons pe_int (pa_cons pe_str pa_nil)))))
    (pss_cons (ps_expr (pe_g C_at_least (by exact hr.mono (by decide)) (E := fun _ => E0) (fun σ => passC0 σ) (fun _ _ _ _ _ _ us hl => match us, hl with | [_, _, _], _ => rfl) (pa_cons (pv 1) (pa_cons (pe_callB (callLenK (K := K) (by rfl)) (by rfl) T.len (by decide +kernel) (pa_cons (pv 0) pa_nil)) (pa_cons pe_str pa_nil)))))
    (pss_one (ps_ret (pe_g C_carried (by exact hr.mono (by decide)) (E := fun _ => E0) (fun σ => passC0 σ) (fun _ _ _ _ _ _ us hl => match us, hl with | [_, _], _ => rfl) (pa_cons (pv 0) (pa_cons (pv 1) pa_nil)))))))), ?_⟩
    try dsimp only [L2.cxOf, L2.Cx.nox]
    simp only [L2.start, N_carry, List.map_cons, List.map_nil, List.length_cons, List.length_nil, Nat.reduceAdd, Nat.reduceSub, List.replicate_succ, List.replicate_zero, List.cons_append, List.nil_append]

    have hl := h.1
    walk_at "gos"
    exact k
def spAppR (cN : Addr) : Sp := fun vs H Q E => ∃ (l : List Bool) (b : Bool) (n : Nat), vs = [.str (tx l), .int (n : Nat), .str (tx [b])] ∧ (Wd l ∧ 1 ≤ n ∧ l.length ≤ n) ∧ (l.length < n → ∀ H', Ex H H' → Q (.str (tx (trimW (l ++ [b])))) H') ∧ (¬ l.length < n → ∀ d H', Nw H d → Ex H H' → At H' d (.xd [("length", .int (l.length : Nat))]) → E (.ref cN) (some d) H')
abbrev s_append_record : Stmt := (top 15)
abbrev N_append_record : List Str := ["word", "places", "record"]
theorem sc_append_record : FnScope N_append_record ["word", "places", "record"] (defScope s_append_record) := ⟨rfl, rfl, rfl, by decide +kernel, rfl, by decide +kernel, by decide +kernel⟩
theorem cl_append_record (T : Bl mg) (Z : EcF P K mg c_StoreError c_InvalidInput c_NoPlace) (R : RdF K mg c_Round) (D : DfG K mg "append_record" s_append_record [.str "1"] []) (C_appended : ClG (L2.CX P w) P w K mg base 5 "_appended" s_appended ["word", "places", "record"] [] [] (spApp c_NoPlace)) (C_at_least : ClG CX0 P w K mg base 3 "at_least" s_at_least ["value", "least", "field"] [] [] spAtl) (C_good_word : ClG CX0 P w K mg base 3 "good_word" s_good_word ["word", "field"] [] [] spGood) : ClG (L2.CX P w) P w K mg base 7 "append_record" s_append_record ["word", "places", "record"] [.str "1"] [] (spAppR c_NoPlace) := by
  have nd := sc_append_record.nd
  refine D.ok sc_append_record (fun vs H Q E h => ?_) (fun f cdv A outer s H vs Q E hr h => ?_)
  · obtain ⟨l, b, n, rfl, _⟩ := h
    rfl
  · obtain ⟨l, b, n, rfl, ⟨h, h0, h1⟩, k, k2⟩ := h
    have hu := hu64 hr
    refine ⟨_, (pss_cons (ps_expr (pe_g C_good_word (by exact hr.mono (by decide)) (E := fun _ => E0) (fun σ => passC0 σ) (fun _ _ _ _ _ _ us hl => match us, hl with | [_, _], _ => rfl) (pa_cons (pv 0) (pa_cons pe_str pa_nil))))
    (pss_cons (ps_expr (pe_g C_at_least (by exact hr.mono (by decide)) (E := fun _ => E0) (fun σ => passC0 σ) (fun _ _ _ _ _ _ us hl => match us, hl with | [_, _, _], _ => rfl) (pa_cons (pv 1) (pa_cons pe_int (pa_cons pe_str pa_nil)))))
    (pss_cons (ps_if (pt_cmpR (opNotInK (K := K) (by rfl)) (pv 2) (pe_tup (pa_cons pe_str (pa_cons pe_str pa_nil))) (by rfl))
      (pss_one ps_never)
      pss_nil)
    (pss_cons (ps_expr (pe_g C_at_least (by exact hr.mono (by decide)) (E := fun _ => E0) (fun σ => passC0 σ) (fun _ _ _ _ _ _ us hl => match us, hl with | [_, _, _], _ => rfl) (pa_cons (pv 1) (pa_cons (pe_callB (callLenK (K := K) (by rfl)) (by rfl) T.len (by decide +kernel) (pa_cons (pv 0) pa_nil)) (pa_cons pe_str pa_nil)))))
    (pss_one (ps_ret (pe_g C_appended (by exact hr.mono (by decide)) (fun σ => passC takesX σ) (fun _ _ _ _ _ _ us hl => match us, hl with | [_, _, _], _ => rfl) (pa_cons (pv 0) (pa_cons (pv 1) (pa_cons (pv 2) pa_nil)))))))))), ?_⟩
    try dsimp only [L2.cxOf, L2.Cx.nox]
    simp only [L2.start, N_append_record, List.map_cons, List.map_nil, List.length_cons, List.length_nil, Nat.reduceAdd, Nat.reduceSub, List.replicate_succ, List.replicate_zero, List.cons_append, List.nil_append]

    have hl := h.1
    walk_at "gos"
    refine Gx.g_inT (b := true) rfl rfl (by cases b <;> decide +kernel) ?_
    walk_at "gos"
    · exact k (by assumption) _ Gx.rel
    · exact k2 (by assumption) _ _ Gx.new Gx.rel Gx.at_
local macro_rules | `(tactic| walk_at "call") => `(tactic| ((with_reducible show spAtMost _ _ _ _); refine ⟨_, _, _, rfl, by omega, ?_⟩))
/-- the release, if there is one -/
def relO (l : List Bool) : Option Nat → List Bool
  | none => l
  | some i => relW l i
/-- what step gives: none where no place is left -/
def stepW (l : List Bool) (o : Option Nat) (c n : Nat) (late : Bool) : Option (List Bool) :=
  if late = true then
    if l.length < n then
      some (carN n (min c ((relO (trimW (l ++ [true])) o).count true - 1)) (relO (trimW (l ++ [true])) o))
    else none
  else
    if (carN n (min c ((relO l o).count true)) (relO l o)).length < n then some (trimW (carN n (min c ((relO l o).count true)) (relO l o) ++ [true])) else none
def spStep (cN : Addr) : Sp := fun vs H Q E => ∃ (l : List Bool) (v : V) (o : Option Nat) (c n : Nat) (late : Bool), vs = [.str (tx l), v, .int (c : Nat), .int (n : Nat), .bl late] ∧ ((v = .non ∧ o = none) ∨ ∃ i : Nat, v = .int (i : Nat) ∧ o = some i ∧ i < l.count true) ∧ (Wd l ∧ 1 ≤ n ∧ l.length ≤ n ∧ n ≤ 65) ∧
  (∀ v, stepW l o c n late = some v → ∀ H', Ex H H' → Q (.str (tx v)) H') ∧ (stepW l o c n late = none → ∀ d H' (m : Nat), Nw H d → Ex H H' → m = n → At H' d (.xd [("length", .int (m : Nat))]) → E (.ref cN) (some d) H')
theorem relW_len {l : List Bool} {i : Nat} (hi : i < l.count true) : (relW l i).length ≤ l.length := by
  have hdl := dep_len l
  have hm : (dep l).getD i 0 ∈ dep l := Gx.getD_mem (by omega)
  have hb := dep_le l _ hm
  have h1 := trim_len (l.take (placeW l i) ++ [false] ++ l.drop (placeW l i + 1))
  simp only [List.length_append, List.length_take, List.length_drop, List.length_cons, List.length_nil] at h1
  have h2 : placeW l i < l.length := by unfold placeW; omega
  unfold relW
  omega
theorem cnt_le (l : List Bool) : l.count true ≤ l.length := List.count_le_length
theorem minI {a b : Nat} : (if (b : Int) < (a : Int) then (b : Int) else (a : Int)) = ((min a b : Nat) : Int) := by
  split <;> omega
theorem trim_cnt (l : List Bool) : (trimW l).count true = l.count true := by
  induction l with
  | nil => rfl
  | cons a l ih => cases a with
    | false => rw [show trimW (false :: l) = trimW l from rfl, ih]; rfl
    | true => rfl
theorem add1_cnt (l : List Bool) : (trimW (l ++ [true])).count true = l.count true + 1 := by
  rw [trim_cnt, List.count_append]; rfl
theorem add1_len (l : List Bool) : (trimW (l ++ [true])).length ≤ l.length + 1 := by
  have := trim_len (l ++ [true])
  rw [List.length_append] at this
  exact this
/-- the index-th one struck out -/
def clr : List Bool → Nat → List Bool
  | [], _ => []
  | true :: r, 0 => false :: r
  | true :: r, i + 1 => true :: clr r i
  | false :: r, i => false :: clr r i
theorem place_at {l : List Bool} {i : Nat} (hi : i < l.count true) : 1 ≤ (dep l).getD i 0 ∧ (dep l).getD i 0 ≤ l.length :=
  dep_le l _ (Gx.getD_mem (by have := dep_len l; omega))
theorem clr_eq : ∀ {l : List Bool} {i : Nat}, i < l.count true → l.take (placeW l i) ++ [false] ++ l.drop (placeW l i + 1) = clr l i
  | [], i, h => absurd h (by simp)
  | true :: r, 0, h => by
    have e : placeW (true :: r) 0 = 0 := by
      unfold placeW
      rw [dep_cons]
      simp
    rw [e]
    rfl
  | true :: r, i + 1, h => by
    have h' : i < r.count true := by simpa using h
    have e : placeW (true :: r) (i + 1) = placeW r i + 1 := by
      have := place_at h'
      unfold placeW
      rw [dep_cons]
      simp
      simp at this
      omega
    rw [e, show clr (true :: r) (i + 1) = true :: clr r i from rfl, ← clr_eq h']
    rfl
  | false :: r, i, h => by
    have h' : i < r.count true := by simpa using h
    have e : placeW (false :: r) i = placeW r i + 1 := by
      have := place_at h'
      unfold placeW
      rw [dep_cons]
      simp
      simp at this
      omega
    rw [e, show clr (false :: r) i = false :: clr r i from by cases i <;> rfl, ← clr_eq h']
    rfl
theorem clr_cnt : ∀ {l : List Bool} {i : Nat}, i < l.count true → (clr l i).count true + 1 = l.count true
  | [], i, h => absurd h (by simp)
  | true :: r, 0, h => by simp [clr]
  | true :: r, i + 1, h => by
    have h' : i < r.count true := by simpa using h
    have := clr_cnt h'
    simp [clr]
    omega
  | false :: r, i, h => by
    have h' : i < r.count true := by simpa using h
    have := clr_cnt h'
    rw [show clr (false :: r) i = false :: clr r i from by cases i <;> rfl]
    simp
    omega
theorem rel_clr {l : List Bool} {i : Nat} (hi : i < l.count true) : relW l i = trimW (clr l i) := by
  unfold relW; rw [clr_eq hi]
theorem relW_cnt {l : List Bool} {i : Nat} (hi : i < l.count true) : (relW l i).count true + 1 = l.count true := by
  rw [rel_clr hi, trim_cnt, clr_cnt hi]
theorem minI1 {a b : Nat} (h : 1 ≤ b) : (if (b : Int) - 1 < (a : Int) then (b : Int) - 1 else (a : Int)) = ((min a (b - 1) : Nat) : Int) := by
  split <;> omega
theorem step_e1 {l : List Bool} {o : Option Nat} {c n : Nat} (h : (carN n (min c ((relO l o).count true)) (relO l o)).length < n) : stepW l o c n false = some (trimW (carN n (min c ((relO l o).count true)) (relO l o) ++ [true])) :=
  (if_neg (by decide)).trans (if_pos h)
theorem step_e0 {l : List Bool} {o : Option Nat} {c n : Nat} (h : ¬ (carN n (min c ((relO l o).count true)) (relO l o)).length < n) : stepW l o c n false = none :=
  (if_neg (by decide)).trans (if_neg h)
theorem step_l1 {l : List Bool} {o : Option Nat} {c n : Nat} (h : l.length < n) : stepW l o c n true = some (carN n (min c ((relO (trimW (l ++ [true])) o).count true - 1)) (relO (trimW (l ++ [true])) o)) :=
  (if_pos rfl).trans (if_pos h)
theorem step_l0 {l : List Bool} {o : Option Nat} {c n : Nat} (h : ¬ l.length < n) : stepW l o c n true = none :=
  (if_pos rfl).trans (if_neg h)
/-! the program's step is the law's put -/
theorem relO_rlo {l : List Bool} {o : Option Nat} : relO l o = rlo l o := by
  cases o with
  | none => rfl
  | some i =>
    show trimW (l.take (placeW l i) ++ [false] ++ l.drop (placeW l i + 1)) = Lif.tz (l.take (placeW l i) ++ false :: l.drop (placeW l i + 1))
    rw [List.append_assoc]
    rfl
theorem carW_lif {n : Nat} {l : List Bool} (h : l.length < n) : carW n l = Lif.car l := by
  unfold carW Lif.car
  by_cases z : l = []
  · rw [if_pos (.inl z), if_pos z]
  · rw [if_neg (fun y => y.elim z (fun q => by omega)), if_neg z, List.drop_one]
    rfl
theorem carN_lif {n : Nat} {l : List Bool} (h : l.length < n) : ∀ k, carN n k l = Lif.cars k l
  | 0 => rfl
  | k + 1 => by
    have hl := cars_len (w := l) k
    rw [carN_add n k 1, carN_lif h k]
    exact carW_lif (by omega)
theorem carW_full {n : Nat} {l : List Bool} (h : n ≤ l.length) : ∀ k, carN n k l = l := carN_fix (if_pos (.inr h))
theorem stepW_gst {l : List Bool} {lim c p : Nat} {lt : Bool} (hw : Wd l) (hc : l.count true ≤ lim) (h1 : 1 ≤ lim) (hp : l.length ≤ p) : stepW l (nwo l lim) c p lt = gst lim c p lt l := by
  have hz := hw.tz
  have hrz := Lif.rel_tz (lim := lim) hz
  have hr := nwo_rlo hc h1
  cases lt with
  | false =>
    unfold stepW
    rw [if_neg (by decide), relO_rlo, hr]
    by_cases z : (Lif.rel lim l).length < p
    · have hcl := cars_len (w := Lif.rel lim l) (min c ((Lif.rel lim l).count true))
      rw [gst_e1 z, carN_lif z, if_pos (by omega)]
      exact congrArg some (Lif.snoc_tz (Lif.cars_tz hrz _))
    · rw [gst_e0 (by omega), carW_full (by omega), if_neg z]
  | true =>
    unfold stepW
    rw [if_pos rfl]
    by_cases z : l.length < p
    · have e1 : trimW (l ++ [true]) = l ++ [true] := Lif.snoc_tz hz
      have e2 : relO (l ++ [true]) (nwo l lim) = Lif.rel lim l ++ [true] := by
        rw [relO_rlo]
        unfold nwo
        split
        · rename_i h
          exact zl_rel2 h (by omega)
        · rw [rel_lt (lim := lim) (w := l) (by omega)]
          rfl
      have e3 : (Lif.rel lim l ++ [true]).count true - 1 = (Lif.rel lim l).count true := by rw [List.count_append]; simp
      have e4 : (Lif.rel lim l ++ [true]).length = (Lif.rel lim l).length + 1 := by rw [List.length_append]; rfl
      rw [if_pos z, e1, e2, e3]
      by_cases y : (Lif.rel lim l).length + 1 < p
      · rw [gst_l2 z y, carN_lif (by omega)]
        by_cases x : (Lif.rel lim l).count true = 0
        · rw [x, Nat.min_zero]
          rfl
        · rw [cars_snoc hrz (by omega)]
      · rw [gst_l1 z (by omega), carW_full (by omega)]
    · rw [if_neg z, gst_l0 (by omega)]
theorem wd_of {l : List Bool} {p : Nat} (h : Lif.tz l = l) (h1 : l.length ≤ p) (h2 : p ≤ 64) : Wd l := by
  refine ⟨by omega, ?_⟩
  cases l with
  | nil => simp
  | cons b r =>
    have := Lif.tz_head h
    subst this
    simp
def spNst (C cN : Addr) : Sp := fun vs H Q E => ∃ (l : List Bool) (p lim : Nat) (a : Addr) (bs : List Int) (φ : Int) (lt : Bool), vs = [.str (tx l), .int (p : Nat), .int (lim : Nat), .ref a, .int φ, .bl lt] ∧ (RdC C H a bs ∧ RB bs ∧ Wd l ∧ l.count true ≤ lim ∧ 1 ≤ lim ∧ lim ≤ p ∧ l.length ≤ p ∧ p ≤ 64 ∧ 0 ≤ φ) ∧
  (∀ u, gst lim (bud bs φ 0) p lt l = some u → ∀ H', Ex H H' → Q (.str (tx u)) H') ∧ (gst lim (bud bs φ 0) p lt l = none → ∀ d H' (m : Nat), Nw H d → Ex H H' → m = p → At H' d (.xd [("length", .int (m : Nat))]) → E (.ref cN) (some d) H')
theorem use_step {C : Addr} {l : List Bool} {lim c p : Nat} {lt : Bool} {H : Hp} {Q : VK} {E : XK} (hw : Wd l) (hc : l.count true ≤ lim) (h1 : 1 ≤ lim) (h2 : lim ≤ p) (hp : l.length ≤ p) (h3 : p ≤ 64) {v : V} (hv : v = vo (nwo l lim))
    (k1 : ∀ u, gst lim c p lt l = some u → ∀ H', Ex H H' → Q (.str (tx u)) H') (k2 : gst lim c p lt l = none → ∀ d H' (m : Nat), Nw H d → Ex H H' → m = p → At H' d (.xd [("length", .int (m : Nat))]) → E (.ref C) (some d) H') :
    spStep C [.str (tx l), v, .int (c : Nat), .int (p : Nat), .bl lt] H Q E := by
  subst hv
  refine ⟨l, _, nwo l lim, c, p, lt, rfl, ?_, ⟨hw, by omega, hp, by omega⟩, fun u hu => ?_, fun hu => ?_⟩
  · cases e : nwo l lim with
    | none => exact .inl ⟨rfl, rfl⟩
    | some i => exact .inr ⟨i, rfl, rfl, nwo_lt h1 i e⟩
  · rw [stepW_gst hw hc h1 hp] at hu
    exact k1 u hu
  · rw [stepW_gst hw hc h1 hp] at hu
    exact k2 hu
local macro_rules | `(tactic| walk_at "call") => `(tactic| first
  | ((with_reducible show L2.tGYield _ _ _ _ _); refine Gx.g_yield (by walk_at "szt") ?_))

def spNpl (C : Addr) : SpG := fun vs H Q _ => ∃ (l : List Bool) (p lim : Nat) (a : Addr) (bs : List Int) (φ : Int) (lt : Bool) (most : Nat), vs = [.str (tx l), .int (p : Nat), .int (lim : Nat), .ref a, .int φ, .bl lt, .int (most : Nat)] ∧ (RdC C H a bs ∧ RB bs ∧ Wd l ∧ l.count true ≤ lim ∧ 1 ≤ lim ∧ lim ≤ p ∧ l.length ≤ p ∧ p ≤ 64 ∧ 0 ≤ φ ∧ most ≤ 1000) ∧
  ∀ H', Ex H H' → Q ((plays lim p (bud bs φ) lt l most).map fun w => V.str (tx w)) H'
theorem use_npl {C : Addr} {l : List Bool} {p lim most : Nat} {a : Addr} {bs : List Int} {φ : Int} {lt : Bool} {H : Hp} {Q : VK} (h : RdC C H a bs ∧ RB bs ∧ Wd l ∧ l.count true ≤ lim ∧ 1 ≤ lim ∧ lim ≤ p ∧ l.length ≤ p ∧ p ≤ 64 ∧ 0 ≤ φ ∧ most ≤ 1000)
    (q : ∀ p' H3, Nw H p' → Ex H H3 → At H3 p' (.lst ((plays lim p (bud bs φ) lt l most).map fun w => V.str (tx w))) → Q (.ref p') H3) :
    Gx.rNewG (spNpl C) [.str (tx l), .int (p : Nat), .int (lim : Nat), .ref a, .int φ, .bl lt, .int (most : Nat)] E0 H Q :=
  ⟨l, p, lim, a, bs, φ, lt, most, rfl, h, fun H2 e2 => Gx.g_newG fun p' H3 n3 e3 h3 => q p' H3 Gx.new Gx.rel h3⟩

/-! standings compared, plainly -/
theorem win_le {bs cs : List Int} {s : Int} (hB : RB bs) (hC : RB cs) (h : ∀ t, nth bs t ≤ nth cs t) : ∀ c : Nat, win bs s (c : Nat) ≤ win cs s (c : Nat)
  | 0 => by rw [show ((0 : Nat) : Int) = 0 from rfl, win_zero, win_zero]; exact Int.le_refl _
  | c + 1 => by
    have h1 := win_le hB hC h (s := s) c
    have h2 := h (s + (c : Nat))
    rw [win_succ hB, win_succ hC]
    omega
/-- a standing -/
structure Sd where
  l : List Bool
  bs : List Int
  lim : Nat
  p : Nat
structure Sd.Ok (S : Sd) : Prop where
  wd : Wd S.l
  rb : RB S.bs
  o : S.l.count true ≤ S.lim
  m : 1 ≤ S.lim
  mp : S.lim ≤ S.p
  lp : S.l.length ≤ S.p
  p2 : S.p ≤ 70
def Sd.C (S : Sd) (lt : Bool) : Nat := S.p - (if lt = true then 1 else 0)
def Sd.U (S : Sd) (φ : Int) (t : Nat) : List Bool := Lif.Uw S.lim (bud S.bs φ) S.l t
/-- the life -/
def Lv (S : Sd) (φ : Int) (lt : Bool) (v : V) : Prop :=
  ((lt = true ∧ S.l.length = S.p) ∧ v = .int 0) ∨
  (¬ (lt = true ∧ S.l.length = S.p) ∧ ((v = .non ∧ ∀ t, (S.U φ t).length < S.C lt) ∨ ∃ T : Nat, v = .int ((T : Nat) + b2 lt) ∧ S.C lt ≤ (S.U φ T).length ∧ ∀ t, t < T → (S.U φ t).length < S.C lt))
/-- S is at least as good as R -/
structure Btr (S R : Sd) : Prop where
  o : S.l.count true ≤ R.l.count true
  d : ∀ j : Nat, j < S.l.count true → (dep S.l).getD j 0 ≤ (dep R.l).getD j 0
  p : R.p ≤ S.p
  m : S.lim ≤ R.lim
  b : ∀ t, nth R.bs t ≤ nth S.bs t
  f : S.l.length = S.p → R.l.length = R.p
theorem dep_down : ∀ {l : List Bool} {i j : Nat}, i ≤ j → j < l.count true → (dep l).getD j 0 + (j : Int) ≤ (dep l).getD i 0 + (i : Int)
  | l, i, j, h, hj => by
    induction j with
    | zero => rw [Nat.le_zero.mp h]; exact Int.le_refl _
    | succ j ih =>
      by_cases z : i = j + 1
      · rw [z]; exact Int.le_refl _
      · have h1 := ih (by omega) (by omega)
        have h2 := dep_sfx hj
        have h3 := dep_sfx (l := l) (j := j) (by omega)
        have h4 : (Lif.sfx (j + 1) l).length + 1 ≤ (Lif.sfx j l).length := by
          have hn := Lif.sfx_ne (l := l) (j := j) (by omega)
          have := Lif.tz_len (l := (Lif.sfx j l).tail)
          rw [List.length_tail] at this
          have h5 : 0 < (Lif.sfx j l).length := List.length_pos_iff.mpr hn
          show (Lif.tz (Lif.sfx j l).tail).length + 1 ≤ _
          omega
        omega
theorem Btr.full {S R : Sd} (hS : S.Ok) (hR : R.Ok) (h : Btr S R) {φ : Int} {lt : Bool} {t : Nat} (hf : S.C lt ≤ (S.U φ t).length) : R.C lt ≤ (R.U φ t).length := by
  have hCS : S.lim ≤ S.C lt + 1 := by have := hS.mp; unfold Sd.C; split <;> omega
  have hCR : R.lim ≤ R.C lt + 1 := by have := hR.mp; unfold Sd.C; split <;> omega
  have hC : (R.C lt : Int) ≤ S.C lt := by have := h.p; unfold Sd.C; split <;> omega
  have ho := h.o
  have hm := h.m
  have hoR := hR.o
  refine (bad_iff (φ := φ) hR.rb hR.wd hR.o hR.m hCR t).mpr ?_
  rcases (bad_iff (φ := φ) hS.rb hS.wd hS.o hS.m hCS t).mp hf with z | z
  · left
    obtain ⟨z0, z1, z2, z3⟩ := z
    have hw := win_le (s := φ) hR.rb hS.rb h.b t
    have hn := win_nn (s := φ) (c := (t : Nat)) hR.rb (by omega)
    refine ⟨z0, by omega, by omega, ?_⟩
    have h1 := h.d (win S.bs φ (t : Nat)).toNat (by omega)
    have h2 := dep_down (l := R.l) (i := (win R.bs φ (t : Nat)).toNat) (j := (win S.bs φ (t : Nat)).toNat) (by omega) (by omega)
    omega
  · right
    obtain ⟨z0, z1, z2⟩ := z
    refine ⟨z0, by omega, ?_⟩
    by_cases y : (R.C lt : Int) < R.lim
    · exact .inl y
    · right
      rcases z2 with q | q
      · omega
      · obtain ⟨a, ha⟩ : ∃ a : Nat, (a : Int) = (R.C lt : Int) - R.lim := ⟨((R.C lt : Int) - R.lim).toNat, by omega⟩
        obtain ⟨c, hc⟩ : ∃ c : Nat, (c : Int) = (S.C lt : Int) - S.lim := ⟨((S.C lt : Int) - S.lim).toNat, by omega⟩
        rw [← ha]
        rw [← hc] at q
        -- the window of R is the end of that of S
        have hadd : ∀ (s : Int) (x y : Nat), win S.bs s ((x + y : Nat) : Int) = win S.bs s (x : Nat) + win S.bs (s + (x : Nat)) (y : Nat) := by
          intro s x y
          induction y with
          | zero => rw [Nat.add_zero, show ((0 : Nat) : Int) = 0 from rfl, win_zero]; omega
          | succ y ih =>
            rw [← Nat.add_assoc, win_succ hS.rb, ih, win_succ hS.rb (s := s + (x : Nat)), show s + ((x + y : Nat) : Int) = s + (x : Nat) + (y : Nat) from by omega]
            omega
        have e := hadd (φ + (t : Nat) - (c : Nat)) (c - a) a
        rw [show c - a + a = c from by omega, show φ + (t : Nat) - (c : Nat) + ((c - a : Nat) : Int) = φ + (t : Nat) - (a : Nat) from by omega] at e
        have hn := win_nn (s := φ + (t : Nat) - (c : Nat)) (c := ((c - a : Nat) : Int)) hS.rb (by omega)
        have hw := win_le (s := φ + (t : Nat) - (a : Nat)) hR.rb hS.rb h.b a
        omega
/-- what the law asks of two lives -/
def Ordd (v due : V) (bt : Bool) : Prop := (v = .non ∨ ∃ i : Int, v = .int i ∧ 0 ≤ i) ∧ (due = .non ∨ ∃ i : Int, due = .int i) ∧ (v = .non → bt = true ∨ due = .non) ∧ (∀ i, v = .int i → due = .non → bt = false) ∧ ∀ i j : Int, v = .int i → due = .int j → (bt = true → j ≤ i) ∧ (bt = false → i ≤ j)
theorem Lv.kind {S : Sd} {φ : Int} {lt : Bool} {v : V} (h : Lv S φ lt v) : v = .non ∨ ∃ i : Int, v = .int i ∧ 0 ≤ i := by
  have hb := b2_b lt
  rcases h with ⟨_, h⟩ | ⟨_, ⟨h, _⟩ | ⟨T, h, _⟩⟩
  · exact .inr ⟨0, h, by omega⟩
  · exact .inl h
  · exact .inr ⟨_, h, by omega⟩
theorem Lv.cmp {S R : Sd} (hS : S.Ok) (hR : R.Ok) (h : Btr S R) {φ : Int} {lt : Bool} {v u : V} (hv : Lv S φ lt v) (hu : Lv R φ lt u) : (v = .non ∨ ∃ i j : Int, v = .int i ∧ u = .int j ∧ j ≤ i) := by
  have hb := b2_b lt
  rcases hv with ⟨⟨f1, f2⟩, e⟩ | ⟨nf, ⟨e, _⟩ | ⟨T, e, f1, f2⟩⟩
  · rcases hu with ⟨_, e2⟩ | ⟨nf, _⟩
    · exact .inr ⟨0, 0, e, e2, Int.le_refl _⟩
    · exact absurd ⟨f1, h.f f2⟩ nf
  · exact .inl e
  · have hr := h.full hS hR f1
    rcases hu with ⟨_, e2⟩ | ⟨nf2, ⟨e2, g⟩ | ⟨T2, e2, g1, g2⟩⟩
    · exact .inr ⟨_, 0, e, e2, by omega⟩
    · have := g T
      omega
    · refine .inr ⟨_, _, e, e2, ?_⟩
      have : T2 ≤ T := by
        refine Nat.le_of_not_lt fun z => ?_
        have := g2 T z
        omega
      omega
theorem ord_better {S R : Sd} (hS : S.Ok) (hR : R.Ok) (h : Btr S R) {φ : Int} {lt : Bool} {v u : V} (hv : Lv S φ lt v) (hu : Lv R φ lt u) : Ordd v u true := by
  have hk := hv.kind
  have hk2 := hu.kind
  refine ⟨hk, hk2.imp id fun ⟨i, e, _⟩ => ⟨i, e⟩, fun _ => .inl rfl, fun i e1 e2 => ?_, fun i j e1 e2 => ⟨fun _ => ?_, fun z => absurd z (by decide)⟩⟩
  · rcases Lv.cmp hS hR h hv hu with z | ⟨a, b, z1, z2, _⟩
    · rw [e1] at z; cases z
    · rw [e2] at z2; cases z2
  · rcases Lv.cmp hS hR h hv hu with z | ⟨a, b, z1, z2, z3⟩
    · rw [e1] at z; cases z
    · rw [e1] at z1; rw [e2] at z2
      cases z1; cases z2
      exact z3
theorem ord_worse {S R : Sd} (hS : S.Ok) (hR : R.Ok) (h : Btr R S) {φ : Int} {lt : Bool} {v u : V} (hv : Lv S φ lt v) (hu : Lv R φ lt u) : Ordd v u false := by
  have hk := hv.kind
  have hk2 := hu.kind
  refine ⟨hk, hk2.imp id fun ⟨i, e, _⟩ => ⟨i, e⟩, fun z => .inr ?_, fun i e1 e2 => rfl, fun i j e1 e2 => ⟨fun z => absurd z (by decide), fun _ => ?_⟩⟩
  · rcases Lv.cmp hR hS h hu hv with y | ⟨a, b, z1, z2, _⟩
    · exact y
    · rw [z] at z2; cases z2
  · rcases Lv.cmp hR hS h hu hv with y | ⟨a, b, z1, z2, z3⟩
    · rw [e2] at y; cases y
    · rw [e2] at z1; rw [e1] at z2
      cases z1; cases z2
      exact z3
/-- the formula's answers are lives -/
theorem lv_of {S : Sd} (hS : S.Ok) {φ : Int} (hf : 0 ≤ φ) {lt : Bool} {v : V}
    (h0 : lt = true → S.l.length = S.p → v = .int 0)
    (h1 : ¬ (lt = true ∧ S.l.length = S.p) → (v = .non ∧ ∀ j, ¬ Bad S.l S.bs (S.C lt : Nat) S.lim φ j) ∨ ∃ t : Int, v = .int (t + b2 lt) ∧ Bad S.l S.bs (S.C lt : Nat) S.lim φ t ∧ ∀ j, j < t → ¬ Bad S.l S.bs (S.C lt : Nat) S.lim φ j) : Lv S φ lt v := by
  by_cases z : lt = true ∧ S.l.length = S.p
  · exact .inl ⟨z, h0 z.1 z.2⟩
  · have hCS : S.lim ≤ S.C lt + 1 := by have := hS.mp; unfold Sd.C; split <;> omega
    refine .inr ⟨z, ?_⟩
    have hbx : ∀ t : Nat, Bad S.l S.bs (S.C lt : Nat) S.lim φ (t : Nat) → S.C lt ≤ (S.U φ t).length := fun t hb => by
      refine (bad_iff (φ := φ) hS.rb hS.wd hS.o hS.m hCS t).mpr ?_
      rcases hb with ⟨_, y⟩ | ⟨_, y⟩
      · exact .inl y
      · exact .inr y
    -- the first full put, if there is one
    by_cases hx : ∃ T, S.C lt ≤ (S.U φ T).length
    · obtain ⟨T, hT, hT2⟩ : ∃ T, S.C lt ≤ (S.U φ T).length ∧ ∀ t, t < T → (S.U φ t).length < S.C lt := by
        obtain ⟨T0, hT0⟩ := hx
        have key : ∀ n, (∀ t, t < n → (S.U φ t).length < S.C lt) ∨ ∃ T, S.C lt ≤ (S.U φ T).length ∧ ∀ t, t < T → (S.U φ t).length < S.C lt := by
          intro n
          induction n with
          | zero => exact .inl fun t ht => absurd ht (Nat.not_lt_zero _)
          | succ n ih =>
            rcases ih with ih | ih
            · by_cases y : S.C lt ≤ (S.U φ n).length
              · exact .inr ⟨n, y, ih⟩
              · refine .inl fun t ht => ?_
                by_cases q : t = n
                · rw [q]; omega
                · exact ih t (by omega)
            · exact .inr ih
        rcases key (T0 + 1) with y | y
        · have := y T0 (by omega)
          omega
        · exact y
      obtain ⟨b1, b3, _⟩ := first_some (φ := φ) hS.rb hS.wd hS.o hS.m hCS hf hT hT2
      rcases h1 z with ⟨e, hn⟩ | ⟨t, e, hb, hl⟩
      · exact absurd b1 (hn _)
      · have : t = (T : Nat) := by
          rcases Int.lt_trichotomy t (T : Nat) with y | y | y
          · exact absurd hb (b3 t y)
          · exact y
          · exact absurd b1 (hl _ y)
        subst this
        exact .inr ⟨T, e, hT, hT2⟩
    · have hall : ∀ t, (S.U φ t).length < S.C lt := fun t => by
        refine Nat.lt_of_not_le fun y => hx ⟨t, y⟩
      rcases h1 z with ⟨e, hn⟩ | ⟨t, e, hb, hl⟩
      · exact .inl ⟨e, hall⟩
      · exact absurd hb (first_none (φ := φ) hS.rb hS.wd hS.o hS.m hCS hall t)
theorem play_lv {S : Sd} (hS : S.Ok) {φ : Int} (hf : 0 ≤ φ) {lt : Bool} {n : Nat} (h : PlayIs S.lim (bud S.bs φ) S.l S.p (S.C lt) lt (S.p + S.bs.length + 2) n) : Lv S φ lt (if n < S.p + S.bs.length + 2 then .int (n : Nat) else .non) := by
  rcases h with ⟨a, b, e⟩ | ⟨z, y, T, e, h1, h2⟩ | ⟨z, e, h1⟩
  · rw [e, if_pos (by omega)]
    exact .inl ⟨⟨a, b⟩, rfl⟩
  · rw [if_pos y]
    refine .inr ⟨z, .inr ⟨T, ?_, h1, h2⟩⟩
    rw [e]
    unfold b2
    split <;> simp
  · rw [if_neg (by omega)]
    refine .inr ⟨z, .inl ⟨rfl, fun t => ?_⟩⟩
    have hCS : S.lim ≤ S.C lt + 1 := by have := hS.mp; unfold Sd.C; split <;> omega
    refine Nat.lt_of_not_le fun y => ?_
    obtain ⟨T, hT, hT2⟩ : ∃ T, S.C lt ≤ (S.U φ T).length ∧ ∀ t, t < T → (S.U φ t).length < S.C lt := by
      have key : ∀ n, (∀ t, t < n → (S.U φ t).length < S.C lt) ∨ ∃ T, S.C lt ≤ (S.U φ T).length ∧ ∀ t, t < T → (S.U φ t).length < S.C lt := by
        intro n
        induction n with
        | zero => exact .inl fun t ht => absurd ht (Nat.not_lt_zero _)
        | succ n ih =>
          rcases ih with ih | ih
          · by_cases y : S.C lt ≤ (S.U φ n).length
            · exact .inr ⟨n, y, ih⟩
            · refine .inl fun t ht => ?_
              by_cases q : t = n
              · rw [q]; omega
              · exact ih t (by omega)
          · exact .inr ih
      rcases key (t + 1) with w | w
      · have := w t (by omega)
        omega
      · exact w
    obtain ⟨_, _, hr⟩ := first_some (φ := φ) hS.rb hS.wd hS.o hS.m hCS hf hT hT2
    have hlt := h1 T (by
      have : S.C lt + (if lt = true then 1 else 0) ≤ S.p + 1 := by unfold Sd.C; split <;> omega
      have : S.C lt ≤ S.p := by unfold Sd.C; omega
      split <;> omega)
    have h3 : (S.U φ T).length < S.C lt := hlt
    omega

/-! the bag's standings -/
def spTerms : Sp := fun vs H Q _ => ∃ (b : Addr) (wide : Int), vs = [.ref b, .int wide] ∧ (Bg b H ∧ 1 ≤ wide ∧ wide ≤ 60) ∧ ∀ q p0 (bs : List Int) (lim p : Int) H', Nw H q → Nw H p0 → ExB b H H' → Bg b H' → At H' q (.tup [.ref p0, .int lim, .int p]) → At H' p0 (.lst (bs.map V.int)) → Bud bs → 1 ≤ lim → lim ≤ p → p ≤ 64 → lim ≤ 60 → Q (.ref q) H'
local macro_rules | `(tactic| walk_at "call") => `(tactic| ((with_reducible show spTerms _ _ _ _); refine ⟨_, _, rfl, ⟨inferInstance, by omega, by omega⟩, ?_⟩; intro q_ p0_ bs_ lim_ p_ H_ nq_ np_ e_ hB_ hq_ hp_ hR_ g1_ g2_ g3_ g4_))
def spTold (K : PySem.W.Frag) : Sp := fun vs H Q _ => ∃ (S : Sd) (φ : Int) (tm p0 : Addr) (lt : Bool), vs = [.str (tx S.l), .int φ, .ref tm, .bl lt] ∧ (At H tm (.tup [.ref p0, .int (S.lim : Nat), .int (S.p : Nat)]) ∧ At H p0 (.lst (S.bs.map V.int)) ∧ S.Ok ∧ 0 ≤ φ ∧ φ < 2 ^ 100) ∧ ∀ v H', Ex H H' → Lv S φ lt v → Q v H'
local macro_rules | `(tactic| walk_at "call") => `(tactic| ((with_reducible show spTold _ _ _ _ _); refine ⟨⟨_, _, _, _⟩, _, _, _, _, rfl, ⟨inferInstance, inferInstance, by assumption, by omega, by omega⟩, fun v_ H_ e_ hv_ => ?_⟩))
def spKind : Sp := fun vs H Q _ => ∃ v : V, vs = [v] ∧ (v = .non ∨ ∃ i : Int, v = .int i ∧ 0 ≤ i) ∧ Q (.bl true) H
def spOrd : Sp := fun vs H Q _ => ∃ (v due : V) (bt : Bool), vs = [v, due, .bl bt] ∧ Ordd v due bt ∧ Q (.bl true) H
local macro_rules | `(tactic| walk_at "call") => `(tactic| ((with_reducible show spOrd _ _ _ _); refine ⟨_, _, _, rfl, by assumption, ?_⟩))

/-- the call of life, told by lives -/
theorem use_lv {C : Addr} {S : Sd} {φ : Int} {a : Addr} {lt : Bool} {H : Hp} {Q : VK} {E : XK} (ha : RdC C H a S.bs) (hS : S.Ok) (hl : S.l.length ≤ 64) (hp : S.p ≤ 64) (h1 : 0 ≤ φ) (h2 : φ < 2 ^ 100) (q : ∀ v H', Ex H H' → Lv S φ lt v → Q v H') : spLife C ([.str (tx S.l), .int (S.p : Nat), .int (S.lim : Nat), .ref a, .int φ, .bl lt] ++ []) H Q E := by
  obtain ⟨i1, i2, i3, i4, i5, i6, i7⟩ := id hS
  have hC : ((S.C lt : Nat) : Int) = (S.p : Int) - b2 lt := by unfold Sd.C b2; split <;> omega
  refine ⟨S.l, S.p, S.lim, φ, a, S.bs, lt, rfl, ⟨ha, i2, ⟨i1, by omega, by omega, by omega, h1, h2, by omega, by omega, by omega⟩⟩, fun y1 y2 => ?_, fun y1 t H2 e2 y2 y3 => ?_, fun y1 y2 H2 e2 => ?_⟩
  · exact q _ _ Gx.rel (.inl ⟨⟨y1, by omega⟩, rfl⟩)
  · rw [← hC] at y2 y3
    refine q _ _ Gx.rel (lv_of hS h1 (fun z1 z2 => absurd ⟨z1, by omega⟩ y1) fun _ => .inr ⟨t, rfl, y2, y3⟩)
  · rw [← hC] at y2
    refine q _ _ Gx.rel (lv_of hS h1 (fun z1 z2 => absurd ⟨z1, by omega⟩ y1) fun _ => .inl ⟨rfl, y2⟩)
theorem Btr.refl {S : Sd} : Btr S S := ⟨Nat.le_refl _, fun _ _ => Int.le_refl _, Nat.le_refl _, Nat.le_refl _, fun _ => Int.le_refl _, id⟩
theorem Lv.uniq {S : Sd} (hS : S.Ok) {φ : Int} {lt : Bool} {v u : V} (hv : Lv S φ lt v) (hu : Lv S φ lt u) : v = u := by
  rcases Lv.cmp hS hS Btr.refl hv hu with e | ⟨i, j, e1, e2, h1⟩
  · rcases Lv.cmp hS hS Btr.refl hu hv with g | ⟨i, j, g1, g2, h2⟩
    · rw [e, g]
    · rw [e] at g2; cases g2
  · rcases Lv.cmp hS hS Btr.refl hu hv with g | ⟨i2, j2, g1, g2, h2⟩
    · rw [e2] at g; cases g
    · rw [e2] at g1; rw [e1] at g2
      cases g1; cases g2
      rw [e1, e2, Int.le_antisymm h2 h1]
theorem b2_if {lt : Bool} : b2 lt = ((if lt = true then 1 else 0 : Nat) : Int) := by
  unfold b2
  split <;> rfl
/-- the play goes on: some word behind every put, or none behind the m-th -/
theorem pw_all {S : Sd} (hS : S.Ok) {φ : Int} {lt : Bool} (h0 : ¬ (lt = true ∧ S.l.length = S.p)) (h : ∀ t, (S.U φ t).length < S.C lt) : ∀ t, pw S.lim S.p (bud S.bs φ) lt S.l t = some (Wt S.lim (bud S.bs φ) S.l t)
  | 0 => rfl
  | t + 1 => by
    have hr := Wt_rel (lim := S.lim) (b := bud S.bs φ) (l := S.l) t
    have hU : (Lif.Uw S.lim (bud S.bs φ) S.l t).length < S.C lt := h t
    have hlp := hS.lp
    rw [pw, pw_all hS h0 h t]
    show gst _ _ _ _ _ = _
    unfold Sd.C at hU
    cases lt with
    | false =>
      rw [if_neg (by decide)] at hU
      rw [gst_e1 (by rw [hr]; omega), hr]
      rfl
    | true =>
      rw [if_pos rfl] at hU
      have hl : (Wt S.lim (bud S.bs φ) S.l t).length < S.p := by
        cases t with
        | zero =>
          have : ¬ S.l.length = S.p := fun y => h0 ⟨rfl, y⟩
          show S.l.length < S.p
          omega
        | succ t =>
          have h8 := Wt_len (lim := S.lim) (b := bud S.bs φ) (l := S.l) t
          have h9 : (Lif.Uw S.lim (bud S.bs φ) S.l t).length < S.C true := h t
          unfold Sd.C at h9
          rw [if_pos rfl] at h9
          omega
      rw [gst_l2 hl (by rw [hr]; omega), hr]
      rfl
/-- the life by the play of far puts -/
theorem lv_plays {S : Sd} (hS : S.Ok) {φ : Int} (hf : 0 ≤ φ) {lt : Bool} : Lv S φ lt (if (plays S.lim S.p (bud S.bs φ) lt S.l (S.p + S.bs.length + 2)).length < S.p + S.bs.length + 2 then .int ((plays S.lim S.p (bud S.bs φ) lt S.l (S.p + S.bs.length + 2)).length : Nat) else .non) :=
  play_lv hS hf (play_is hS.wd.tz hS.o hS.m hS.mp hS.lp (by omega))
theorem pw_uniq {lim p : Nat} {b : Nat → Nat} {lt : Bool} {l : List Bool} {m n : Nat} {u v : List Bool} (h1 : pw lim p b lt l m = some u) (h2 : pw lim p b lt l (m + 1) = none) (h3 : pw lim p b lt l n = some v) (h4 : pw lim p b lt l (n + 1) = none) : m = n := by
  rcases Nat.lt_trichotomy m n with z | z | z
  · have := pw_none h2 (n - (m + 1))
    rw [show m + 1 + (n - (m + 1)) = n from by omega, h3] at this
    cases this
  · exact z
  · have := pw_none h4 (m - (n + 1))
    rw [show n + 1 + (m - (n + 1)) = m from by omega, h1] at this
    cases this
theorem lv_non {S : Sd} (hS : S.Ok) {φ : Int} (hf : 0 ≤ φ) {lt : Bool} : Lv S φ lt .non ↔ ∀ t, (pw S.lim S.p (bud S.bs φ) lt S.l t).isSome = true := by
  constructor
  · intro h t
    rcases h with ⟨_, e⟩ | ⟨z, ⟨_, h⟩ | ⟨T, e, _⟩⟩
    · cases e
    · rw [pw_all hS z h t]
      rfl
    · cases e
  · intro h
    have hp := lv_plays hS hf (lt := lt)
    rcases plays_end (lim := S.lim) (p := S.p) (b := bud S.bs φ) (lt := lt) (l := S.l) (S.p + S.bs.length + 2) with ⟨w, h2, h3⟩ | ⟨t, w, h2, h3, h4, h5⟩
    · rw [if_neg (by omega)] at hp
      exact hp
    · have := h (t + 1)
      rw [h4] at this
      cases this
theorem lv_int {S : Sd} (hS : S.Ok) {φ : Int} (hf : 0 ≤ φ) {lt : Bool} {m : Nat} : Lv S φ lt (.int (m : Nat)) ↔ (∃ w, pw S.lim S.p (bud S.bs φ) lt S.l m = some w) ∧ pw S.lim S.p (bud S.bs φ) lt S.l (m + 1) = none := by
  have hp := lv_plays hS hf (lt := lt)
  rcases plays_end (lim := S.lim) (p := S.p) (b := bud S.bs φ) (lt := lt) (l := S.l) (S.p + S.bs.length + 2) with ⟨w, h2, h3⟩ | ⟨t, w, h2, h3, h4, h5⟩
  · rw [if_neg (by omega)] at hp
    constructor
    · intro h
      have := hp.uniq hS h
      cases this
    · rintro ⟨⟨u, h4⟩, h5⟩
      have := (lv_non hS hf).mp hp (m + 1)
      rw [h5] at this
      cases this
  · rw [h5, plays_len h3, if_pos (by omega)] at hp
    constructor
    · intro h
      have := hp.uniq hS h
      have e : t = m := by injection this with this; omega
      subst e
      exact ⟨⟨w, h3⟩, h4⟩
    · rintro ⟨⟨u, h6⟩, h7⟩
      rw [pw_uniq h6 h7 h3 h4]
      exact hp
theorem lv_ok {S : Sd} (hS : S.Ok) {φ : Int} {lt : Bool} {s : Nat} {w : List Bool} (h : pw S.lim S.p (bud S.bs φ) lt S.l s = some w) (hp : S.p ≤ 64) : Sd.Ok ⟨w, S.bs, S.lim, S.p⟩ := by
  obtain ⟨h1, h2, h3⟩ := pw_ok hS.wd.tz hS.o hS.m hS.lp h
  exact ⟨wd_of h1 h3 hp, hS.rb, h2, hS.m, hS.mp, h3, hS.p2⟩
theorem bud_shift {bs : List Int} {φ : Int} {s : Nat} : bud bs (φ + (s : Nat)) = fun i => bud bs φ (s + i) := by
  funext i
  unfold bud
  rw [show φ + (s : Nat) + ((i : Nat) : Int) = φ + ((s + i : Nat) : Int) from by omega]
/-- the life of a later word -/
theorem lv_later {S : Sd} (hS : S.Ok) {φ : Int} (hf : 0 ≤ φ) {lt : Bool} {s : Nat} {w : List Bool} (h : pw S.lim S.p (bud S.bs φ) lt S.l s = some w) (hp : S.p ≤ 64) :
    (Lv S φ lt .non → Lv ⟨w, S.bs, S.lim, S.p⟩ (φ + (s : Nat)) lt .non) ∧ ∀ m : Nat, Lv S φ lt (.int (m : Nat)) → s ≤ m ∧ Lv ⟨w, S.bs, S.lim, S.p⟩ (φ + (s : Nat)) lt (.int ((m : Nat) - (s : Nat) : Int)) := by
  have hW := lv_ok hS h hp
  have hsh : ∀ t, pw S.lim S.p (bud S.bs (φ + (s : Nat))) lt w t = pw S.lim S.p (bud S.bs φ) lt S.l (s + t) := fun t => by rw [bud_shift]; exact pw_shift h t
  refine ⟨fun h1 => (lv_non hW (by omega)).mpr fun t => ?_, fun m h1 => ?_⟩
  · show (pw S.lim S.p (bud S.bs (φ + (s : Nat))) lt w t).isSome = true
    rw [hsh]
    exact (lv_non hS hf).mp h1 _
  · obtain ⟨⟨u, h2⟩, h3⟩ := (lv_int hS hf).mp h1
    have hle : s ≤ m := Nat.le_of_not_lt fun z => by
      have := pw_none h3 (s - (m + 1))
      rw [show m + 1 + (s - (m + 1)) = s from by omega, h] at this
      cases this
    refine ⟨hle, ?_⟩
    rw [show ((m : Nat) : Int) - (s : Nat) = ((m - s : Nat) : Int) from by omega]
    refine (lv_int hW (by omega)).mpr ⟨⟨u, ?_⟩, ?_⟩
    · show pw S.lim S.p (bud S.bs (φ + (s : Nat))) lt w (m - s) = some u
      rw [hsh, show s + (m - s) = m from by omega]
      exact h2
    · show pw S.lim S.p (bud S.bs (φ + (s : Nat))) lt w (m - s + 1) = none
      rw [hsh, show s + (m - s + 1) = m + 1 from by omega]
      exact h3
/-- the call of safe, told by lives -/
theorem use_sf {C : Addr} {S : Sd} {φ : Int} {a : Addr} {lt : Bool} {H : Hp} {Q : VK} {E : XK} (ha : RdC C H a S.bs) (hS : S.Ok) (hl : S.l.length ≤ 64) (hp : S.p ≤ 64) (h1 : 0 ≤ φ) (h2 : φ < 2 ^ 100) (q1 : ∀ H', Ex H H' → Lv S φ lt .non → Q (.bl true) H') (q2 : ∀ H', Ex H H' → (∃ m : Nat, Lv S φ lt (.int (m : Nat))) → Q (.bl false) H') :
    spSafe C ([.str (tx S.l), .int (S.p : Nat), .int (S.lim : Nat), .ref a, .int φ, .bl lt] ++ []) H Q E := by
  obtain ⟨i1, i2, i3, i4, i5, i6, i7⟩ := id hS
  have hC : ((S.C lt : Nat) : Int) = (S.p : Int) - b2 lt := by unfold Sd.C b2; split <;> omega
  refine ⟨S.l, S.p, S.lim, φ, a, S.bs, lt, rfl, ⟨ha, i2, ⟨i1, by omega, by omega, by omega, h1, h2, by omega, by omega, by omega⟩⟩, fun y1 y2 H' e => ?_, fun y H' e => ?_⟩
  · rw [← hC] at y2
    exact q1 H' e (lv_of hS h1 (fun z1 z2 => absurd ⟨z1, by omega⟩ y1) fun _ => .inl ⟨rfl, y2⟩)
  · refine q2 H' e ?_
    have hp := lv_plays hS h1 (lt := lt)
    split at hp
    · exact ⟨_, hp⟩
    · exfalso
      rcases hp with ⟨_, e2⟩ | ⟨z, ⟨_, h⟩ | ⟨T, e2, _⟩⟩
      · cases e2
      · rcases y with ⟨y1, y2⟩ | ⟨t, y⟩
        · exact z ⟨y1, by omega⟩
        · rw [← hC] at y
          exact first_none (φ := φ) i2 i1 i3 i4 (by unfold Sd.C; split <;> omega) h t y
      · cases e2

/-! texts of any signs: which are words -/
def Good (z : Str) : Prop := ∃ l : List Bool, z = tx l ∧ l.head? ≠ some false
theorem bits_or : ∀ cs : List Nat, (∃ l : List Bool, cs = l.map bc) ∨ ∃ c ∈ cs, c ≠ 48 ∧ c ≠ 49
  | [] => .inl ⟨[], rfl⟩
  | c :: r => by
    by_cases h0 : c = 48
    · rcases bits_or r with ⟨l, h⟩ | ⟨d, h1, h2⟩
      · exact .inl ⟨false :: l, by rw [h, h0]; rfl⟩
      · exact .inr ⟨d, List.mem_cons_of_mem _ h1, h2⟩
    · by_cases h1 : c = 49
      · rcases bits_or r with ⟨l, h⟩ | ⟨d, h3, h2⟩
        · exact .inl ⟨true :: l, by rw [h, h1]; rfl⟩
        · exact .inr ⟨d, List.mem_cons_of_mem _ h3, h2⟩
      · exact .inr ⟨c, List.mem_cons_self .., h0, h1⟩
theorem str_or (z : Str) : (∃ l : List Bool, z = tx l) ∨ ∃ c ∈ z.cps.toList, c ≠ 48 ∧ c ≠ 49 := by
  rcases bits_or z.cps.toList with ⟨l, h⟩ | h
  · exact .inl ⟨l, Gx.str_ext (by rw [h, tx_list])⟩
  · exact .inr h
theorem tw_lt {p : Nat → Bool} : ∀ {cs : List Nat} {c : Nat}, c ∈ cs → p c = false → (cs.takeWhile p).length < cs.length
  | [], c, h, _ => absurd h (by simp)
  | a :: r, c, h, hp => by
    rw [List.takeWhile_cons]
    by_cases z : p a = true
    · rw [if_pos z, List.length_cons, List.length_cons]
      rcases List.mem_cons.mp h with e | e
      · rw [e, z] at hp; cases hp
      · have := tw_lt e hp
        omega
    · rw [if_neg z]; simp
theorem dw_mem {p : Nat → Bool} : ∀ {cs : List Nat} {c : Nat}, c ∈ cs → p c = false → c ∈ cs.drop (cs.takeWhile p).length
  | [], c, h, _ => absurd h (by simp)
  | a :: r, c, h, hp => by
    rw [List.takeWhile_cons]
    by_cases z : p a = true
    · rw [if_pos z, List.length_cons, List.drop_succ_cons]
      rcases List.mem_cons.mp h with e | e
      · rw [e, z] at hp; cases hp
      · exact dw_mem e hp
    · rw [if_neg z]
      exact h
theorem strip_bad {z : Str} {c : Nat} (hc : c ∈ z.cps.toList) (h0 : c ≠ 48) (h1 : c ≠ 49) : Txt.stripChars z (tx [false, true]) ≠ tx [] := by
  intro h
  have h2 : (Txt.stripChars z (tx [false, true])).cps.toList = (tx []).cps.toList := by rw [h]
  unfold Txt.stripChars at h2
  rw [PyProof.Rows.stripBy_eq, Gx.strSub_list, tx_list] at h2
  have hp : (tx [false, true]).cps.contains c = false := by
    simp [tx, bc, h0, h1]
  obtain ⟨p, hpe⟩ : ∃ p : Nat → Bool, p = (tx [false, true]).cps.contains := ⟨_, rfl⟩
  rw [← hpe] at h2 hp
  have e1 : PySem.stripLo p true z = (z.cps.toList.takeWhile p).length := by unfold PySem.stripLo; rw [if_pos rfl]
  rw [e1] at h2
  have hm := dw_mem hc hp
  have hl := tw_lt hc hp
  have hr := tw_lt (cs := (z.cps.toList.drop (z.cps.toList.takeWhile p).length).reverse) (List.mem_reverse.mpr hm) hp
  rw [List.length_reverse, List.length_drop] at hr
  have e2 : PySem.stripHi p true z (z.cps.toList.takeWhile p).length = z.length - ((z.cps.toList.drop (z.cps.toList.takeWhile p).length).reverse.takeWhile p).length := by unfold PySem.stripHi; rw [if_pos rfl]
  rw [e2] at h2
  have hz : z.length = z.cps.toList.length := by simp [Str.length]
  have h3 := congrArg List.length h2
  rw [List.length_take, List.length_drop, hz] at h3
  simp at h3
  simp at hr hl
  omega
theorem rep_good {z : Str} : Txt.replace (Txt.replace z (tx [false]) (tx [])) (tx [true]) (tx []) = tx [] ↔ ∃ l : List Bool, z = tx l := by
  have e0 : tx [false] = (⟨#[48]⟩ : Str) := rfl
  have e1 : tx [true] = (⟨#[49]⟩ : Str) := rfl
  have e2 : tx [] = (⟨#[]⟩ : Str) := rfl
  have h1 := PyProof.Rows.replace_strikes (Txt.replace z (tx [false]) (tx [])) 49
  have h2 := PyProof.Rows.replace_strikes z 48
  rw [← e0, ← e2] at h2
  rw [← e1, ← e2, h2] at h1
  constructor
  · intro h
    rw [h, tx_list] at h1
    rcases str_or z with h3 | ⟨c, hc, h4, h5⟩
    · exact h3
    · have : c ∈ (z.cps.toList.filter (· != 48)).filter (· != 49) := List.mem_filter.mpr ⟨List.mem_filter.mpr ⟨hc, by simpa using h4⟩, by simpa using h5⟩
      rw [← h1] at this
      simp at this
  · rintro ⟨l, rfl⟩
    refine Gx.str_ext ?_
    rw [h1, tx_list]
    rw [List.filter_eq_nil_iff.mpr]
    · rfl
    · intro c hc
      rw [List.mem_filter] at hc
      obtain ⟨hc, h6⟩ := hc
      try rw [tx_list] at hc
      obtain ⟨b, _, rfl⟩ := List.mem_map.mp hc
      cases b
      · simp [bc] at h6
      · simp [bc]
open Classical in
/-- the first broken limit of a standing -/
noncomputable def faultOf (z : Str) (p lim φ m : Int) : Option Str :=
  if ¬ Good z then some ("word" : Str) else if p < 1 then some ("places" : Str) else if lim < 1 then some ("limit" : Str) else if φ < 0 then some ("phase" : Str) else if m < 0 then some ("most" : Str)
  else if p < (z.length : Int) ∨ lim < Txt.count z (tx [true]) then some ("word" : Str) else if p < lim then some ("limit" : Str) else none
def fV : Option Str → V
  | none => .non
  | some f => .str f
theorem fo1 {z : Str} {p lim φ m : Int} (h : ¬ Good z) : faultOf z p lim φ m = some ("word" : Str) := if_pos h
theorem fo2 {z : Str} {p lim φ m : Int} (h : Good z) (h1 : p < 1) : faultOf z p lim φ m = some ("places" : Str) := by unfold faultOf; rw [if_neg (fun y => y h), if_pos h1]
theorem fo3 {z : Str} {p lim φ m : Int} (h : Good z) (h1 : ¬ p < 1) (h2 : lim < 1) : faultOf z p lim φ m = some ("limit" : Str) := by unfold faultOf; rw [if_neg (fun y => y h), if_neg h1, if_pos h2]
theorem fo4 {z : Str} {p lim φ m : Int} (h : Good z) (h1 : ¬ p < 1) (h2 : ¬ lim < 1) (h3 : φ < 0) : faultOf z p lim φ m = some ("phase" : Str) := by unfold faultOf; rw [if_neg (fun y => y h), if_neg h1, if_neg h2, if_pos h3]
theorem fo5 {z : Str} {p lim φ m : Int} (h : Good z) (h1 : ¬ p < 1) (h2 : ¬ lim < 1) (h3 : ¬ φ < 0) (h4 : m < 0) : faultOf z p lim φ m = some ("most" : Str) := by unfold faultOf; rw [if_neg (fun y => y h), if_neg h1, if_neg h2, if_neg h3, if_pos h4]
theorem fo6 {z : Str} {p lim φ m : Int} (h : Good z) (h1 : ¬ p < 1) (h2 : ¬ lim < 1) (h3 : ¬ φ < 0) (h4 : ¬ m < 0) (h5 : p < (z.length : Int) ∨ lim < Txt.count z (tx [true])) : faultOf z p lim φ m = some ("word" : Str) := by unfold faultOf; rw [if_neg (fun y => y h), if_neg h1, if_neg h2, if_neg h3, if_neg h4, if_pos h5]
theorem fo7 {z : Str} {p lim φ m : Int} (h : Good z) (h1 : ¬ p < 1) (h2 : ¬ lim < 1) (h3 : ¬ φ < 0) (h4 : ¬ m < 0) (h5 : ¬ (p < (z.length : Int) ∨ lim < Txt.count z (tx [true]))) (h6 : p < lim) : faultOf z p lim φ m = some ("limit" : Str) := by unfold faultOf; rw [if_neg (fun y => y h), if_neg h1, if_neg h2, if_neg h3, if_neg h4, if_neg h5, if_pos h6]
theorem fo8 {z : Str} {p lim φ m : Int} (h : Good z) (h1 : ¬ p < 1) (h2 : ¬ lim < 1) (h3 : ¬ φ < 0) (h4 : ¬ m < 0) (h5 : ¬ (p < (z.length : Int) ∨ lim < Txt.count z (tx [true]))) (h6 : ¬ p < lim) : faultOf z p lim φ m = none := by unfold faultOf; rw [if_neg (fun y => y h), if_neg h1, if_neg h2, if_neg h3, if_neg h4, if_neg h5, if_neg h6]
def spAtlX (cI : Addr) : Sp := fun vs H Q E => ∃ (v l : Int) (z : Str), vs = [.int v, .int l, .str z] ∧ z.length ≤ 1000 ∧ (l ≤ v → Q .non H) ∧ (v < l → ∀ d H', Nw H d → Ex H H' → At H' d (.xd [("field", .str z)]) → E (.ref cI) (some d) H')
abbrev s_at_least_X : Stmt := (top 7)
abbrev N_at_least_X : List Str := ["value", "least", "field"]
theorem sc_at_least_X : FnScope N_at_least_X ["value", "least", "field"] (defScope s_at_least_X) := ⟨rfl, rfl, rfl, by decide +kernel, rfl, by decide +kernel, by decide +kernel⟩
theorem cl_at_least_X (T : Bl mg) (Z : EcF P K mg c_StoreError c_InvalidInput c_NoPlace) (R : RdF K mg c_Round) (D : DfG K mg "at_least" s_at_least_X [] [])  : ClG (L2.CX P w) P w K mg base 3 "at_least" s_at_least_X ["value", "least", "field"] [] [] (spAtlX c_InvalidInput) := by
  have nd := sc_at_least_X.nd
  refine D.ok sc_at_least_X (fun vs H Q E h => ?_) (fun f cdv A outer s H vs Q E hr h => ?_)
  · obtain ⟨v, l, z, rfl, _⟩ := h
    rfl
  · obtain ⟨v, l, z, rfl, hz, k, k2⟩ := h
    have hu := hu64 hr
    refine ⟨_, (pss_one (ps_if (pt_cmpR opLt (pv 0) (pv 1) (nomark _))
      (pss_one (ps_raise rfl takesX (pmk1 (ex_InvalidInput Z.d_InvalidInput) (by exact hr.mono (by decide)) rfl (pa_cons (pv 2) pa_nil))))
      pss_nil)), ?_⟩
    try dsimp only [L2.cxOf, L2.Cx.nox]
    simp only [L2.start, N_at_least_X, List.map_cons, List.map_nil, List.length_cons, List.length_nil, Nat.reduceAdd, Nat.reduceSub, List.replicate_succ, List.replicate_zero, List.cons_append, List.nil_append]

    have hf : FmtV (.str z) := .inl ⟨z, rfl, hz⟩
    walk_at "gos"
    · rename_i h _ _ _ _ _
      exact k2 h _ _ ‹_› Gx.rel Gx.at_
    · exact k (by omega)
def spAtmX (cI : Addr) : Sp := fun vs H Q E => ∃ (v l : Int) (z : Str), vs = [.int v, .int l, .str z] ∧ z.length ≤ 1000 ∧ (v ≤ l → Q .non H) ∧ (l < v → ∀ d H', Nw H d → Ex H H' → At H' d (.xd [("field", .str z)]) → E (.ref cI) (some d) H')
abbrev s_at_most_X : Stmt := (top 8)
abbrev N_at_most_X : List Str := ["value", "most", "field"]
theorem sc_at_most_X : FnScope N_at_most_X ["value", "most", "field"] (defScope s_at_most_X) := ⟨rfl, rfl, rfl, by decide +kernel, rfl, by decide +kernel, by decide +kernel⟩
theorem cl_at_most_X (T : Bl mg) (Z : EcF P K mg c_StoreError c_InvalidInput c_NoPlace) (R : RdF K mg c_Round) (D : DfG K mg "at_most" s_at_most_X [] [])  : ClG (L2.CX P w) P w K mg base 3 "at_most" s_at_most_X ["value", "most", "field"] [] [] (spAtmX c_InvalidInput) := by
  have nd := sc_at_most_X.nd
  refine D.ok sc_at_most_X (fun vs H Q E h => ?_) (fun f cdv A outer s H vs Q E hr h => ?_)
  · obtain ⟨v, l, z, rfl, _⟩ := h
    rfl
  · obtain ⟨v, l, z, rfl, hz, k, k2⟩ := h
    have hu := hu64 hr
    refine ⟨_, (pss_one (ps_if (pt_cmpR opGt (pv 0) (pv 1) (nomark _))
      (pss_one (ps_raise rfl takesX (pmk1 (ex_InvalidInput Z.d_InvalidInput) (by exact hr.mono (by decide)) rfl (pa_cons (pv 2) pa_nil))))
      pss_nil)), ?_⟩
    try dsimp only [L2.cxOf, L2.Cx.nox]
    simp only [L2.start, N_at_most_X, List.map_cons, List.map_nil, List.length_cons, List.length_nil, Nat.reduceAdd, Nat.reduceSub, List.replicate_succ, List.replicate_zero, List.cons_append, List.nil_append]

    have hf : FmtV (.str z) := .inl ⟨z, rfl, hz⟩
    walk_at "gos"
    · rename_i h _ _ _ _ _
      exact k2 h _ _ ‹_› Gx.rel Gx.at_
    · exact k (by omega)
def spGw (cI : Addr) : Sp := fun vs H Q E => ∃ (z f : Str), vs = [.str z, .str f] ∧ (z.length ≤ 1000 ∧ f.length ≤ 1000) ∧ (Good z → Q .non H) ∧ (¬ Good z → ∀ d H', Nw H d → Ex H H' → At H' d (.xd [("field", .str f)]) → E (.ref cI) (some d) H')
abbrev s_good_word_X : Stmt := (top 10)
abbrev N_good_word_X : List Str := ["word", "field"]
theorem sc_good_word_X : FnScope N_good_word_X ["word", "field"] (defScope s_good_word_X) := ⟨rfl, rfl, rfl, by decide +kernel, rfl, by decide +kernel, by decide +kernel⟩
theorem cl_good_word_X (T : Bl mg) (Z : EcF P K mg c_StoreError c_InvalidInput c_NoPlace) (R : RdF K mg c_Round) (D : DfG K mg "good_word" s_good_word_X [] [])  : ClG (L2.CX P w) P w K mg base 3 "good_word" s_good_word_X ["word", "field"] [] [] (spGw c_InvalidInput) := by
  have nd := sc_good_word_X.nd
  refine D.ok sc_good_word_X (fun vs H Q E h => ?_) (fun f cdv A outer s H vs Q E hr h => ?_)
  · obtain ⟨z, f, rfl, _⟩ := h
    rfl
  · obtain ⟨z, f, rfl, ⟨hz, hf2⟩, k, k2⟩ := h
    have hu := hu64 hr
    refine ⟨_, (pss_one (ps_if (PW.pt (pw_or (pt_val (pe_bmK (K := K) (by rfl) PySem.F.plainAttrs_str PySem.F.slot_str_startswith PySem.F.type_str_startswith mtStarts (pv 0) (pa_cons pe_str pa_nil))) (pw_or1 (pt_cmpR (opNeK (K := K) (by rfl) (by exact hu)) (pe_bmK (K := K) (by rfl) PySem.F.plainAttrs_str PySem.F.slot_str_strip PySem.F.type_str_strip mtStripC (pv 0) (pa_cons pe_str pa_nil)) pe_str (nomark _)))))
      (pss_one (ps_raise rfl takesX (pmk1 (ex_InvalidInput Z.d_InvalidInput) (by exact hr.mono (by decide)) rfl (pa_cons (pv 1) pa_nil))))
      pss_nil)), ?_⟩
    try dsimp only [L2.cxOf, L2.Cx.nox]
    simp only [L2.start, N_good_word_X, List.map_cons, List.map_nil, List.length_cons, List.length_nil, Nat.reduceAdd, Nat.reduceSub, List.replicate_succ, List.replicate_zero, List.cons_append, List.nil_append]

    have hf : FmtV (.str f) := .inl ⟨f, rfl, hf2⟩
    rcases str_or z with ⟨l, rfl⟩ | ⟨c, hc, h0, h1⟩
    · rw [tx_len] at hz
      have hbad : (l.take ([false] : List Bool).length == [false]) = true → ¬ Good (tx l) := fun h => by
        rintro ⟨m, e, hm⟩
        have := tx_inj e
        subst this
        cases l with
        | nil => cases h
        | cons b r =>
          cases b
          · exact hm rfl
          · cases h
      have hok : (l.take ([false] : List Bool).length == [false]) = false → Good (tx l) := fun h => ⟨l, rfl, fun y => by
        cases l with
        | nil => cases y
        | cons b r =>
          cases y
          cases h⟩
      cases hb : (l.take ([false] : List Bool).length == [false]) with
      | true =>
        have hb2 := hbad hb
        walk_at "go"
        rw [hb]
        walk_at "go"
        rename_i d H1 n1 e1 h1
        exact k2 hb2 _ _ n1 e1 h1
      | false =>
        have hb2 := hok hb
        walk_at "go"
        rw [hb]
        walk_at "go"
        exact k hb2
    · have hg : ¬ Good z := by
        rintro ⟨m, rfl, _⟩
        rw [tx_list] at hc
        obtain ⟨b, _, rfl⟩ := List.mem_map.mp hc
        cases b
        · exact h0 rfl
        · exact h1 rfl
      have hs := strip_bad hc h0 h1
      walk_at "go"
      refine ⟨z, tx [false], rfl, rfl, ?_⟩
      cases Txt.startswith z (tx [false]) with
      | true =>
        walk_at "go"
        rename_i d H1 n1 e1 h1
        exact k2 hg _ _ n1 e1 h1
      | false =>
        walk_at "go"
        refine ⟨z, tx [false, true], rfl, rfl, Nat.le_trans hz (by decide), ?_⟩
        walk_at "go"
        refine Gx.g_iteN (fun _ => ?_) (fun h => absurd h hs)
        walk_at "go"
        rename_i d H1 n1 e1 h1
        exact k2 hg _ _ n1 e1 h1
local macro_rules | `(tactic| walk_at "call") => `(tactic| first
  | ((with_reducible show spAtlX _ _ _ _ _); refine ⟨_, _, _, rfl, by decide +kernel, fun hA => ?_, fun hA d_ H_ np_ e_ hp_ => ?_⟩)
  | ((with_reducible show spAtmX _ _ _ _ _); refine ⟨_, _, _, rfl, by decide +kernel, fun hA => ?_, fun hA d_ H_ np_ e_ hp_ => ?_⟩)
  | ((with_reducible show spGw _ _ _ _ _); refine ⟨_, _, rfl, ⟨by assumption, by decide +kernel⟩, fun hA => ?_, fun hA d_ H_ np_ e_ hp_ => ?_⟩))
theorem g_lenS {K : PySem.W.Frag} {H : Hp} {Q : VK} {z : Str} (h : z.length ≤ 100000) (q : Q (.int (z.length : Nat)) H) : Gx.rLen K [.str z] H Q := Gx.g_len (Gx.len_s h) q
/-- a standing's limits -/
def spChkX (cI : Addr) : Sp := fun vs H Q E => ∃ (z : Str) (p lim φ m : Int), vs = [.str z, .int p, .int lim, .int φ, .int m] ∧ (z.length ≤ 1000 ∧ p ≤ 64) ∧ (faultOf z p lim φ m = none → Q .non H) ∧ (∀ f, faultOf z p lim φ m = some f → ∀ d H', Nw H d → Ex H H' → At H' d (.xd [("field", .str f)]) → E (.ref cI) (some d) H')
abbrev s_check_standing_X : Stmt := (top 22)
abbrev N_check_standing_X : List Str := ["word", "places", "limit", "phase", "most"]
theorem sc_check_standing_X : FnScope N_check_standing_X ["word", "places", "limit", "phase", "most"] (defScope s_check_standing_X) := ⟨rfl, rfl, rfl, by decide +kernel, rfl, by decide +kernel, by decide +kernel⟩
theorem cl_check_standing_X (T : Bl mg) (Z : EcF P K mg c_StoreError c_InvalidInput c_NoPlace) (R : RdF K mg c_Round) (D : DfG K mg "check_standing" s_check_standing_X [.int 0] []) (C_at_most_X : ClG (L2.CX P w) P w K mg base 3 "at_most" s_at_most_X ["value", "most", "field"] [] [] (spAtmX c_InvalidInput)) (C_living : ClG CX0 P w K mg base 5 "living" s_living ["word"] [] [] spLiving) (C_at_least_X : ClG (L2.CX P w) P w K mg base 3 "at_least" s_at_least_X ["value", "least", "field"] [] [] (spAtlX c_InvalidInput)) (C_good_word_X : ClG (L2.CX P w) P w K mg base 3 "good_word" s_good_word_X ["word", "field"] [] [] (spGw c_InvalidInput)) : ClG (L2.CX P w) P w K mg base 7 "check_standing" s_check_standing_X ["word", "places", "limit", "phase", "most"] [.int 0] [] (spChkX c_InvalidInput) := by
  have nd := sc_check_standing_X.nd
  refine D.ok sc_check_standing_X (fun vs H Q E h => ?_) (fun f cdv A outer s H vs Q E hr h => ?_)
  · obtain ⟨z, p, lim, φ, m, rfl, _⟩ := h
    rfl
  · obtain ⟨z, p, lim, φ, m, rfl, ⟨hz, hp⟩, k, k2⟩ := h
    have hu := hu64 hr
    refine ⟨_, (pss_cons (ps_expr (pe_g C_good_word_X (by exact hr.mono (by decide)) (fun σ => passC takesX σ) (fun _ _ _ _ _ _ us hl => match us, hl with | [_, _], _ => rfl) (pa_cons (pv 0) (pa_cons pe_str pa_nil))))
    (pss_cons (ps_expr (pe_g C_at_least_X (by exact hr.mono (by decide)) (fun σ => passC takesX σ) (fun _ _ _ _ _ _ us hl => match us, hl with | [_, _, _], _ => rfl) (pa_cons (pv 1) (pa_cons pe_int (pa_cons pe_str pa_nil)))))
    (pss_cons (ps_expr (pe_g C_at_least_X (by exact hr.mono (by decide)) (fun σ => passC takesX σ) (fun _ _ _ _ _ _ us hl => match us, hl with | [_, _, _], _ => rfl) (pa_cons (pv 2) (pa_cons pe_int (pa_cons pe_str pa_nil)))))
    (pss_cons (ps_expr (pe_g C_at_least_X (by exact hr.mono (by decide)) (fun σ => passC takesX σ) (fun _ _ _ _ _ _ us hl => match us, hl with | [_, _, _], _ => rfl) (pa_cons (pv 3) (pa_cons pe_int (pa_cons pe_str pa_nil)))))
    (pss_cons (ps_expr (pe_g C_at_least_X (by exact hr.mono (by decide)) (fun σ => passC takesX σ) (fun _ _ _ _ _ _ us hl => match us, hl with | [_, _, _], _ => rfl) (pa_cons (pv 4) (pa_cons pe_int (pa_cons pe_str pa_nil)))))
    (pss_cons (ps_expr (pe_g C_at_most_X (by exact hr.mono (by decide)) (fun σ => passC takesX σ) (fun _ _ _ _ _ _ us hl => match us, hl with | [_, _, _], _ => rfl) (pa_cons (pe_callB (callLenK (K := K) (by rfl)) (by rfl) T.len (by decide +kernel) (pa_cons (pv 0) pa_nil)) (pa_cons (pv 1) (pa_cons pe_str pa_nil)))))
    (pss_cons (ps_expr (pe_g C_at_most_X (by exact hr.mono (by decide)) (fun σ => passC takesX σ) (fun _ _ _ _ _ _ us hl => match us, hl with | [_, _, _], _ => rfl) (pa_cons (pe_g C_living (by exact hr.mono (by decide)) (E := fun _ => E0) (fun σ => passC0 σ) (fun _ _ _ _ _ _ us hl => match us, hl with | [_], _ => rfl) (pa_cons (pv 0) pa_nil)) (pa_cons (pv 2) (pa_cons pe_str pa_nil)))))
    (pss_one (ps_expr (pe_g C_at_most_X (by exact hr.mono (by decide)) (fun σ => passC takesX σ) (fun _ _ _ _ _ _ us hl => match us, hl with | [_, _, _], _ => rfl) (pa_cons (pv 2) (pa_cons (pv 1) (pa_cons pe_str pa_nil))))))))))))), ?_⟩
    try dsimp only [L2.cxOf, L2.Cx.nox]
    simp only [L2.start, N_check_standing_X, List.map_cons, List.map_nil, List.length_cons, List.length_nil, Nat.reduceAdd, Nat.reduceSub, List.replicate_succ, List.replicate_zero, List.cons_append, List.nil_append]

    have hliv : ∀ {Q : VK} {E : XK}, Good z → (z.length : Int) ≤ p → (∀ l, z = tx l → Txt.count z (tx [true]) = (l.count true : Nat) → Q (.int (l.count true : Nat)) H) → spLiving ([.str z] ++ []) H Q E := fun {Q E} ⟨l, h1, h2⟩ h3 q => by
      subst h1
      rw [tx_len] at h3
      exact ⟨l, rfl, ⟨by omega, h2⟩, q l rfl (tx_count l true)⟩
    have hlen : ∀ {Q : VK}, Q (.int (z.length : Nat)) H → Gx.rLen K [.str z] H Q := fun {Q} q => g_lenS (by omega) q
    walk_at "go"
    all_goals try refine hliv (by assumption) (by omega) fun l hzl hcn => ?_
    all_goals try walk_at "go"
    all_goals first
      | exact k2 _ (fo1 (by assumption)) _ _ (by assumption) Gx.rel Gx.at_
      | exact k2 _ (fo2 (by assumption) (by omega)) _ _ (by assumption) Gx.rel Gx.at_
      | exact k2 _ (fo3 (by assumption) (by omega) (by omega)) _ _ (by assumption) Gx.rel Gx.at_
      | exact k2 _ (fo4 (by assumption) (by omega) (by omega) (by omega)) _ _ (by assumption) Gx.rel Gx.at_
      | exact k2 _ (fo5 (by assumption) (by omega) (by omega) (by omega) (by omega)) _ _ (by assumption) Gx.rel Gx.at_
      | exact k2 _ (fo6 (by assumption) (by omega) (by omega) (by omega) (by omega) (by omega)) _ _ (by assumption) Gx.rel Gx.at_
      | exact k2 _ (fo7 (by assumption) (by omega) (by omega) (by omega) (by omega) (by omega) (by omega)) _ _ (by assumption) Gx.rel Gx.at_
      | exact k (fo8 (by assumption) (by omega) (by omega) (by omega) (by omega) (by omega) (by omega))

variable {c_Keeper : Addr}
variable {c_Greedy : Addr}
variable {c_Lazy : Addr}
variable {c_Thrifty : Addr}
variable {c_RuleKeeper : Addr}
def spCkm : Sp := fun vs H Q _ => ∃ (l : List Bool) (p : Nat) (φ : Int), vs = [.str (tx l), .int (p : Nat), .int φ] ∧ (Wd l ∧ 1 ≤ p ∧ l.length ≤ p ∧ 0 ≤ φ) ∧ Q .non H
abbrev s_check_moment : Stmt := (top 36)
abbrev N_check_moment : List Str := ["word", "places", "phase"]
theorem sc_check_moment : FnScope N_check_moment ["word", "places", "phase"] (defScope s_check_moment) := ⟨rfl, rfl, rfl, by decide +kernel, rfl, by decide +kernel, by decide +kernel⟩
theorem cl_check_moment (T : Bl mg) (Z : EcF P K mg c_StoreError c_InvalidInput c_NoPlace) (R : RdF K mg c_Round) (W_Keeper : Gx.ClsF K mg c_Keeper "Keeper" []) (M_Keeper : Gx.MkZ K c_Keeper) (I_Keeper_Keeper : PySem.W.kitOne K (.ref c_Keeper) (.ref c_Keeper) = some true) (W_Greedy : Gx.ClsF K mg c_Greedy "Greedy" []) (M_Greedy : Gx.MkZ K c_Greedy) (I_Greedy_Keeper : PySem.W.kitOne K (.ref c_Greedy) (.ref c_Keeper) = some true) (W_Lazy : Gx.ClsF K mg c_Lazy "Lazy" ["_mark"]) (I_Lazy_Keeper : PySem.W.kitOne K (.ref c_Lazy) (.ref c_Keeper) = some true) (W_Thrifty : Gx.ClsF K mg c_Thrifty "Thrifty" ["_limit"]) (I_Thrifty_Keeper : PySem.W.kitOne K (.ref c_Thrifty) (.ref c_Keeper) = some true) (W_RuleKeeper : Gx.ClsF K mg c_RuleKeeper "RuleKeeper" ["_rules"]) (I_RuleKeeper_Keeper : PySem.W.kitOne K (.ref c_RuleKeeper) (.ref c_Keeper) = some true) (D : DfG K mg "_check_moment" s_check_moment [] []) (C_at_least : ClG CX0 P w K mg base 3 "at_least" s_at_least ["value", "least", "field"] [] [] spAtl) (C_good_word : ClG CX0 P w K mg base 3 "good_word" s_good_word ["word", "field"] [] [] spGood) : ClG CX0 P w K mg base 5 "_check_moment" s_check_moment ["word", "places", "phase"] [] [] spCkm := by
  have nd := sc_check_moment.nd
  refine D.okP sc_check_moment (fun vs H Q E h => ?_) (fun f cdv A outer s H vs Q E hr h => ?_)
  · obtain ⟨l, p, φ, rfl, _⟩ := h
    rfl
  · obtain ⟨l, p, φ, rfl, ⟨hw, h1, h2, h3⟩, k⟩ := h
    have hu := hu64 hr
    refine ⟨_, (pss_cons (ps_expr (pe_g C_good_word (by exact hr.mono (by decide)) (E := fun _ => E0) (fun σ => passC0 σ) (fun _ _ _ _ _ _ us hl => match us, hl with | [_, _], _ => rfl) (pa_cons (pv 0) (pa_cons pe_str pa_nil))))
    (pss_cons (ps_expr (pe_g C_at_least (by exact hr.mono (by decide)) (E := fun _ => E0) (fun σ => passC0 σ) (fun _ _ _ _ _ _ us hl => match us, hl with | [_, _, _], _ => rfl) (pa_cons (pv 1) (pa_cons pe_int (pa_cons pe_str pa_nil)))))
    (pss_cons (ps_expr (pe_g C_at_least (by exact hr.mono (by decide)) (E := fun _ => E0) (fun σ => passC0 σ) (fun _ _ _ _ _ _ us hl => match us, hl with | [_, _, _], _ => rfl) (pa_cons (pv 2) (pa_cons pe_int (pa_cons pe_str pa_nil)))))
    (pss_one (ps_expr (pe_g C_at_least (by exact hr.mono (by decide)) (E := fun _ => E0) (fun σ => passC0 σ) (fun _ _ _ _ _ _ us hl => match us, hl with | [_, _, _], _ => rfl) (pa_cons (pv 1) (pa_cons (pe_callB (callLenK (K := K) (by rfl)) (by rfl) T.len (by decide +kernel) (pa_cons (pv 0) pa_nil)) (pa_cons pe_str pa_nil))))))))), ?_⟩
    try dsimp only [L2.cxOf, L2.Cx.nox]
    simp only [L2.start, N_check_moment, List.map_cons, List.map_nil, List.length_cons, List.length_nil, Nat.reduceAdd, Nat.reduceSub, List.replicate_succ, List.replicate_zero, List.cons_append, List.nil_append]

    have hl := hw.1
    walk_at "gos"
    all_goals exact k
local macro_rules | `(tactic| walk_at "call") => `(tactic| ((with_reducible show spCkm _ _ _ _); refine ⟨_, _, _, rfl, ⟨by assumption, by omega, by omega, by omega⟩, ?_⟩))
def spMal (C : Addr) : Sp := fun vs H Q _ => ∃ (l : List Bool) (p : Nat) (φ : Int) (a : Addr) (bs : List Int), vs = [.str (tx l), .int (p : Nat), .ref a, .int φ] ∧ (Wd l ∧ RdC C H a bs ∧ RB bs ∧ 0 ≤ φ ∧ φ < 2 ^ 100) ∧
  Q (.int (if l.length = p then 0 else min (bud bs φ 0) (l.count true) : Nat)) H
abbrev s_most_allowed : Stmt := (top 37)
abbrev N_most_allowed : List Str := ["word", "places", "budgets", "phase"]
theorem sc_most_allowed : FnScope N_most_allowed ["word", "places", "budgets", "phase"] (defScope s_most_allowed) := ⟨rfl, rfl, rfl, by decide +kernel, rfl, by decide +kernel, by decide +kernel⟩
theorem cl_most_allowed (T : Bl mg) (Z : EcF P K mg c_StoreError c_InvalidInput c_NoPlace) (R : RdF K mg c_Round) (W_Keeper : Gx.ClsF K mg c_Keeper "Keeper" []) (M_Keeper : Gx.MkZ K c_Keeper) (I_Keeper_Keeper : PySem.W.kitOne K (.ref c_Keeper) (.ref c_Keeper) = some true) (W_Greedy : Gx.ClsF K mg c_Greedy "Greedy" []) (M_Greedy : Gx.MkZ K c_Greedy) (I_Greedy_Keeper : PySem.W.kitOne K (.ref c_Greedy) (.ref c_Keeper) = some true) (W_Lazy : Gx.ClsF K mg c_Lazy "Lazy" ["_mark"]) (I_Lazy_Keeper : PySem.W.kitOne K (.ref c_Lazy) (.ref c_Keeper) = some true) (W_Thrifty : Gx.ClsF K mg c_Thrifty "Thrifty" ["_limit"]) (I_Thrifty_Keeper : PySem.W.kitOne K (.ref c_Thrifty) (.ref c_Keeper) = some true) (W_RuleKeeper : Gx.ClsF K mg c_RuleKeeper "RuleKeeper" ["_rules"]) (I_RuleKeeper_Keeper : PySem.W.kitOne K (.ref c_RuleKeeper) (.ref c_Keeper) = some true) (D : DfG K mg "_most_allowed" s_most_allowed [] []) (C_living : ClG CX0 P w K mg base 5 "living" s_living ["word"] [] [] spLiving) (C_Round_at : ClM CX0 P w K mg base 5 c_Round "at" "Round.at" s_Round_at ["self", "t"] [] [] (spAt c_Round)) : ClG CX0 P w K mg base 7 "_most_allowed" s_most_allowed ["word", "places", "budgets", "phase"] [] [] (spMal c_Round) := by
  have nd := sc_most_allowed.nd
  refine D.okP sc_most_allowed (fun vs H Q E h => ?_) (fun f cdv A outer s H vs Q E hr h => ?_)
  · obtain ⟨l, p, φ, a, bs, rfl, _⟩ := h
    rfl
  · obtain ⟨l, p, φ, a, bs, rfl, ⟨hw, ha, hB, h0, h1⟩, k⟩ := h
    have hu := hu64 hr
    refine ⟨_, (pss_cons (ps_if (pt_cmpR (opEqK (K := K) (by rfl) (by exact hu)) (pe_callB (callLenK (K := K) (by rfl)) (by rfl) T.len (by decide +kernel) (pa_cons (pv 0) pa_nil)) (pv 1) (nomark _))
      (pss_one (ps_ret pe_int))
      pss_nil)
    (pss_one (ps_ret (pe_callB (callMin2 rfl) (by rfl) T.min (by decide +kernel) (pa_cons (pe_m C_Round_at R.c (by exact hr.mono (by decide)) pass0 (fun _ _ _ _ _ _ us hl => match us, hl with | [_, _], _ => rfl) (pv 2) (pa_cons (pv 3) pa_nil)) (pa_cons (pe_g C_living (by exact hr.mono (by decide)) (E := fun _ => E0) (fun σ => passC0 σ) (fun _ _ _ _ _ _ us hl => match us, hl with | [_], _ => rfl) (pa_cons (pv 0) pa_nil)) pa_nil)))))), ?_⟩
    try dsimp only [L2.cxOf, L2.Cx.nox]
    simp only [L2.start, N_most_allowed, List.map_cons, List.map_nil, List.length_cons, List.length_nil, Nat.reduceAdd, Nat.reduceSub, List.replicate_succ, List.replicate_zero, List.cons_append, List.nil_append]

    have hl := hw.1
    have hnb := nth_b (t := φ) hB
    have hbu : ((bud bs φ 0 : Nat) : Int) = nth bs φ := by
      unfold bud
      rw [show φ + ((0 : Nat) : Int) = φ from by omega]
      omega
    walk_at "gos"
    · rw [if_pos (by omega)] at k
      exact k
    · rename_i hI
      rw [if_neg (by omega)] at k
      have e : (if ((l.count true : Nat) : Int) < nth bs φ then ((l.count true : Nat) : Int) else nth bs φ) = ((min (bud bs φ 0) (l.count true) : Nat) : Int) := by split <;> omega
      rw [e]
      exact k
local macro_rules | `(tactic| walk_at "call") => `(tactic| first
  | ((with_reducible show spMal _ _ _ _ _); refine ⟨_, _, _, _, _, rfl, ⟨by assumption, by infer_instance, by assumption, by omega, by omega⟩, ?_⟩)
  | ((with_reducible show Gx.rFldS _ _ _ _ _ _ _); refine Gx.g_fldSI (Gx.ClsF.c (by assumption)) (Gx.ClsF.nf (by assumption) _ (by simp)) (by decide) (by simp) ?_; intro H_ e_ hx_)
  | ((with_reducible show Gx.rMeth _ _ _ _ _ _ _ _ _ _); refine Gx.g_rmethI (by first | rfl | decide) ?_)
  | ((with_reducible show Gx.rFld _ _ _ _ _); refine Gx.g_fldI (Gx.ClsF.c (by assumption)) (Gx.ClsF.nf (by assumption) _ (by simp)) rfl ?_))
def spTin (C : Addr) : Sp := fun vs H Q _ => ∃ (x dx : Addr) (lim : Int), vs = [.ref x, .int lim] ∧ (At H x (.ins C dx []) ∧ 1 ≤ lim) ∧ ∀ H', ExB x H H' → InC C [(("_limit" : Str), .int lim)] H' x → Q .non H'
abbrev s_Thrifty___init__ : Stmt := (inClass (top 47) 0)
abbrev N_Thrifty___init__ : List Str := ["self", "limit"]
theorem sc_Thrifty___init__ : FnScope N_Thrifty___init__ ["self", "limit"] (defScope s_Thrifty___init__) := ⟨rfl, rfl, rfl, by decide +kernel, rfl, by decide +kernel, by decide +kernel⟩
theorem cl_Thrifty___init__ (T : Bl mg) (Z : EcF P K mg c_StoreError c_InvalidInput c_NoPlace) (R : RdF K mg c_Round) (W_Keeper : Gx.ClsF K mg c_Keeper "Keeper" []) (M_Keeper : Gx.MkZ K c_Keeper) (I_Keeper_Keeper : PySem.W.kitOne K (.ref c_Keeper) (.ref c_Keeper) = some true) (W_Greedy : Gx.ClsF K mg c_Greedy "Greedy" []) (M_Greedy : Gx.MkZ K c_Greedy) (I_Greedy_Keeper : PySem.W.kitOne K (.ref c_Greedy) (.ref c_Keeper) = some true) (W_Lazy : Gx.ClsF K mg c_Lazy "Lazy" ["_mark"]) (I_Lazy_Keeper : PySem.W.kitOne K (.ref c_Lazy) (.ref c_Keeper) = some true) (W_Thrifty : Gx.ClsF K mg c_Thrifty "Thrifty" ["_limit"]) (I_Thrifty_Keeper : PySem.W.kitOne K (.ref c_Thrifty) (.ref c_Keeper) = some true) (W_RuleKeeper : Gx.ClsF K mg c_RuleKeeper "RuleKeeper" ["_rules"]) (I_RuleKeeper_Keeper : PySem.W.kitOne K (.ref c_RuleKeeper) (.ref c_Keeper) = some true) (D : Gx.DfC K c_Thrifty "Thrifty.__init__" s_Thrifty___init__ [] []) (C_at_least : ClG CX0 P w K mg base 3 "at_least" s_at_least ["value", "least", "field"] [] [] spAtl) : Gx.ClC CX0 P w K mg base 5 c_Thrifty "Thrifty.__init__" s_Thrifty___init__ ["self", "limit"] [] [] (spTin c_Thrifty) := by
  have nd := sc_Thrifty___init__.nd
  refine D.okP sc_Thrifty___init__ (fun vs H Q E h => ?_) (fun f cdv A outer s H vs Q E hr h => ?_)
  · obtain ⟨x, dx, lim, rfl, _⟩ := h
    rfl
  · obtain ⟨x, dx, lim, rfl, ⟨hx, h1⟩, k⟩ := h
    have hu := hu64 hr
    refine ⟨_, (pss_cons (ps_expr (pe_g C_at_least (by exact hr.mono (by decide)) (E := fun _ => E0) (fun σ => passC0 σ) (fun _ _ _ _ _ _ us hl => match us, hl with | [_, _, _], _ => rfl) (pa_cons (pv 1) (pa_cons pe_int (pa_cons pe_str pa_nil)))))
    (pss_one (ps_fld (pv 0) (pv 1) rfl))), ?_⟩
    try dsimp only [L2.cxOf, L2.Cx.nox]
    simp only [L2.start, N_Thrifty___init__, List.map_cons, List.map_nil, List.length_cons, List.length_nil, Nat.reduceAdd, Nat.reduceSub, List.replicate_succ, List.replicate_zero, List.cons_append, List.nil_append]

    walk_at "go"
    exact k _ Gx.rel ⟨⟨_, (by assumption : At _ _ _).eq⟩⟩

theorem snoc_w {l : List Bool} (h : Wd l) : trimW (l ++ [true]) = l ++ [true] := Lif.snoc_tz h.tz
/-- leaves a safe word -/
def TS (bs : List Int) (lim p : Nat) (φ : Int) (w : List Bool) : Prop := w.count true < lim ∧ lim ≤ p ∧ Lv ⟨w ++ [true], bs, lim, p⟩ φ false .non
theorem sn_ok {bs : List Int} {lim p : Nat} {w : List Bool} (hB : RB bs) (hw : Wd w) (h1 : w.count true < lim) (h2 : lim ≤ p) (h3 : w.length < p) (hp : p ≤ 64) : Sd.Ok ⟨w ++ [true], bs, lim, p⟩ := by
  refine ⟨⟨by show (w ++ [true]).length ≤ 64; rw [List.length_append, List.length_singleton]; omega, ?_⟩, hB, ?_, by show 1 ≤ lim; omega, h2, ?_, by show p ≤ 70; omega⟩
  · show (w ++ [true]).head? ≠ some false
    cases w with
    | nil => simp
    | cons b r => exact hw.2
  · show (w ++ [true]).count true ≤ lim
    rw [List.count_append]
    simp
    omega
  · show (w ++ [true]).length ≤ p
    rw [List.length_append, List.length_singleton]
    omega
def spLsf (C cT : Addr) : Sp := fun vs H Q _ => ∃ (x : Addr) (l : List Bool) (p lim : Nat) (a : Addr) (bs : List Int) (φ : Int), vs = [.ref x, .str (tx l), .int (p : Nat), .ref a, .int φ] ∧ (InC cT [(("_limit" : Str), .int (lim : Nat))] H x ∧ Wd l ∧ l.length < p ∧ p ≤ 64 ∧ RdC C H a bs ∧ RB bs ∧ 0 ≤ φ ∧ φ < 2 ^ 99) ∧
  ∀ b H', Ex H H' → (b = true ↔ TS bs lim p φ l) → Q (.bl b) H'
abbrev s_Thrifty__leaves_safe : Stmt := (inClass (top 47) 2)
abbrev N_Thrifty__leaves_safe : List Str := ["self", "word", "places", "budgets", "phase"]
theorem sc_Thrifty__leaves_safe : FnScope N_Thrifty__leaves_safe ["self", "word", "places", "budgets", "phase"] (defScope s_Thrifty__leaves_safe) := ⟨rfl, rfl, rfl, by decide +kernel, rfl, by decide +kernel, by decide +kernel⟩
theorem cl_Thrifty__leaves_safe (T : Bl mg) (Z : EcF P K mg c_StoreError c_InvalidInput c_NoPlace) (R : RdF K mg c_Round) (W_Keeper : Gx.ClsF K mg c_Keeper "Keeper" []) (M_Keeper : Gx.MkZ K c_Keeper) (I_Keeper_Keeper : PySem.W.kitOne K (.ref c_Keeper) (.ref c_Keeper) = some true) (W_Greedy : Gx.ClsF K mg c_Greedy "Greedy" []) (M_Greedy : Gx.MkZ K c_Greedy) (I_Greedy_Keeper : PySem.W.kitOne K (.ref c_Greedy) (.ref c_Keeper) = some true) (W_Lazy : Gx.ClsF K mg c_Lazy "Lazy" ["_mark"]) (I_Lazy_Keeper : PySem.W.kitOne K (.ref c_Lazy) (.ref c_Keeper) = some true) (W_Thrifty : Gx.ClsF K mg c_Thrifty "Thrifty" ["_limit"]) (I_Thrifty_Keeper : PySem.W.kitOne K (.ref c_Thrifty) (.ref c_Keeper) = some true) (W_RuleKeeper : Gx.ClsF K mg c_RuleKeeper "RuleKeeper" ["_rules"]) (I_RuleKeeper_Keeper : PySem.W.kitOne K (.ref c_RuleKeeper) (.ref c_Keeper) = some true) (D : DfM K c_Thrifty "_leaves_safe" "Thrifty._leaves_safe" s_Thrifty__leaves_safe [] []) (C_safe : ClG CX0 P w K mg base 15 "safe" s_safe ["word", "places", "limit", "budgets", "phase", "late"] [.int 0] [("late", .bl false)] (spSafe c_Round)) (C_append_record : ClG (L2.CX P w) P w K mg base 7 "append_record" s_append_record ["word", "places", "record"] [.str "1"] [] (spAppR c_NoPlace)) (C_living : ClG CX0 P w K mg base 5 "living" s_living ["word"] [] [] spLiving) : ClM CX0 P w K mg base 17 c_Thrifty "_leaves_safe" "Thrifty._leaves_safe" s_Thrifty__leaves_safe ["self", "word", "places", "budgets", "phase"] [] [] (spLsf c_Round c_Thrifty) := by
  have nd := sc_Thrifty__leaves_safe.nd
  refine D.okP sc_Thrifty__leaves_safe (fun vs H Q E h => ?_) (fun f cdv A outer s H vs Q E hr h => ?_)
  · obtain ⟨x, l, p, lim, a, bs, φ, rfl, _⟩ := h
    rfl
  · obtain ⟨x, l, p, lim, a, bs, φ, rfl, ⟨hx, hw, h1, h2, ha, hB, h3, h4⟩, k⟩ := h
    have hu := hu64 hr
    refine ⟨_, (pss_cons (ps_if (PW.pt (pw_or (pt_cmpR opGe (pe_g C_living (by exact hr.mono (by decide)) (E := fun _ => E0) (fun σ => passC0 σ) (fun _ _ _ _ _ _ us hl => match us, hl with | [_], _ => rfl) (pa_cons (pv 1) pa_nil)) (pe_fld (pv 0) rfl) (nomark _)) (pw_or1 (pt_cmpR opGt (pe_fld (pv 0) rfl) (pv 2) (nomark _)))))
      (pss_one (ps_ret pe_bl))
      pss_nil)
    (pss_one (ps_ret (pe_gkd (st := s_safe) (ps := ["word", "places", "limit", "budgets", "phase", "late"]) (kws := [("late", .bl false)]) (x := "safe") C_safe (by exact hr.mono (by decide)) (E := fun _ => E0) (fun σ => passC0 σ) 5 [] [("late", .bl false)] (fun us its mv ws => ((us ++ its.drop 1) ++ ((mv.drop 0).take 1))) (by decide) (by decide) (by decide) (fun r1 r2 r3 r4 => (Vals.append (Vals.append r1 (r2.drop 1)) ((r3.drop 0).take 1))) (fun _ _ _ _ _ _ _ us its mv ws h1 h2 h3 h4 => match us, its, mv, ws, h1, h2, h3, h4 with | [_, _, _, _, _], [_], [_], [], _, _, _, _ => ⟨_, rfl, ⟨_, _, _, _, _, _, rfl, rfl, rfl⟩⟩) (pa_cons (pe_g1 C_append_record (by exact hr.mono (by decide)) (fun σ => passC takes0 σ) 2 0 (by decide) (by decide) (fun _ _ _ _ _ _ _ us its h1 h2 => match us, its, h1, h2 with | [_, _], [_], _, _ => ⟨_, rfl, rfl⟩) (pa_cons (pv 1) (pa_cons (pv 2) pa_nil))) (pa_cons (pv 2) (pa_cons (pe_fld (pv 0) rfl) (pa_cons (pv 3) (pa_cons (pv 4) pa_nil))))) pk_nil)))), ?_⟩
    try dsimp only [L2.cxOf, L2.Cx.nox]
    simp only [L2.start, N_Thrifty__leaves_safe, List.map_cons, List.map_nil, List.length_cons, List.length_nil, Nat.reduceAdd, Nat.reduceSub, List.replicate_succ, List.replicate_zero, List.cons_append, List.nil_append]

    have hl := hw.1
    have hsn := snoc_w hw
    walk_at "gos"
    · rename_i hI
      exact k false _ Gx.rel ⟨fun h => (nomatch h), fun h => by have := h.1; omega⟩
    · rename_i hI hJ
      exact k false _ Gx.rel ⟨fun h => (nomatch h), fun h => by have := h.2.1; omega⟩
    · rename_i hI hJ
      have hO := sn_ok hB hw (show l.count true < lim by omega) (show lim ≤ p by omega) h1 h2
      refine ⟨l, true, p, rfl, ⟨hw, by omega, by omega⟩, fun _ H1 e1 => ?_, fun h => absurd h1 h⟩
      rw [hsn]
      walk_at "go"
      refine use_sf (S := ⟨l ++ [true], bs, lim, p⟩) (by infer_instance) hO hO.wd.1 h2 h3 (by omega) (fun H2 e2 hv => ?_) (fun H2 e2 hv => ?_)
      · exact k true _ Gx.rel ⟨fun _ => ⟨by omega, by omega, hv⟩, fun _ => rfl⟩
      · exact k false _ Gx.rel ⟨fun h => (nomatch h), fun h => by
          obtain ⟨m, hm⟩ := hv
          have := h.2.2.uniq hO hm
          cases this⟩

/-- the thrifty number of carries: the least that leaves a safe word, else the most -/
def ThrR (bs : List Int) (lim p : Nat) (φ : Int) (l : List Bool) (most r : Nat) : Prop :=
  (r < most ∧ TS bs lim p φ (Lif.cars r l) ∧ ∀ j, j < r → ¬ TS bs lim p φ (Lif.cars j l)) ∨ (r = most ∧ ∀ j, j < most → ¬ TS bs lim p φ (Lif.cars j l))
def mostA (bs : List Int) (p : Nat) (φ : Int) (l : List Bool) : Nat := if l.length = p then 0 else min (bud bs φ 0) (l.count true)
theorem cars_wd {l : List Bool} (h : Wd l) (j : Nat) : Wd (Lif.cars j l) := wd_of (Lif.cars_tz h.tz j) (cars_len j) h.1
local macro_rules | `(tactic| walk_at "call") => `(tactic| ((with_reducible show spLsf _ _ _ _ _ _); refine ⟨_, _, _, _, _, _, _, rfl, ⟨by infer_instance, by assumption, by omega, by omega, by infer_instance, by assumption, by omega, by omega⟩, ?_⟩; intro b_ H_ e_ hb_))
def spThc (C cT : Addr) : Sp := fun vs H Q _ => ∃ (x : Addr) (l : List Bool) (p lim : Nat) (a : Addr) (bs : List Int) (φ : Int), vs = [.ref x, .str (tx l), .int (p : Nat), .ref a, .int φ] ∧ (InC cT [(("_limit" : Str), .int (lim : Nat))] H x ∧ Wd l ∧ l.length ≤ p ∧ 1 ≤ p ∧ p ≤ 64 ∧ RdC C H a bs ∧ RB bs ∧ 0 ≤ φ ∧ φ < 2 ^ 98) ∧
  ∀ (r : Nat) H', Ex H H' → ThrR bs lim p ((φ + 1) % (bs.length : Int)) l (mostA bs p φ l) r → Q (.int (r : Nat)) H'
abbrev s_Thrifty_choose : Stmt := (inClass (top 47) 1)
abbrev N_Thrifty_choose : List Str := ["self", "word", "places", "budgets", "phase", "most", "next_phase", "carried_word", "count"]
theorem sc_Thrifty_choose : FnScope N_Thrifty_choose ["self", "word", "places", "budgets", "phase"] (defScope s_Thrifty_choose) := ⟨rfl, rfl, rfl, by decide +kernel, rfl, by decide +kernel, by decide +kernel⟩
theorem cl_Thrifty_choose (T : Bl mg) (Z : EcF P K mg c_StoreError c_InvalidInput c_NoPlace) (R : RdF K mg c_Round) (W_Keeper : Gx.ClsF K mg c_Keeper "Keeper" []) (M_Keeper : Gx.MkZ K c_Keeper) (I_Keeper_Keeper : PySem.W.kitOne K (.ref c_Keeper) (.ref c_Keeper) = some true) (W_Greedy : Gx.ClsF K mg c_Greedy "Greedy" []) (M_Greedy : Gx.MkZ K c_Greedy) (I_Greedy_Keeper : PySem.W.kitOne K (.ref c_Greedy) (.ref c_Keeper) = some true) (W_Lazy : Gx.ClsF K mg c_Lazy "Lazy" ["_mark"]) (I_Lazy_Keeper : PySem.W.kitOne K (.ref c_Lazy) (.ref c_Keeper) = some true) (W_Thrifty : Gx.ClsF K mg c_Thrifty "Thrifty" ["_limit"]) (I_Thrifty_Keeper : PySem.W.kitOne K (.ref c_Thrifty) (.ref c_Keeper) = some true) (W_RuleKeeper : Gx.ClsF K mg c_RuleKeeper "RuleKeeper" ["_rules"]) (I_RuleKeeper_Keeper : PySem.W.kitOne K (.ref c_RuleKeeper) (.ref c_Keeper) = some true) (D : DfM K c_Thrifty "choose" "Thrifty.choose" s_Thrifty_choose [] []) (C_carry : ClG CX0 P w K mg base 7 "carry" s_carry ["word", "places"] [] [] spCarry) (C_Thrifty__leaves_safe : ClM CX0 P w K mg base 17 c_Thrifty "_leaves_safe" "Thrifty._leaves_safe" s_Thrifty__leaves_safe ["self", "word", "places", "budgets", "phase"] [] [] (spLsf c_Round c_Thrifty)) (C_Round___len__ : ClM CX0 P w K mg base 3 c_Round "__len__" "Round.__len__" s_Round___len__ ["self"] [] [] (Gx.spLen c_Round)) (C_most_allowed : ClG CX0 P w K mg base 7 "_most_allowed" s_most_allowed ["word", "places", "budgets", "phase"] [] [] (spMal c_Round)) (C_check_moment : ClG CX0 P w K mg base 5 "_check_moment" s_check_moment ["word", "places", "phase"] [] [] spCkm) : ClM CX0 P w K mg base 19 c_Thrifty "choose" "Thrifty.choose" s_Thrifty_choose ["self", "word", "places", "budgets", "phase"] [] [] (spThc c_Round c_Thrifty) := by
  have nd := sc_Thrifty_choose.nd
  refine D.okP sc_Thrifty_choose (fun vs H Q E h => ?_) (fun f cdv A outer s H vs Q E hr h => ?_)
  · obtain ⟨x, l, p, lim, a, bs, φ, rfl, _⟩ := h
    rfl
  · obtain ⟨x, l, p, lim, a, bs, φ, rfl, ⟨hx, hw, h1, h2, h3, ha, hB, h4, h5⟩, k⟩ := h
    have hu := hu64 hr
    refine ⟨_, (pss_cons (ps_expr (pe_g C_check_moment (by exact hr.mono (by decide)) (E := fun _ => E0) (fun σ => passC0 σ) (fun _ _ _ _ _ _ us hl => match us, hl with | [_, _, _], _ => rfl) (pa_cons (pv 1) (pa_cons (pv 2) (pa_cons (pv 4) pa_nil)))))
    (pss_cons (ps_set (i := 5) nd rfl (Or.inl rfl) (pe_g C_most_allowed (by exact hr.mono (by decide)) (E := fun _ => E0) (fun σ => passC0 σ) (fun _ _ _ _ _ _ us hl => match us, hl with | [_, _, _, _], _ => rfl) (pa_cons (pv 1) (pa_cons (pv 2) (pa_cons (pv 3) (pa_cons (pv 4) pa_nil))))))
    (pss_cons (ps_set (i := 6) nd rfl (Or.inl rfl) (pe_op opMod (pe_op (opAddK (K := K) (by rfl)) (pv 4) pe_int) (pe_callB (callOwnLen C_Round___len__ (by exact hr.mono (by decide)) pass0 (fun _ _ _ _ _ _ us hl => match us, hl with | [_], _ => rfl)) (by rfl) T.len (by decide +kernel) (pa_cons (pv 3) pa_nil))))
    (pss_cons (ps_set (i := 7) nd rfl (Or.inl rfl) (pv 1))
    (pss_cons (ps_for PassesOwn.never rfl (pi_range1 rfl T.range (pa_cons (pv 5) pa_nil)) (pg_name (i := 8) nd rfl (Or.inl rfl))
      (pss_cons (ps_if (pt_val (pe_m C_Thrifty__leaves_safe W_Thrifty.c (by exact hr.mono (by decide)) pass0 (fun _ _ _ _ _ _ us hl => match us, hl with | [_, _, _, _, _], _ => rfl) (pv 0) (pa_cons (pv 7) (pa_cons (pv 2) (pa_cons (pv 3) (pa_cons (pv 6) pa_nil))))))
      (pss_one (ps_ret (pv 8)))
      pss_nil)
    (pss_one (ps_set (i := 7) nd rfl (Or.inl rfl) (pe_g C_carry (by exact hr.mono (by decide)) (E := fun _ => E0) (fun σ => passC0 σ) (fun _ _ _ _ _ _ us hl => match us, hl with | [_, _], _ => rfl) (pa_cons (pv 7) (pa_cons (pv 2) pa_nil)))))))
    (pss_one (ps_ret (pv 5)))))))), ?_⟩
    try dsimp only [L2.cxOf, L2.Cx.nox]
    simp only [L2.start, N_Thrifty_choose, List.map_cons, List.map_nil, List.length_cons, List.length_nil, Nat.reduceAdd, Nat.reduceSub, List.replicate_succ, List.replicate_zero, List.cons_append, List.nil_append]

    have hl := hw.1
    have l1 := hB.l1
    have l2 := hB.l2
    have hm := modb (s := φ + 1) (n := bs.length) (by omega)
    have hmo : mostA bs p φ l ≤ l.count true ∧ (0 < mostA bs p φ l → l.length < p) := by
      unfold mostA
      split <;> omega
    have hcl := List.count_le_length (a := true) (l := l)
    walk_at "go"
    rw [show (if l.length = p then 0 else min (bud bs φ 0) (l.count true)) = mostA bs p φ l from rfl]
    walk_at "go"
    refine Gx.for1 [] (fun t σ' H' => ∃ (s8 : Option V), σ' = [some (.ref x), some (.str (tx l)), some (.int (p : Nat)), some (.ref a), some (.int φ), some (.int (mostA bs p φ l : Nat)), some (.int ((φ + 1) % (bs.length : Int))), some (.str (tx (Lif.cars t l))), s8] ∧ ∀ j, j < t → ¬ TS bs lim p ((φ + 1) % (bs.length : Int)) (Lif.cars j l)) (by omega) ⟨_, rfl, fun j hj => absurd hj (Nat.not_lt_zero _)⟩ ?_ ?_
    · rintro t σ' H' hi e ⟨s8, rfl, hno⟩
      have hlt := hmo.2 (by omega)
      have hcw := cars_wd hw t
      have hcn := cars_len (w := l) t
      walk_at "go"
      rename_i b H1 e1 hb
      cases b with
      | true =>
        walk_at "go"
        exact k _ _ Gx.rel (.inl ⟨by omega, hb.mp rfl, hno⟩)
      | false =>
        walk_at "go"
        refine ⟨Lif.cars t l, p, rfl, ⟨hcw, h2, by omega⟩, ?_⟩
        rw [carW_lif (by omega)]
        walk_at "go"
        refine Gx.li ⟨_, rfl, fun j hj => ?_⟩
        by_cases z : j = t
        · subst z
          exact fun y => (nomatch (hb.mpr y))
        · exact hno j (by omega)
    · rintro σ' H' e ⟨s8, rfl, hno⟩
      walk_at "go"
      exact k _ _ Gx.rel (.inr ⟨rfl, fun j hj => hno j (by omega)⟩)

theorem e_app (z : Str) : Str.empty ++ z = z := Str.ext' (by rw [Str.cps_append]; simp [Str.empty])
theorem fmt_ok {i : Int} (h : -(2 ^ 200) < i ∧ i < 2 ^ 200) : i.natAbs.log2 < 1920 := Nat.lt_of_lt_of_le (PySem.Flt.log2_lt_of (k := 200) (by decide) (by omega)) (by decide)
theorem int_len {i : Int} (h : -(2 ^ 200) < i ∧ i < 2 ^ 200) : (Str.ofString (toString i)).length ≤ 1921 := PyProof.Rows.int_text_len_1921 (fmt_ok h)
theorem jn_ok {a b : Str} (h1 : a.length ≤ 1000) (h2 : b.length ≤ 1921) : (a ++ b).length ≤ sizeLine := by
  rw [Str.length_append]
  exact Nat.le_trans (Nat.add_le_add h1 h2) (by decide)
local macro_rules | `(tactic| walk_at "call") => `(tactic| first
  | ((with_reducible show spCkm _ _ _ _); refine ⟨_, _, _, rfl, ⟨by assumption, by omega, by omega, by omega⟩, ?_⟩)
  | ((with_reducible show spMal _ _ _ _ _); refine ⟨_, _, _, _, _, rfl, ⟨by assumption, by infer_instance, by assumption, by omega, by omega⟩, ?_⟩)
  | ((with_reducible show Gx.rFmt _ _ _); refine Gx.g_fmtI (fmt_ok (by omega)) ?_)
  | ((with_reducible show Gx.rJn _ _ _ _ _ _); refine Gx.g_jn (by first | decide +kernel | exact jn_ok (by decide +kernel) (int_len (by omega))) ?_))
/-- the count of a keeper that never carries, of the greedy one, of the lazy one -/
def lzy (bs : List Int) (p : Nat) (φ : Int) (l : List Bool) (m : Int) : Nat := if m < (p : Int) - (l.length : Nat) then 0 else mostA bs p φ l
def spKch (C : Addr) (cK : Addr) : Sp := fun vs H Q _ => ∃ (x : Addr) (l : List Bool) (p : Nat) (a : Addr) (bs : List Int) (φ : Int), vs = [.ref x, .str (tx l), .int (p : Nat), .ref a, .int φ] ∧ (InC cK [] H x ∧ Wd l ∧ l.length ≤ p ∧ 1 ≤ p ∧ p ≤ 64 ∧ RdC C H a bs ∧ RB bs ∧ 0 ≤ φ ∧ φ < 2 ^ 98) ∧ Q (.int 0) H
abbrev s_Keeper_choose : Stmt := (inClass (top 44) 0)
abbrev N_Keeper_choose : List Str := ["self", "word", "places", "budgets", "phase"]
theorem sc_Keeper_choose : FnScope N_Keeper_choose ["self", "word", "places", "budgets", "phase"] (defScope s_Keeper_choose) := ⟨rfl, rfl, rfl, by decide +kernel, rfl, by decide +kernel, by decide +kernel⟩
theorem cl_Keeper_choose (T : Bl mg) (Z : EcF P K mg c_StoreError c_InvalidInput c_NoPlace) (R : RdF K mg c_Round) (W_Keeper : Gx.ClsF K mg c_Keeper "Keeper" []) (M_Keeper : Gx.MkZ K c_Keeper) (I_Keeper_Keeper : PySem.W.kitOne K (.ref c_Keeper) (.ref c_Keeper) = some true) (W_Greedy : Gx.ClsF K mg c_Greedy "Greedy" []) (M_Greedy : Gx.MkZ K c_Greedy) (I_Greedy_Keeper : PySem.W.kitOne K (.ref c_Greedy) (.ref c_Keeper) = some true) (W_Lazy : Gx.ClsF K mg c_Lazy "Lazy" ["_mark"]) (I_Lazy_Keeper : PySem.W.kitOne K (.ref c_Lazy) (.ref c_Keeper) = some true) (W_Thrifty : Gx.ClsF K mg c_Thrifty "Thrifty" ["_limit"]) (I_Thrifty_Keeper : PySem.W.kitOne K (.ref c_Thrifty) (.ref c_Keeper) = some true) (W_RuleKeeper : Gx.ClsF K mg c_RuleKeeper "RuleKeeper" ["_rules"]) (I_RuleKeeper_Keeper : PySem.W.kitOne K (.ref c_RuleKeeper) (.ref c_Keeper) = some true) (D : DfM K c_Keeper "choose" "Keeper.choose" s_Keeper_choose [] []) (C_check_moment : ClG CX0 P w K mg base 5 "_check_moment" s_check_moment ["word", "places", "phase"] [] [] spCkm) : ClM CX0 P w K mg base 7 c_Keeper "choose" "Keeper.choose" s_Keeper_choose ["self", "word", "places", "budgets", "phase"] [] [] (spKch c_Round c_Keeper) := by
  have nd := sc_Keeper_choose.nd
  refine D.okP sc_Keeper_choose (fun vs H Q E h => ?_) (fun f cdv A outer s H vs Q E hr h => ?_)
  · obtain ⟨x, l, p, a, bs, φ, rfl, _⟩ := h
    rfl
  · obtain ⟨x, l, p, a, bs, φ, rfl, ⟨hx, hw, h1, h2, h3, ha, hB, h4, h5⟩, k⟩ := h
    have hu := hu64 hr
    refine ⟨_, (pss_cons (ps_expr (pe_g C_check_moment (by exact hr.mono (by decide)) (E := fun _ => E0) (fun σ => passC0 σ) (fun _ _ _ _ _ _ us hl => match us, hl with | [_, _, _], _ => rfl) (pa_cons (pv 1) (pa_cons (pv 2) (pa_cons (pv 4) pa_nil)))))
    (pss_one (ps_ret pe_int))), ?_⟩
    try dsimp only [L2.cxOf, L2.Cx.nox]
    simp only [L2.start, N_Keeper_choose, List.map_cons, List.map_nil, List.length_cons, List.length_nil, Nat.reduceAdd, Nat.reduceSub, List.replicate_succ, List.replicate_zero, List.cons_append, List.nil_append]

    have hl := hw.1
    walk_at "gos"
    exact k
def spGch (C : Addr) (cK : Addr) : Sp := fun vs H Q _ => ∃ (x : Addr) (l : List Bool) (p : Nat) (a : Addr) (bs : List Int) (φ : Int), vs = [.ref x, .str (tx l), .int (p : Nat), .ref a, .int φ] ∧ (InC cK [] H x ∧ Wd l ∧ l.length ≤ p ∧ 1 ≤ p ∧ p ≤ 64 ∧ RdC C H a bs ∧ RB bs ∧ 0 ≤ φ ∧ φ < 2 ^ 98) ∧ Q (.int (mostA bs p φ l : Nat)) H
abbrev s_Greedy_choose : Stmt := (inClass (top 45) 0)
abbrev N_Greedy_choose : List Str := ["self", "word", "places", "budgets", "phase"]
theorem sc_Greedy_choose : FnScope N_Greedy_choose ["self", "word", "places", "budgets", "phase"] (defScope s_Greedy_choose) := ⟨rfl, rfl, rfl, by decide +kernel, rfl, by decide +kernel, by decide +kernel⟩
theorem cl_Greedy_choose (T : Bl mg) (Z : EcF P K mg c_StoreError c_InvalidInput c_NoPlace) (R : RdF K mg c_Round) (W_Keeper : Gx.ClsF K mg c_Keeper "Keeper" []) (M_Keeper : Gx.MkZ K c_Keeper) (I_Keeper_Keeper : PySem.W.kitOne K (.ref c_Keeper) (.ref c_Keeper) = some true) (W_Greedy : Gx.ClsF K mg c_Greedy "Greedy" []) (M_Greedy : Gx.MkZ K c_Greedy) (I_Greedy_Keeper : PySem.W.kitOne K (.ref c_Greedy) (.ref c_Keeper) = some true) (W_Lazy : Gx.ClsF K mg c_Lazy "Lazy" ["_mark"]) (I_Lazy_Keeper : PySem.W.kitOne K (.ref c_Lazy) (.ref c_Keeper) = some true) (W_Thrifty : Gx.ClsF K mg c_Thrifty "Thrifty" ["_limit"]) (I_Thrifty_Keeper : PySem.W.kitOne K (.ref c_Thrifty) (.ref c_Keeper) = some true) (W_RuleKeeper : Gx.ClsF K mg c_RuleKeeper "RuleKeeper" ["_rules"]) (I_RuleKeeper_Keeper : PySem.W.kitOne K (.ref c_RuleKeeper) (.ref c_Keeper) = some true) (D : DfM K c_Greedy "choose" "Greedy.choose" s_Greedy_choose [] []) (C_most_allowed : ClG CX0 P w K mg base 7 "_most_allowed" s_most_allowed ["word", "places", "budgets", "phase"] [] [] (spMal c_Round)) (C_check_moment : ClG CX0 P w K mg base 5 "_check_moment" s_check_moment ["word", "places", "phase"] [] [] spCkm) : ClM CX0 P w K mg base 9 c_Greedy "choose" "Greedy.choose" s_Greedy_choose ["self", "word", "places", "budgets", "phase"] [] [] (spGch c_Round c_Greedy) := by
  have nd := sc_Greedy_choose.nd
  refine D.okP sc_Greedy_choose (fun vs H Q E h => ?_) (fun f cdv A outer s H vs Q E hr h => ?_)
  · obtain ⟨x, l, p, a, bs, φ, rfl, _⟩ := h
    rfl
  · obtain ⟨x, l, p, a, bs, φ, rfl, ⟨hx, hw, h1, h2, h3, ha, hB, h4, h5⟩, k⟩ := h
    have hu := hu64 hr
    refine ⟨_, (pss_cons (ps_expr (pe_g C_check_moment (by exact hr.mono (by decide)) (E := fun _ => E0) (fun σ => passC0 σ) (fun _ _ _ _ _ _ us hl => match us, hl with | [_, _, _], _ => rfl) (pa_cons (pv 1) (pa_cons (pv 2) (pa_cons (pv 4) pa_nil)))))
    (pss_one (ps_ret (pe_g C_most_allowed (by exact hr.mono (by decide)) (E := fun _ => E0) (fun σ => passC0 σ) (fun _ _ _ _ _ _ us hl => match us, hl with | [_, _, _, _], _ => rfl) (pa_cons (pv 1) (pa_cons (pv 2) (pa_cons (pv 3) (pa_cons (pv 4) pa_nil)))))))), ?_⟩
    try dsimp only [L2.cxOf, L2.Cx.nox]
    simp only [L2.start, N_Greedy_choose, List.map_cons, List.map_nil, List.length_cons, List.length_nil, Nat.reduceAdd, Nat.reduceSub, List.replicate_succ, List.replicate_zero, List.cons_append, List.nil_append]

    have hl := hw.1
    walk_at "gos"
    exact k
def spLin (C : Addr) : Sp := fun vs H Q _ => ∃ (x dx : Addr) (m : Int), vs = [.ref x, .int m] ∧ (At H x (.ins C dx []) ∧ 0 ≤ m) ∧ ∀ H', ExB x H H' → InC C [(("_mark" : Str), .int m)] H' x → Q .non H'
abbrev s_Lazy___init__ : Stmt := (inClass (top 46) 0)
abbrev N_Lazy___init__ : List Str := ["self", "mark"]
theorem sc_Lazy___init__ : FnScope N_Lazy___init__ ["self", "mark"] (defScope s_Lazy___init__) := ⟨rfl, rfl, rfl, by decide +kernel, rfl, by decide +kernel, by decide +kernel⟩
theorem cl_Lazy___init__ (T : Bl mg) (Z : EcF P K mg c_StoreError c_InvalidInput c_NoPlace) (R : RdF K mg c_Round) (W_Keeper : Gx.ClsF K mg c_Keeper "Keeper" []) (M_Keeper : Gx.MkZ K c_Keeper) (I_Keeper_Keeper : PySem.W.kitOne K (.ref c_Keeper) (.ref c_Keeper) = some true) (W_Greedy : Gx.ClsF K mg c_Greedy "Greedy" []) (M_Greedy : Gx.MkZ K c_Greedy) (I_Greedy_Keeper : PySem.W.kitOne K (.ref c_Greedy) (.ref c_Keeper) = some true) (W_Lazy : Gx.ClsF K mg c_Lazy "Lazy" ["_mark"]) (I_Lazy_Keeper : PySem.W.kitOne K (.ref c_Lazy) (.ref c_Keeper) = some true) (W_Thrifty : Gx.ClsF K mg c_Thrifty "Thrifty" ["_limit"]) (I_Thrifty_Keeper : PySem.W.kitOne K (.ref c_Thrifty) (.ref c_Keeper) = some true) (W_RuleKeeper : Gx.ClsF K mg c_RuleKeeper "RuleKeeper" ["_rules"]) (I_RuleKeeper_Keeper : PySem.W.kitOne K (.ref c_RuleKeeper) (.ref c_Keeper) = some true) (D : Gx.DfC K c_Lazy "Lazy.__init__" s_Lazy___init__ [] []) (C_at_least : ClG CX0 P w K mg base 3 "at_least" s_at_least ["value", "least", "field"] [] [] spAtl) : Gx.ClC CX0 P w K mg base 5 c_Lazy "Lazy.__init__" s_Lazy___init__ ["self", "mark"] [] [] (spLin c_Lazy) := by
  have nd := sc_Lazy___init__.nd
  refine D.okP sc_Lazy___init__ (fun vs H Q E h => ?_) (fun f cdv A outer s H vs Q E hr h => ?_)
  · obtain ⟨x, dx, m, rfl, _⟩ := h
    rfl
  · obtain ⟨x, dx, m, rfl, ⟨hx, h1⟩, k⟩ := h
    have hu := hu64 hr
    refine ⟨_, (pss_cons (ps_expr (pe_g C_at_least (by exact hr.mono (by decide)) (E := fun _ => E0) (fun σ => passC0 σ) (fun _ _ _ _ _ _ us hl => match us, hl with | [_, _, _], _ => rfl) (pa_cons (pv 1) (pa_cons pe_int (pa_cons pe_str pa_nil)))))
    (pss_one (ps_fld (pv 0) (pv 1) rfl))), ?_⟩
    try dsimp only [L2.cxOf, L2.Cx.nox]
    simp only [L2.start, N_Lazy___init__, List.map_cons, List.map_nil, List.length_cons, List.length_nil, Nat.reduceAdd, Nat.reduceSub, List.replicate_succ, List.replicate_zero, List.cons_append, List.nil_append]

    walk_at "go"
    exact k _ Gx.rel ⟨⟨_, (by assumption : At _ _ _).eq⟩⟩
def spLsm (C : Addr) : Sp := fun vs H Q _ => ∃ (x : Addr) (m0 m : Int), vs = [.ref x, .int m] ∧ (InC C [(("_mark" : Str), .int m0)] H x ∧ 0 ≤ m) ∧ ∀ H', ExB x H H' → InC C [(("_mark" : Str), .int m)] H' x → Q .non H'
abbrev s_Lazy_set_mark : Stmt := (inClass (top 46) 3)
abbrev N_Lazy_set_mark : List Str := ["self", "mark"]
theorem sc_Lazy_set_mark : FnScope N_Lazy_set_mark ["self", "mark"] (defScope s_Lazy_set_mark) := ⟨rfl, rfl, rfl, by decide +kernel, rfl, by decide +kernel, by decide +kernel⟩
theorem cl_Lazy_set_mark (T : Bl mg) (Z : EcF P K mg c_StoreError c_InvalidInput c_NoPlace) (R : RdF K mg c_Round) (W_Keeper : Gx.ClsF K mg c_Keeper "Keeper" []) (M_Keeper : Gx.MkZ K c_Keeper) (I_Keeper_Keeper : PySem.W.kitOne K (.ref c_Keeper) (.ref c_Keeper) = some true) (W_Greedy : Gx.ClsF K mg c_Greedy "Greedy" []) (M_Greedy : Gx.MkZ K c_Greedy) (I_Greedy_Keeper : PySem.W.kitOne K (.ref c_Greedy) (.ref c_Keeper) = some true) (W_Lazy : Gx.ClsF K mg c_Lazy "Lazy" ["_mark"]) (I_Lazy_Keeper : PySem.W.kitOne K (.ref c_Lazy) (.ref c_Keeper) = some true) (W_Thrifty : Gx.ClsF K mg c_Thrifty "Thrifty" ["_limit"]) (I_Thrifty_Keeper : PySem.W.kitOne K (.ref c_Thrifty) (.ref c_Keeper) = some true) (W_RuleKeeper : Gx.ClsF K mg c_RuleKeeper "RuleKeeper" ["_rules"]) (I_RuleKeeper_Keeper : PySem.W.kitOne K (.ref c_RuleKeeper) (.ref c_Keeper) = some true) (D : DfM K c_Lazy "set_mark" "Lazy.set_mark" s_Lazy_set_mark [] []) (C_at_least : ClG CX0 P w K mg base 3 "at_least" s_at_least ["value", "least", "field"] [] [] spAtl) : ClM CX0 P w K mg base 5 c_Lazy "set_mark" "Lazy.set_mark" s_Lazy_set_mark ["self", "mark"] [] [] (spLsm c_Lazy) := by
  have nd := sc_Lazy_set_mark.nd
  refine D.okP sc_Lazy_set_mark (fun vs H Q E h => ?_) (fun f cdv A outer s H vs Q E hr h => ?_)
  · obtain ⟨x, m0, m, rfl, _⟩ := h
    rfl
  · obtain ⟨x, m0, m, rfl, ⟨hx, h1⟩, k⟩ := h
    have hu := hu64 hr
    refine ⟨_, (pss_cons (ps_expr (pe_g C_at_least (by exact hr.mono (by decide)) (E := fun _ => E0) (fun σ => passC0 σ) (fun _ _ _ _ _ _ us hl => match us, hl with | [_, _, _], _ => rfl) (pa_cons (pv 1) (pa_cons pe_int (pa_cons pe_str pa_nil)))))
    (pss_one (ps_fld (pv 0) (pv 1) rfl))), ?_⟩
    try dsimp only [L2.cxOf, L2.Cx.nox]
    simp only [L2.start, N_Lazy_set_mark, List.map_cons, List.map_nil, List.length_cons, List.length_nil, Nat.reduceAdd, Nat.reduceSub, List.replicate_succ, List.replicate_zero, List.cons_append, List.nil_append]

    obtain ⟨dx, hx⟩ := hx.ex
    have hx : At H x _ := ⟨hx⟩
    walk_at "go"
    refine Gx.g_fldSI (Gx.ClsF.c W_Lazy) (Gx.ClsF.nf W_Lazy _ (by simp)) (by simp) (by simp) fun H2 e2 hx2 => ?_
    walk_at "go"
    rw [show L2.putF ("_mark" : Str) (V.int m) [(("_mark" : Str), V.int m0)] = [(("_mark" : Str), V.int m)] from by simp [L2.putF]] at hx2
    exact k _ Gx.rel ⟨⟨_, hx2.eq⟩⟩
def spLmk (C : Addr) : Sp := fun vs H Q _ => ∃ (x : Addr) (m : Int), vs = [.ref x] ∧ InC C [(("_mark" : Str), .int m)] H x ∧ Q (.int m) H
abbrev s_Lazy_mark : Stmt := (inClass (top 46) 1)
abbrev N_Lazy_mark : List Str := ["self"]
theorem sc_Lazy_mark : FnScope N_Lazy_mark ["self"] (defScope s_Lazy_mark) := ⟨rfl, rfl, rfl, by decide +kernel, rfl, by decide +kernel, by decide +kernel⟩
theorem cl_Lazy_mark (T : Bl mg) (Z : EcF P K mg c_StoreError c_InvalidInput c_NoPlace) (R : RdF K mg c_Round) (W_Keeper : Gx.ClsF K mg c_Keeper "Keeper" []) (M_Keeper : Gx.MkZ K c_Keeper) (I_Keeper_Keeper : PySem.W.kitOne K (.ref c_Keeper) (.ref c_Keeper) = some true) (W_Greedy : Gx.ClsF K mg c_Greedy "Greedy" []) (M_Greedy : Gx.MkZ K c_Greedy) (I_Greedy_Keeper : PySem.W.kitOne K (.ref c_Greedy) (.ref c_Keeper) = some true) (W_Lazy : Gx.ClsF K mg c_Lazy "Lazy" ["_mark"]) (I_Lazy_Keeper : PySem.W.kitOne K (.ref c_Lazy) (.ref c_Keeper) = some true) (W_Thrifty : Gx.ClsF K mg c_Thrifty "Thrifty" ["_limit"]) (I_Thrifty_Keeper : PySem.W.kitOne K (.ref c_Thrifty) (.ref c_Keeper) = some true) (W_RuleKeeper : Gx.ClsF K mg c_RuleKeeper "RuleKeeper" ["_rules"]) (I_RuleKeeper_Keeper : PySem.W.kitOne K (.ref c_RuleKeeper) (.ref c_Keeper) = some true) (D : DfP K c_Lazy "mark" "Lazy.mark" s_Lazy_mark)  : ClP CX0 P w K mg base 3 c_Lazy "mark" "Lazy.mark" s_Lazy_mark (spLmk c_Lazy) := by
  have nd := sc_Lazy_mark.nd
  refine D.okP sc_Lazy_mark (fun vs H Q E h => ?_) (fun f cdv A outer s H vs Q E hr h => ?_)
  · obtain ⟨x, m, rfl, _⟩ := h
    rfl
  · obtain ⟨x, m, rfl, hx, k⟩ := h
    have hu := hu64 hr
    refine ⟨_, (pss_one (ps_ret (pe_fld (pv 0) rfl))), ?_⟩
    try dsimp only [L2.cxOf, L2.Cx.nox]
    simp only [L2.start, N_Lazy_mark, List.map_cons, List.map_nil, List.length_cons, List.length_nil, Nat.reduceAdd, Nat.reduceSub, List.replicate_succ, List.replicate_zero, List.cons_append, List.nil_append]

    walk_at "go"
    exact k
def spLch (C : Addr) (cK : Addr) : Sp := fun vs H Q _ => ∃ (x : Addr) (l : List Bool) (p : Nat) (a : Addr) (bs : List Int) (φ m : Int), vs = [.ref x, .str (tx l), .int (p : Nat), .ref a, .int φ] ∧ (InC cK [(("_mark" : Str), .int m)] H x ∧ Wd l ∧ l.length ≤ p ∧ 1 ≤ p ∧ p ≤ 64 ∧ RdC C H a bs ∧ RB bs ∧ 0 ≤ φ ∧ φ < 2 ^ 98) ∧ Q (.int (lzy bs p φ l m : Nat)) H
abbrev s_Lazy_choose : Stmt := (inClass (top 46) 4)
abbrev N_Lazy_choose : List Str := ["self", "word", "places", "budgets", "phase"]
theorem sc_Lazy_choose : FnScope N_Lazy_choose ["self", "word", "places", "budgets", "phase"] (defScope s_Lazy_choose) := ⟨rfl, rfl, rfl, by decide +kernel, rfl, by decide +kernel, by decide +kernel⟩
theorem cl_Lazy_choose (T : Bl mg) (Z : EcF P K mg c_StoreError c_InvalidInput c_NoPlace) (R : RdF K mg c_Round) (W_Keeper : Gx.ClsF K mg c_Keeper "Keeper" []) (M_Keeper : Gx.MkZ K c_Keeper) (I_Keeper_Keeper : PySem.W.kitOne K (.ref c_Keeper) (.ref c_Keeper) = some true) (W_Greedy : Gx.ClsF K mg c_Greedy "Greedy" []) (M_Greedy : Gx.MkZ K c_Greedy) (I_Greedy_Keeper : PySem.W.kitOne K (.ref c_Greedy) (.ref c_Keeper) = some true) (W_Lazy : Gx.ClsF K mg c_Lazy "Lazy" ["_mark"]) (I_Lazy_Keeper : PySem.W.kitOne K (.ref c_Lazy) (.ref c_Keeper) = some true) (W_Thrifty : Gx.ClsF K mg c_Thrifty "Thrifty" ["_limit"]) (I_Thrifty_Keeper : PySem.W.kitOne K (.ref c_Thrifty) (.ref c_Keeper) = some true) (W_RuleKeeper : Gx.ClsF K mg c_RuleKeeper "RuleKeeper" ["_rules"]) (I_RuleKeeper_Keeper : PySem.W.kitOne K (.ref c_RuleKeeper) (.ref c_Keeper) = some true) (D : DfM K c_Lazy "choose" "Lazy.choose" s_Lazy_choose [] []) (C_most_allowed : ClG CX0 P w K mg base 7 "_most_allowed" s_most_allowed ["word", "places", "budgets", "phase"] [] [] (spMal c_Round)) (C_check_moment : ClG CX0 P w K mg base 5 "_check_moment" s_check_moment ["word", "places", "phase"] [] [] spCkm) : ClM CX0 P w K mg base 9 c_Lazy "choose" "Lazy.choose" s_Lazy_choose ["self", "word", "places", "budgets", "phase"] [] [] (spLch c_Round c_Lazy) := by
  have nd := sc_Lazy_choose.nd
  refine D.okP sc_Lazy_choose (fun vs H Q E h => ?_) (fun f cdv A outer s H vs Q E hr h => ?_)
  · obtain ⟨x, l, p, a, bs, φ, m, rfl, _⟩ := h
    rfl
  · obtain ⟨x, l, p, a, bs, φ, m, rfl, ⟨hx, hw, h1, h2, h3, ha, hB, h4, h5⟩, k⟩ := h
    have hu := hu64 hr
    refine ⟨_, (pss_cons (ps_expr (pe_g C_check_moment (by exact hr.mono (by decide)) (E := fun _ => E0) (fun σ => passC0 σ) (fun _ _ _ _ _ _ us hl => match us, hl with | [_, _, _], _ => rfl) (pa_cons (pv 1) (pa_cons (pv 2) (pa_cons (pv 4) pa_nil)))))
    (pss_cons (ps_if (pt_cmpR opGt (pe_op opSub (pv 2) (pe_callB (callLenK (K := K) (by rfl)) (by rfl) T.len (by decide +kernel) (pa_cons (pv 1) pa_nil))) (pe_fld (pv 0) rfl) (nomark _))
      (pss_one (ps_ret pe_int))
      pss_nil)
    (pss_one (ps_ret (pe_g C_most_allowed (by exact hr.mono (by decide)) (E := fun _ => E0) (fun σ => passC0 σ) (fun _ _ _ _ _ _ us hl => match us, hl with | [_, _, _, _], _ => rfl) (pa_cons (pv 1) (pa_cons (pv 2) (pa_cons (pv 3) (pa_cons (pv 4) pa_nil))))))))), ?_⟩
    try dsimp only [L2.cxOf, L2.Cx.nox]
    simp only [L2.start, N_Lazy_choose, List.map_cons, List.map_nil, List.length_cons, List.length_nil, Nat.reduceAdd, Nat.reduceSub, List.replicate_succ, List.replicate_zero, List.cons_append, List.nil_append]

    have hl := hw.1
    walk_at "gos"
    · rename_i hI
      unfold lzy at k
      rw [if_pos hI] at k
      exact k
    · rename_i hI
      unfold lzy at k
      rw [if_neg hI] at k
      exact k
def spLabZ (cK : Addr) (z : Str) : Sp := fun vs H Q _ => ∃ (x : Addr), vs = [.ref x] ∧ InC cK [] H x ∧ Q (.str z) H
abbrev s_Keeper_label : Stmt := (inClass (top 44) 1)
abbrev N_Keeper_label : List Str := ["self"]
theorem sc_Keeper_label : FnScope N_Keeper_label ["self"] (defScope s_Keeper_label) := ⟨rfl, rfl, rfl, by decide +kernel, rfl, by decide +kernel, by decide +kernel⟩
theorem cl_Keeper_label (T : Bl mg) (Z : EcF P K mg c_StoreError c_InvalidInput c_NoPlace) (R : RdF K mg c_Round) (W_Keeper : Gx.ClsF K mg c_Keeper "Keeper" []) (M_Keeper : Gx.MkZ K c_Keeper) (I_Keeper_Keeper : PySem.W.kitOne K (.ref c_Keeper) (.ref c_Keeper) = some true) (W_Greedy : Gx.ClsF K mg c_Greedy "Greedy" []) (M_Greedy : Gx.MkZ K c_Greedy) (I_Greedy_Keeper : PySem.W.kitOne K (.ref c_Greedy) (.ref c_Keeper) = some true) (W_Lazy : Gx.ClsF K mg c_Lazy "Lazy" ["_mark"]) (I_Lazy_Keeper : PySem.W.kitOne K (.ref c_Lazy) (.ref c_Keeper) = some true) (W_Thrifty : Gx.ClsF K mg c_Thrifty "Thrifty" ["_limit"]) (I_Thrifty_Keeper : PySem.W.kitOne K (.ref c_Thrifty) (.ref c_Keeper) = some true) (W_RuleKeeper : Gx.ClsF K mg c_RuleKeeper "RuleKeeper" ["_rules"]) (I_RuleKeeper_Keeper : PySem.W.kitOne K (.ref c_RuleKeeper) (.ref c_Keeper) = some true) (D : DfM K c_Keeper "label" "Keeper.label" s_Keeper_label [] [])  : ClM CX0 P w K mg base 3 c_Keeper "label" "Keeper.label" s_Keeper_label ["self"] [] [] (spLabZ c_Keeper "rest") := by
  have nd := sc_Keeper_label.nd
  refine D.okP sc_Keeper_label (fun vs H Q E h => ?_) (fun f cdv A outer s H vs Q E hr h => ?_)
  · obtain ⟨x, rfl, _⟩ := h
    rfl
  · obtain ⟨x, rfl, hx, k⟩ := h
    have hu := hu64 hr
    refine ⟨_, (pss_one (ps_ret pe_str)), ?_⟩
    try dsimp only [L2.cxOf, L2.Cx.nox]
    simp only [L2.start, N_Keeper_label, List.map_cons, List.map_nil, List.length_cons, List.length_nil, Nat.reduceAdd, Nat.reduceSub, List.replicate_succ, List.replicate_zero, List.cons_append, List.nil_append]

    walk_at "go"
    exact k
abbrev s_Greedy_label : Stmt := (inClass (top 45) 1)
abbrev N_Greedy_label : List Str := ["self"]
theorem sc_Greedy_label : FnScope N_Greedy_label ["self"] (defScope s_Greedy_label) := ⟨rfl, rfl, rfl, by decide +kernel, rfl, by decide +kernel, by decide +kernel⟩
theorem cl_Greedy_label (T : Bl mg) (Z : EcF P K mg c_StoreError c_InvalidInput c_NoPlace) (R : RdF K mg c_Round) (W_Keeper : Gx.ClsF K mg c_Keeper "Keeper" []) (M_Keeper : Gx.MkZ K c_Keeper) (I_Keeper_Keeper : PySem.W.kitOne K (.ref c_Keeper) (.ref c_Keeper) = some true) (W_Greedy : Gx.ClsF K mg c_Greedy "Greedy" []) (M_Greedy : Gx.MkZ K c_Greedy) (I_Greedy_Keeper : PySem.W.kitOne K (.ref c_Greedy) (.ref c_Keeper) = some true) (W_Lazy : Gx.ClsF K mg c_Lazy "Lazy" ["_mark"]) (I_Lazy_Keeper : PySem.W.kitOne K (.ref c_Lazy) (.ref c_Keeper) = some true) (W_Thrifty : Gx.ClsF K mg c_Thrifty "Thrifty" ["_limit"]) (I_Thrifty_Keeper : PySem.W.kitOne K (.ref c_Thrifty) (.ref c_Keeper) = some true) (W_RuleKeeper : Gx.ClsF K mg c_RuleKeeper "RuleKeeper" ["_rules"]) (I_RuleKeeper_Keeper : PySem.W.kitOne K (.ref c_RuleKeeper) (.ref c_Keeper) = some true) (D : DfM K c_Greedy "label" "Greedy.label" s_Greedy_label [] [])  : ClM CX0 P w K mg base 3 c_Greedy "label" "Greedy.label" s_Greedy_label ["self"] [] [] (spLabZ c_Greedy "greedy") := by
  have nd := sc_Greedy_label.nd
  refine D.okP sc_Greedy_label (fun vs H Q E h => ?_) (fun f cdv A outer s H vs Q E hr h => ?_)
  · obtain ⟨x, rfl, _⟩ := h
    rfl
  · obtain ⟨x, rfl, hx, k⟩ := h
    have hu := hu64 hr
    refine ⟨_, (pss_one (ps_ret pe_str)), ?_⟩
    try dsimp only [L2.cxOf, L2.Cx.nox]
    simp only [L2.start, N_Greedy_label, List.map_cons, List.map_nil, List.length_cons, List.length_nil, Nat.reduceAdd, Nat.reduceSub, List.replicate_succ, List.replicate_zero, List.cons_append, List.nil_append]

    walk_at "go"
    exact k
def spLabI (cK : Addr) (f z : Str) : Sp := fun vs H Q _ => ∃ (x : Addr) (i : Int), vs = [.ref x] ∧ (InC cK [(f, .int i)] H x ∧ -(2 ^ 200) < i ∧ i < 2 ^ 200) ∧ Q (.str (z ++ Str.ofString (toString i))) H
abbrev s_Lazy_label : Stmt := (inClass (top 46) 5)
abbrev N_Lazy_label : List Str := ["self"]
theorem sc_Lazy_label : FnScope N_Lazy_label ["self"] (defScope s_Lazy_label) := ⟨rfl, rfl, rfl, by decide +kernel, rfl, by decide +kernel, by decide +kernel⟩
theorem cl_Lazy_label (T : Bl mg) (Z : EcF P K mg c_StoreError c_InvalidInput c_NoPlace) (R : RdF K mg c_Round) (W_Keeper : Gx.ClsF K mg c_Keeper "Keeper" []) (M_Keeper : Gx.MkZ K c_Keeper) (I_Keeper_Keeper : PySem.W.kitOne K (.ref c_Keeper) (.ref c_Keeper) = some true) (W_Greedy : Gx.ClsF K mg c_Greedy "Greedy" []) (M_Greedy : Gx.MkZ K c_Greedy) (I_Greedy_Keeper : PySem.W.kitOne K (.ref c_Greedy) (.ref c_Keeper) = some true) (W_Lazy : Gx.ClsF K mg c_Lazy "Lazy" ["_mark"]) (I_Lazy_Keeper : PySem.W.kitOne K (.ref c_Lazy) (.ref c_Keeper) = some true) (W_Thrifty : Gx.ClsF K mg c_Thrifty "Thrifty" ["_limit"]) (I_Thrifty_Keeper : PySem.W.kitOne K (.ref c_Thrifty) (.ref c_Keeper) = some true) (W_RuleKeeper : Gx.ClsF K mg c_RuleKeeper "RuleKeeper" ["_rules"]) (I_RuleKeeper_Keeper : PySem.W.kitOne K (.ref c_RuleKeeper) (.ref c_Keeper) = some true) (D : DfM K c_Lazy "label" "Lazy.label" s_Lazy_label [] [])  : ClM CX0 P w K mg base 3 c_Lazy "label" "Lazy.label" s_Lazy_label ["self"] [] [] (spLabI c_Lazy "_mark" "lazy ") := by
  have nd := sc_Lazy_label.nd
  refine D.okP sc_Lazy_label (fun vs H Q E h => ?_) (fun f cdv A outer s H vs Q E hr h => ?_)
  · obtain ⟨x, i, rfl, _⟩ := h
    rfl
  · obtain ⟨x, i, rfl, ⟨hx, h1, h2⟩, k⟩ := h
    have hu := hu64 hr
    refine ⟨_, (pss_one (ps_ret (pe_fs (.cons pe_str (.cons (pe_fmt (pe_fld (pv 0) rfl)) .nil))))), ?_⟩
    try dsimp only [L2.cxOf, L2.Cx.nox]
    simp only [L2.start, N_Lazy_label, List.map_cons, List.map_nil, List.length_cons, List.length_nil, Nat.reduceAdd, Nat.reduceSub, List.replicate_succ, List.replicate_zero, List.cons_append, List.nil_append]

    walk_at "go"
    rw [e_app]
    exact k
abbrev s_Thrifty_label : Stmt := (inClass (top 47) 3)
abbrev N_Thrifty_label : List Str := ["self"]
theorem sc_Thrifty_label : FnScope N_Thrifty_label ["self"] (defScope s_Thrifty_label) := ⟨rfl, rfl, rfl, by decide +kernel, rfl, by decide +kernel, by decide +kernel⟩
theorem cl_Thrifty_label (T : Bl mg) (Z : EcF P K mg c_StoreError c_InvalidInput c_NoPlace) (R : RdF K mg c_Round) (W_Keeper : Gx.ClsF K mg c_Keeper "Keeper" []) (M_Keeper : Gx.MkZ K c_Keeper) (I_Keeper_Keeper : PySem.W.kitOne K (.ref c_Keeper) (.ref c_Keeper) = some true) (W_Greedy : Gx.ClsF K mg c_Greedy "Greedy" []) (M_Greedy : Gx.MkZ K c_Greedy) (I_Greedy_Keeper : PySem.W.kitOne K (.ref c_Greedy) (.ref c_Keeper) = some true) (W_Lazy : Gx.ClsF K mg c_Lazy "Lazy" ["_mark"]) (I_Lazy_Keeper : PySem.W.kitOne K (.ref c_Lazy) (.ref c_Keeper) = some true) (W_Thrifty : Gx.ClsF K mg c_Thrifty "Thrifty" ["_limit"]) (I_Thrifty_Keeper : PySem.W.kitOne K (.ref c_Thrifty) (.ref c_Keeper) = some true) (W_RuleKeeper : Gx.ClsF K mg c_RuleKeeper "RuleKeeper" ["_rules"]) (I_RuleKeeper_Keeper : PySem.W.kitOne K (.ref c_RuleKeeper) (.ref c_Keeper) = some true) (D : DfM K c_Thrifty "label" "Thrifty.label" s_Thrifty_label [] [])  : ClM CX0 P w K mg base 3 c_Thrifty "label" "Thrifty.label" s_Thrifty_label ["self"] [] [] (spLabI c_Thrifty "_limit" "thrifty ") := by
  have nd := sc_Thrifty_label.nd
  refine D.okP sc_Thrifty_label (fun vs H Q E h => ?_) (fun f cdv A outer s H vs Q E hr h => ?_)
  · obtain ⟨x, i, rfl, _⟩ := h
    rfl
  · obtain ⟨x, i, rfl, ⟨hx, h1, h2⟩, k⟩ := h
    have hu := hu64 hr
    refine ⟨_, (pss_one (ps_ret (pe_fs (.cons pe_str (.cons (pe_fmt (pe_fld (pv 0) rfl)) .nil))))), ?_⟩
    try dsimp only [L2.cxOf, L2.Cx.nox]
    simp only [L2.start, N_Thrifty_label, List.map_cons, List.map_nil, List.length_cons, List.length_nil, Nat.reduceAdd, Nat.reduceSub, List.replicate_succ, List.replicate_zero, List.cons_append, List.nil_append]

    walk_at "go"
    rw [e_app]
    exact k

abbrev Rai (cI : Addr) (f : Str) (H : Hp) (E : XK) : Prop := ∀ d H', Nw H d → Ex H H' → At H' d (.xd [("field", .str f)]) → E (.ref cI) (some d) H'
/-- what is due of a text that should be a word -/
def DueW (fw : Str) (z : Str) (g : List Bool → Option Str) (f : Option Str) : Prop := (¬ Good z ∧ f = some fw) ∨ ∃ l : List Bool, z = tx l ∧ l.head? ≠ some false ∧ f = g l
theorem DueW.bad {fw f : Str} {z : Str} {g : List Bool → Option Str} (hg : ¬ Good z) (h : DueW fw z g (some f)) : f = fw := by
  rcases h with ⟨_, h⟩ | ⟨l, rfl, hl, _⟩
  · cases h; rfl
  · exact absurd ⟨l, rfl, hl⟩ hg
theorem DueW.good {fw f : Str} {z : Str} {g : List Bool → Option Str} (hg : Good z) (h : DueW fw z g (some f)) : ∃ l, z = tx l ∧ l.head? ≠ some false ∧ g l = some f := by
  rcases h with ⟨h, _⟩ | ⟨l, h1, hl, h2⟩
  · exact absurd hg h
  · exact ⟨l, h1, hl, h2.symm⟩
def fMo (p φ : Int) (l : List Bool) : Option Str := if p < 1 then some "places" else if φ < 0 then some "phase" else if p < (l.length : Nat) then some "places" else none
def spCmX (cI : Addr) : Sp := fun vs H Q E => ∃ (z : Str) (p φ : Int) (f : Str), vs = [.str z, .int p, .int φ] ∧ (z.length ≤ 1000 ∧ DueW "word" z (fMo p φ) (some f)) ∧ Rai cI f H E
abbrev s_check_moment_X : Stmt := (top 36)
abbrev N_check_moment_X : List Str := ["word", "places", "phase"]
theorem sc_check_moment_X : FnScope N_check_moment_X ["word", "places", "phase"] (defScope s_check_moment_X) := ⟨rfl, rfl, rfl, by decide +kernel, rfl, by decide +kernel, by decide +kernel⟩
theorem cl_check_moment_X (T : Bl mg) (Z : EcF P K mg c_StoreError c_InvalidInput c_NoPlace) (R : RdF K mg c_Round) (W_Keeper : Gx.ClsF K mg c_Keeper "Keeper" []) (M_Keeper : Gx.MkZ K c_Keeper) (I_Keeper_Keeper : PySem.W.kitOne K (.ref c_Keeper) (.ref c_Keeper) = some true) (W_Greedy : Gx.ClsF K mg c_Greedy "Greedy" []) (M_Greedy : Gx.MkZ K c_Greedy) (I_Greedy_Keeper : PySem.W.kitOne K (.ref c_Greedy) (.ref c_Keeper) = some true) (W_Lazy : Gx.ClsF K mg c_Lazy "Lazy" ["_mark"]) (I_Lazy_Keeper : PySem.W.kitOne K (.ref c_Lazy) (.ref c_Keeper) = some true) (W_Thrifty : Gx.ClsF K mg c_Thrifty "Thrifty" ["_limit"]) (I_Thrifty_Keeper : PySem.W.kitOne K (.ref c_Thrifty) (.ref c_Keeper) = some true) (W_RuleKeeper : Gx.ClsF K mg c_RuleKeeper "RuleKeeper" ["_rules"]) (I_RuleKeeper_Keeper : PySem.W.kitOne K (.ref c_RuleKeeper) (.ref c_Keeper) = some true) (D : DfG K mg "_check_moment" s_check_moment_X [] []) (C_at_least_X : ClG (L2.CX P w) P w K mg base 3 "at_least" s_at_least_X ["value", "least", "field"] [] [] (spAtlX c_InvalidInput)) (C_good_word_X : ClG (L2.CX P w) P w K mg base 3 "good_word" s_good_word_X ["word", "field"] [] [] (spGw c_InvalidInput)) : ClG (L2.CX P w) P w K mg base 5 "_check_moment" s_check_moment_X ["word", "places", "phase"] [] [] (spCmX c_InvalidInput) := by
  have nd := sc_check_moment_X.nd
  refine D.ok sc_check_moment_X (fun vs H Q E h => ?_) (fun f cdv A outer s H vs Q E hr h => ?_)
  · obtain ⟨z, p, φ, f, rfl, _⟩ := h
    rfl
  · obtain ⟨z, p, φ, f, rfl, ⟨hz, hd⟩, k⟩ := h
    have hu := hu64 hr
    refine ⟨_, (pss_cons (ps_expr (pe_g C_good_word_X (by exact hr.mono (by decide)) (fun σ => passC takesX σ) (fun _ _ _ _ _ _ us hl => match us, hl with | [_, _], _ => rfl) (pa_cons (pv 0) (pa_cons pe_str pa_nil))))
    (pss_cons (ps_expr (pe_g C_at_least_X (by exact hr.mono (by decide)) (fun σ => passC takesX σ) (fun _ _ _ _ _ _ us hl => match us, hl with | [_, _, _], _ => rfl) (pa_cons (pv 1) (pa_cons pe_int (pa_cons pe_str pa_nil)))))
    (pss_cons (ps_expr (pe_g C_at_least_X (by exact hr.mono (by decide)) (fun σ => passC takesX σ) (fun _ _ _ _ _ _ us hl => match us, hl with | [_, _, _], _ => rfl) (pa_cons (pv 2) (pa_cons pe_int (pa_cons pe_str pa_nil)))))
    (pss_cons (ps_expr (pe_g C_at_least_X (by exact hr.mono (by decide)) (fun σ => passC takesX σ) (fun _ _ _ _ _ _ us hl => match us, hl with | [_, _, _], _ => rfl) (pa_cons (pv 1) (pa_cons (pe_callB (callLenK (K := K) (by rfl)) (by rfl) T.len (by decide +kernel) (pa_cons (pv 0) pa_nil)) (pa_cons pe_str pa_nil)))))
    pss_dead)))), ?_⟩
    try dsimp only [L2.cxOf, L2.Cx.nox]
    simp only [L2.start, N_check_moment_X, List.map_cons, List.map_nil, List.length_cons, List.length_nil, Nat.reduceAdd, Nat.reduceSub, List.replicate_succ, List.replicate_zero, List.cons_append, List.nil_append]

    by_cases hg : Good z
    · obtain ⟨l, rfl, hl, hf⟩ := hd.good hg
      rw [tx_len] at hz
      have hz2 : (tx l).length ≤ 1000 := by rw [tx_len]; exact hz
      clear hd
      walk_at "go"
      all_goals first
        | exact absurd hg (by assumption)
        | (unfold fMo at hf; repeat' (split at hf))
      all_goals first
        | (cases hf; done)
        | (cases hf; exact k _ _ Gx.new Gx.rel Gx.at_)
        | (exfalso; omega)
    · obtain rfl := hd.bad hg
      walk_at "go"
      all_goals first
        | exact absurd (by assumption) hg
        | exact k _ _ Gx.new Gx.rel Gx.at_
def spChX (cI : Addr) : Sp := fun vs H Q E => ∃ (x a : Addr) (z : Str) (p φ : Int) (f : Str), vs = [.ref x, .str z, .int p, .ref a, .int φ] ∧ (z.length ≤ 1000 ∧ DueW "word" z (fMo p φ) (some f)) ∧ Rai cI f H E
abbrev s_Keeper_choose_X : Stmt := (inClass (top 44) 0)
abbrev N_Keeper_choose_X : List Str := ["self", "word", "places", "budgets", "phase"]
theorem sc_Keeper_choose_X : FnScope N_Keeper_choose_X ["self", "word", "places", "budgets", "phase"] (defScope s_Keeper_choose_X) := ⟨rfl, rfl, rfl, by decide +kernel, rfl, by decide +kernel, by decide +kernel⟩
theorem cl_Keeper_choose_X (T : Bl mg) (Z : EcF P K mg c_StoreError c_InvalidInput c_NoPlace) (R : RdF K mg c_Round) (W_Keeper : Gx.ClsF K mg c_Keeper "Keeper" []) (M_Keeper : Gx.MkZ K c_Keeper) (I_Keeper_Keeper : PySem.W.kitOne K (.ref c_Keeper) (.ref c_Keeper) = some true) (W_Greedy : Gx.ClsF K mg c_Greedy "Greedy" []) (M_Greedy : Gx.MkZ K c_Greedy) (I_Greedy_Keeper : PySem.W.kitOne K (.ref c_Greedy) (.ref c_Keeper) = some true) (W_Lazy : Gx.ClsF K mg c_Lazy "Lazy" ["_mark"]) (I_Lazy_Keeper : PySem.W.kitOne K (.ref c_Lazy) (.ref c_Keeper) = some true) (W_Thrifty : Gx.ClsF K mg c_Thrifty "Thrifty" ["_limit"]) (I_Thrifty_Keeper : PySem.W.kitOne K (.ref c_Thrifty) (.ref c_Keeper) = some true) (W_RuleKeeper : Gx.ClsF K mg c_RuleKeeper "RuleKeeper" ["_rules"]) (I_RuleKeeper_Keeper : PySem.W.kitOne K (.ref c_RuleKeeper) (.ref c_Keeper) = some true) (D : DfM K c_Keeper "choose" "Keeper.choose" s_Keeper_choose_X [] []) (C_check_moment_X : ClG (L2.CX P w) P w K mg base 5 "_check_moment" s_check_moment_X ["word", "places", "phase"] [] [] (spCmX c_InvalidInput)) : ClM (L2.CX P w) P w K mg base 7 c_Keeper "choose" "Keeper.choose" s_Keeper_choose_X ["self", "word", "places", "budgets", "phase"] [] [] (spChX c_InvalidInput) := by
  have nd := sc_Keeper_choose_X.nd
  refine D.ok sc_Keeper_choose_X (fun vs H Q E h => ?_) (fun f cdv A outer s H vs Q E hr h => ?_)
  · obtain ⟨x, a, z, p, φ, f, rfl, _⟩ := h
    rfl
  · obtain ⟨x, a, z, p, φ, f, rfl, ⟨hz, hd⟩, k⟩ := h
    have hu := hu64 hr
    refine ⟨_, (pss_cons (ps_expr (pe_g C_check_moment_X (by exact hr.mono (by decide)) (fun σ => passC takesX σ) (fun _ _ _ _ _ _ us hl => match us, hl with | [_, _, _], _ => rfl) (pa_cons (pv 1) (pa_cons (pv 2) (pa_cons (pv 4) pa_nil)))))
    pss_dead), ?_⟩
    try dsimp only [L2.cxOf, L2.Cx.nox]
    simp only [L2.start, N_Keeper_choose_X, List.map_cons, List.map_nil, List.length_cons, List.length_nil, Nat.reduceAdd, Nat.reduceSub, List.replicate_succ, List.replicate_zero, List.cons_append, List.nil_append]

    walk_at "go"
    exact ⟨z, p, φ, f, rfl, ⟨hz, hd⟩, fun d H1 n1 e1 h1 => k _ _ n1 e1 h1⟩
abbrev s_Greedy_choose_X : Stmt := (inClass (top 45) 0)
abbrev N_Greedy_choose_X : List Str := ["self", "word", "places", "budgets", "phase"]
theorem sc_Greedy_choose_X : FnScope N_Greedy_choose_X ["self", "word", "places", "budgets", "phase"] (defScope s_Greedy_choose_X) := ⟨rfl, rfl, rfl, by decide +kernel, rfl, by decide +kernel, by decide +kernel⟩
theorem cl_Greedy_choose_X (T : Bl mg) (Z : EcF P K mg c_StoreError c_InvalidInput c_NoPlace) (R : RdF K mg c_Round) (W_Keeper : Gx.ClsF K mg c_Keeper "Keeper" []) (M_Keeper : Gx.MkZ K c_Keeper) (I_Keeper_Keeper : PySem.W.kitOne K (.ref c_Keeper) (.ref c_Keeper) = some true) (W_Greedy : Gx.ClsF K mg c_Greedy "Greedy" []) (M_Greedy : Gx.MkZ K c_Greedy) (I_Greedy_Keeper : PySem.W.kitOne K (.ref c_Greedy) (.ref c_Keeper) = some true) (W_Lazy : Gx.ClsF K mg c_Lazy "Lazy" ["_mark"]) (I_Lazy_Keeper : PySem.W.kitOne K (.ref c_Lazy) (.ref c_Keeper) = some true) (W_Thrifty : Gx.ClsF K mg c_Thrifty "Thrifty" ["_limit"]) (I_Thrifty_Keeper : PySem.W.kitOne K (.ref c_Thrifty) (.ref c_Keeper) = some true) (W_RuleKeeper : Gx.ClsF K mg c_RuleKeeper "RuleKeeper" ["_rules"]) (I_RuleKeeper_Keeper : PySem.W.kitOne K (.ref c_RuleKeeper) (.ref c_Keeper) = some true) (D : DfM K c_Greedy "choose" "Greedy.choose" s_Greedy_choose_X [] []) (C_check_moment_X : ClG (L2.CX P w) P w K mg base 5 "_check_moment" s_check_moment_X ["word", "places", "phase"] [] [] (spCmX c_InvalidInput)) : ClM (L2.CX P w) P w K mg base 7 c_Greedy "choose" "Greedy.choose" s_Greedy_choose_X ["self", "word", "places", "budgets", "phase"] [] [] (spChX c_InvalidInput) := by
  have nd := sc_Greedy_choose_X.nd
  refine D.ok sc_Greedy_choose_X (fun vs H Q E h => ?_) (fun f cdv A outer s H vs Q E hr h => ?_)
  · obtain ⟨x, a, z, p, φ, f, rfl, _⟩ := h
    rfl
  · obtain ⟨x, a, z, p, φ, f, rfl, ⟨hz, hd⟩, k⟩ := h
    have hu := hu64 hr
    refine ⟨_, (pss_cons (ps_expr (pe_g C_check_moment_X (by exact hr.mono (by decide)) (fun σ => passC takesX σ) (fun _ _ _ _ _ _ us hl => match us, hl with | [_, _, _], _ => rfl) (pa_cons (pv 1) (pa_cons (pv 2) (pa_cons (pv 4) pa_nil)))))
    pss_dead), ?_⟩
    try dsimp only [L2.cxOf, L2.Cx.nox]
    simp only [L2.start, N_Greedy_choose_X, List.map_cons, List.map_nil, List.length_cons, List.length_nil, Nat.reduceAdd, Nat.reduceSub, List.replicate_succ, List.replicate_zero, List.cons_append, List.nil_append]

    walk_at "go"
    exact ⟨z, p, φ, f, rfl, ⟨hz, hd⟩, fun d H1 n1 e1 h1 => k _ _ n1 e1 h1⟩
abbrev s_Lazy_choose_X : Stmt := (inClass (top 46) 4)
abbrev N_Lazy_choose_X : List Str := ["self", "word", "places", "budgets", "phase"]
theorem sc_Lazy_choose_X : FnScope N_Lazy_choose_X ["self", "word", "places", "budgets", "phase"] (defScope s_Lazy_choose_X) := ⟨rfl, rfl, rfl, by decide +kernel, rfl, by decide +kernel, by decide +kernel⟩
theorem cl_Lazy_choose_X (T : Bl mg) (Z : EcF P K mg c_StoreError c_InvalidInput c_NoPlace) (R : RdF K mg c_Round) (W_Keeper : Gx.ClsF K mg c_Keeper "Keeper" []) (M_Keeper : Gx.MkZ K c_Keeper) (I_Keeper_Keeper : PySem.W.kitOne K (.ref c_Keeper) (.ref c_Keeper) = some true) (W_Greedy : Gx.ClsF K mg c_Greedy "Greedy" []) (M_Greedy : Gx.MkZ K c_Greedy) (I_Greedy_Keeper : PySem.W.kitOne K (.ref c_Greedy) (.ref c_Keeper) = some true) (W_Lazy : Gx.ClsF K mg c_Lazy "Lazy" ["_mark"]) (I_Lazy_Keeper : PySem.W.kitOne K (.ref c_Lazy) (.ref c_Keeper) = some true) (W_Thrifty : Gx.ClsF K mg c_Thrifty "Thrifty" ["_limit"]) (I_Thrifty_Keeper : PySem.W.kitOne K (.ref c_Thrifty) (.ref c_Keeper) = some true) (W_RuleKeeper : Gx.ClsF K mg c_RuleKeeper "RuleKeeper" ["_rules"]) (I_RuleKeeper_Keeper : PySem.W.kitOne K (.ref c_RuleKeeper) (.ref c_Keeper) = some true) (D : DfM K c_Lazy "choose" "Lazy.choose" s_Lazy_choose_X [] []) (C_check_moment_X : ClG (L2.CX P w) P w K mg base 5 "_check_moment" s_check_moment_X ["word", "places", "phase"] [] [] (spCmX c_InvalidInput)) : ClM (L2.CX P w) P w K mg base 7 c_Lazy "choose" "Lazy.choose" s_Lazy_choose_X ["self", "word", "places", "budgets", "phase"] [] [] (spChX c_InvalidInput) := by
  have nd := sc_Lazy_choose_X.nd
  refine D.ok sc_Lazy_choose_X (fun vs H Q E h => ?_) (fun f cdv A outer s H vs Q E hr h => ?_)
  · obtain ⟨x, a, z, p, φ, f, rfl, _⟩ := h
    rfl
  · obtain ⟨x, a, z, p, φ, f, rfl, ⟨hz, hd⟩, k⟩ := h
    have hu := hu64 hr
    refine ⟨_, (pss_cons (ps_expr (pe_g C_check_moment_X (by exact hr.mono (by decide)) (fun σ => passC takesX σ) (fun _ _ _ _ _ _ us hl => match us, hl with | [_, _, _], _ => rfl) (pa_cons (pv 1) (pa_cons (pv 2) (pa_cons (pv 4) pa_nil)))))
    pss_dead), ?_⟩
    try dsimp only [L2.cxOf, L2.Cx.nox]
    simp only [L2.start, N_Lazy_choose_X, List.map_cons, List.map_nil, List.length_cons, List.length_nil, Nat.reduceAdd, Nat.reduceSub, List.replicate_succ, List.replicate_zero, List.cons_append, List.nil_append]

    walk_at "go"
    exact ⟨z, p, φ, f, rfl, ⟨hz, hd⟩, fun d H1 n1 e1 h1 => k _ _ n1 e1 h1⟩
abbrev s_Thrifty_choose_X : Stmt := (inClass (top 47) 1)
abbrev N_Thrifty_choose_X : List Str := ["self", "word", "places", "budgets", "phase", "most", "next_phase", "carried_word", "count"]
theorem sc_Thrifty_choose_X : FnScope N_Thrifty_choose_X ["self", "word", "places", "budgets", "phase"] (defScope s_Thrifty_choose_X) := ⟨rfl, rfl, rfl, by decide +kernel, rfl, by decide +kernel, by decide +kernel⟩
theorem cl_Thrifty_choose_X (T : Bl mg) (Z : EcF P K mg c_StoreError c_InvalidInput c_NoPlace) (R : RdF K mg c_Round) (W_Keeper : Gx.ClsF K mg c_Keeper "Keeper" []) (M_Keeper : Gx.MkZ K c_Keeper) (I_Keeper_Keeper : PySem.W.kitOne K (.ref c_Keeper) (.ref c_Keeper) = some true) (W_Greedy : Gx.ClsF K mg c_Greedy "Greedy" []) (M_Greedy : Gx.MkZ K c_Greedy) (I_Greedy_Keeper : PySem.W.kitOne K (.ref c_Greedy) (.ref c_Keeper) = some true) (W_Lazy : Gx.ClsF K mg c_Lazy "Lazy" ["_mark"]) (I_Lazy_Keeper : PySem.W.kitOne K (.ref c_Lazy) (.ref c_Keeper) = some true) (W_Thrifty : Gx.ClsF K mg c_Thrifty "Thrifty" ["_limit"]) (I_Thrifty_Keeper : PySem.W.kitOne K (.ref c_Thrifty) (.ref c_Keeper) = some true) (W_RuleKeeper : Gx.ClsF K mg c_RuleKeeper "RuleKeeper" ["_rules"]) (I_RuleKeeper_Keeper : PySem.W.kitOne K (.ref c_RuleKeeper) (.ref c_Keeper) = some true) (D : DfM K c_Thrifty "choose" "Thrifty.choose" s_Thrifty_choose_X [] []) (C_check_moment_X : ClG (L2.CX P w) P w K mg base 5 "_check_moment" s_check_moment_X ["word", "places", "phase"] [] [] (spCmX c_InvalidInput)) : ClM (L2.CX P w) P w K mg base 7 c_Thrifty "choose" "Thrifty.choose" s_Thrifty_choose_X ["self", "word", "places", "budgets", "phase"] [] [] (spChX c_InvalidInput) := by
  have nd := sc_Thrifty_choose_X.nd
  refine D.ok sc_Thrifty_choose_X (fun vs H Q E h => ?_) (fun f cdv A outer s H vs Q E hr h => ?_)
  · obtain ⟨x, a, z, p, φ, f, rfl, _⟩ := h
    rfl
  · obtain ⟨x, a, z, p, φ, f, rfl, ⟨hz, hd⟩, k⟩ := h
    have hu := hu64 hr
    refine ⟨_, (pss_cons (ps_expr (pe_g C_check_moment_X (by exact hr.mono (by decide)) (fun σ => passC takesX σ) (fun _ _ _ _ _ _ us hl => match us, hl with | [_, _, _], _ => rfl) (pa_cons (pv 1) (pa_cons (pv 2) (pa_cons (pv 4) pa_nil)))))
    pss_dead), ?_⟩
    try dsimp only [L2.cxOf, L2.Cx.nox]
    simp only [L2.start, N_Thrifty_choose_X, List.map_cons, List.map_nil, List.length_cons, List.length_nil, Nat.reduceAdd, Nat.reduceSub, List.replicate_succ, List.replicate_zero, List.cons_append, List.nil_append]

    walk_at "go"
    exact ⟨z, p, φ, f, rfl, ⟨hz, hd⟩, fun d H1 n1 e1 h1 => k _ _ n1 e1 h1⟩
abbrev s_RuleKeeper_choose_X : Stmt := (inClass (top 48) 1)
abbrev N_RuleKeeper_choose_X : List Str := ["self", "word", "places", "budgets", "phase", "most", "budget", "condition", "amount"]
theorem sc_RuleKeeper_choose_X : FnScope N_RuleKeeper_choose_X ["self", "word", "places", "budgets", "phase"] (defScope s_RuleKeeper_choose_X) := ⟨rfl, rfl, rfl, by decide +kernel, rfl, by decide +kernel, by decide +kernel⟩
theorem cl_RuleKeeper_choose_X (T : Bl mg) (Z : EcF P K mg c_StoreError c_InvalidInput c_NoPlace) (R : RdF K mg c_Round) (W_Keeper : Gx.ClsF K mg c_Keeper "Keeper" []) (M_Keeper : Gx.MkZ K c_Keeper) (I_Keeper_Keeper : PySem.W.kitOne K (.ref c_Keeper) (.ref c_Keeper) = some true) (W_Greedy : Gx.ClsF K mg c_Greedy "Greedy" []) (M_Greedy : Gx.MkZ K c_Greedy) (I_Greedy_Keeper : PySem.W.kitOne K (.ref c_Greedy) (.ref c_Keeper) = some true) (W_Lazy : Gx.ClsF K mg c_Lazy "Lazy" ["_mark"]) (I_Lazy_Keeper : PySem.W.kitOne K (.ref c_Lazy) (.ref c_Keeper) = some true) (W_Thrifty : Gx.ClsF K mg c_Thrifty "Thrifty" ["_limit"]) (I_Thrifty_Keeper : PySem.W.kitOne K (.ref c_Thrifty) (.ref c_Keeper) = some true) (W_RuleKeeper : Gx.ClsF K mg c_RuleKeeper "RuleKeeper" ["_rules"]) (I_RuleKeeper_Keeper : PySem.W.kitOne K (.ref c_RuleKeeper) (.ref c_Keeper) = some true) (D : DfM K c_RuleKeeper "choose" "RuleKeeper.choose" s_RuleKeeper_choose_X [] []) (C_check_moment_X : ClG (L2.CX P w) P w K mg base 5 "_check_moment" s_check_moment_X ["word", "places", "phase"] [] [] (spCmX c_InvalidInput)) : ClM (L2.CX P w) P w K mg base 7 c_RuleKeeper "choose" "RuleKeeper.choose" s_RuleKeeper_choose_X ["self", "word", "places", "budgets", "phase"] [] [] (spChX c_InvalidInput) := by
  have nd := sc_RuleKeeper_choose_X.nd
  refine D.ok sc_RuleKeeper_choose_X (fun vs H Q E h => ?_) (fun f cdv A outer s H vs Q E hr h => ?_)
  · obtain ⟨x, a, z, p, φ, f, rfl, _⟩ := h
    rfl
  · obtain ⟨x, a, z, p, φ, f, rfl, ⟨hz, hd⟩, k⟩ := h
    have hu := hu64 hr
    refine ⟨_, (pss_cons (ps_expr (pe_g C_check_moment_X (by exact hr.mono (by decide)) (fun σ => passC takesX σ) (fun _ _ _ _ _ _ us hl => match us, hl with | [_, _, _], _ => rfl) (pa_cons (pv 1) (pa_cons (pv 2) (pa_cons (pv 4) pa_nil)))))
    pss_dead), ?_⟩
    try dsimp only [L2.cxOf, L2.Cx.nox]
    simp only [L2.start, N_RuleKeeper_choose_X, List.map_cons, List.map_nil, List.length_cons, List.length_nil, Nat.reduceAdd, Nat.reduceSub, List.replicate_succ, List.replicate_zero, List.cons_append, List.nil_append]

    walk_at "go"
    exact ⟨z, p, φ, f, rfl, ⟨hz, hd⟩, fun d H1 n1 e1 h1 => k _ _ n1 e1 h1⟩
def spFiX (cI : Addr) (f : Str) (b : Int) : Sp := fun vs H Q E => ∃ (x : Addr) (m : Int), vs = [.ref x, .int m] ∧ m < b ∧ Rai cI f H E
abbrev s_Lazy___init___X : Stmt := (inClass (top 46) 0)
abbrev N_Lazy___init___X : List Str := ["self", "mark"]
theorem sc_Lazy___init___X : FnScope N_Lazy___init___X ["self", "mark"] (defScope s_Lazy___init___X) := ⟨rfl, rfl, rfl, by decide +kernel, rfl, by decide +kernel, by decide +kernel⟩
theorem cl_Lazy___init___X (T : Bl mg) (Z : EcF P K mg c_StoreError c_InvalidInput c_NoPlace) (R : RdF K mg c_Round) (W_Keeper : Gx.ClsF K mg c_Keeper "Keeper" []) (M_Keeper : Gx.MkZ K c_Keeper) (I_Keeper_Keeper : PySem.W.kitOne K (.ref c_Keeper) (.ref c_Keeper) = some true) (W_Greedy : Gx.ClsF K mg c_Greedy "Greedy" []) (M_Greedy : Gx.MkZ K c_Greedy) (I_Greedy_Keeper : PySem.W.kitOne K (.ref c_Greedy) (.ref c_Keeper) = some true) (W_Lazy : Gx.ClsF K mg c_Lazy "Lazy" ["_mark"]) (I_Lazy_Keeper : PySem.W.kitOne K (.ref c_Lazy) (.ref c_Keeper) = some true) (W_Thrifty : Gx.ClsF K mg c_Thrifty "Thrifty" ["_limit"]) (I_Thrifty_Keeper : PySem.W.kitOne K (.ref c_Thrifty) (.ref c_Keeper) = some true) (W_RuleKeeper : Gx.ClsF K mg c_RuleKeeper "RuleKeeper" ["_rules"]) (I_RuleKeeper_Keeper : PySem.W.kitOne K (.ref c_RuleKeeper) (.ref c_Keeper) = some true) (D : Gx.DfC K c_Lazy "Lazy.__init__" s_Lazy___init___X [] []) (C_at_least_X : ClG (L2.CX P w) P w K mg base 3 "at_least" s_at_least_X ["value", "least", "field"] [] [] (spAtlX c_InvalidInput)) : Gx.ClC (L2.CX P w) P w K mg base 5 c_Lazy "Lazy.__init__" s_Lazy___init___X ["self", "mark"] [] [] (spFiX c_InvalidInput "mark" 0) := by
  have nd := sc_Lazy___init___X.nd
  refine D.ok sc_Lazy___init___X (fun vs H Q E h => ?_) (fun f cdv A outer s H vs Q E hr h => ?_)
  · obtain ⟨x, m, rfl, _⟩ := h
    rfl
  · obtain ⟨x, m, rfl, hm, k⟩ := h
    have hu := hu64 hr
    refine ⟨_, (pss_cons (ps_expr (pe_g C_at_least_X (by exact hr.mono (by decide)) (fun σ => passC takesX σ) (fun _ _ _ _ _ _ us hl => match us, hl with | [_, _, _], _ => rfl) (pa_cons (pv 1) (pa_cons pe_int (pa_cons pe_str pa_nil)))))
    pss_dead), ?_⟩
    try dsimp only [L2.cxOf, L2.Cx.nox]
    simp only [L2.start, N_Lazy___init___X, List.map_cons, List.map_nil, List.length_cons, List.length_nil, Nat.reduceAdd, Nat.reduceSub, List.replicate_succ, List.replicate_zero, List.cons_append, List.nil_append]

    walk_at "go"
    all_goals first
      | (exfalso; omega)
      | exact k _ _ Gx.new Gx.rel Gx.at_
abbrev s_Lazy_set_mark_X : Stmt := (inClass (top 46) 3)
abbrev N_Lazy_set_mark_X : List Str := ["self", "mark"]
theorem sc_Lazy_set_mark_X : FnScope N_Lazy_set_mark_X ["self", "mark"] (defScope s_Lazy_set_mark_X) := ⟨rfl, rfl, rfl, by decide +kernel, rfl, by decide +kernel, by decide +kernel⟩
theorem cl_Lazy_set_mark_X (T : Bl mg) (Z : EcF P K mg c_StoreError c_InvalidInput c_NoPlace) (R : RdF K mg c_Round) (W_Keeper : Gx.ClsF K mg c_Keeper "Keeper" []) (M_Keeper : Gx.MkZ K c_Keeper) (I_Keeper_Keeper : PySem.W.kitOne K (.ref c_Keeper) (.ref c_Keeper) = some true) (W_Greedy : Gx.ClsF K mg c_Greedy "Greedy" []) (M_Greedy : Gx.MkZ K c_Greedy) (I_Greedy_Keeper : PySem.W.kitOne K (.ref c_Greedy) (.ref c_Keeper) = some true) (W_Lazy : Gx.ClsF K mg c_Lazy "Lazy" ["_mark"]) (I_Lazy_Keeper : PySem.W.kitOne K (.ref c_Lazy) (.ref c_Keeper) = some true) (W_Thrifty : Gx.ClsF K mg c_Thrifty "Thrifty" ["_limit"]) (I_Thrifty_Keeper : PySem.W.kitOne K (.ref c_Thrifty) (.ref c_Keeper) = some true) (W_RuleKeeper : Gx.ClsF K mg c_RuleKeeper "RuleKeeper" ["_rules"]) (I_RuleKeeper_Keeper : PySem.W.kitOne K (.ref c_RuleKeeper) (.ref c_Keeper) = some true) (D : DfM K c_Lazy "set_mark" "Lazy.set_mark" s_Lazy_set_mark_X [] []) (C_at_least_X : ClG (L2.CX P w) P w K mg base 3 "at_least" s_at_least_X ["value", "least", "field"] [] [] (spAtlX c_InvalidInput)) : ClM (L2.CX P w) P w K mg base 5 c_Lazy "set_mark" "Lazy.set_mark" s_Lazy_set_mark_X ["self", "mark"] [] [] (spFiX c_InvalidInput "mark" 0) := by
  have nd := sc_Lazy_set_mark_X.nd
  refine D.ok sc_Lazy_set_mark_X (fun vs H Q E h => ?_) (fun f cdv A outer s H vs Q E hr h => ?_)
  · obtain ⟨x, m, rfl, _⟩ := h
    rfl
  · obtain ⟨x, m, rfl, hm, k⟩ := h
    have hu := hu64 hr
    refine ⟨_, (pss_cons (ps_expr (pe_g C_at_least_X (by exact hr.mono (by decide)) (fun σ => passC takesX σ) (fun _ _ _ _ _ _ us hl => match us, hl with | [_, _, _], _ => rfl) (pa_cons (pv 1) (pa_cons pe_int (pa_cons pe_str pa_nil)))))
    pss_dead), ?_⟩
    try dsimp only [L2.cxOf, L2.Cx.nox]
    simp only [L2.start, N_Lazy_set_mark_X, List.map_cons, List.map_nil, List.length_cons, List.length_nil, Nat.reduceAdd, Nat.reduceSub, List.replicate_succ, List.replicate_zero, List.cons_append, List.nil_append]

    walk_at "go"
    all_goals first
      | (exfalso; omega)
      | exact k _ _ Gx.new Gx.rel Gx.at_
abbrev s_Thrifty___init___X : Stmt := (inClass (top 47) 0)
abbrev N_Thrifty___init___X : List Str := ["self", "limit"]
theorem sc_Thrifty___init___X : FnScope N_Thrifty___init___X ["self", "limit"] (defScope s_Thrifty___init___X) := ⟨rfl, rfl, rfl, by decide +kernel, rfl, by decide +kernel, by decide +kernel⟩
theorem cl_Thrifty___init___X (T : Bl mg) (Z : EcF P K mg c_StoreError c_InvalidInput c_NoPlace) (R : RdF K mg c_Round) (W_Keeper : Gx.ClsF K mg c_Keeper "Keeper" []) (M_Keeper : Gx.MkZ K c_Keeper) (I_Keeper_Keeper : PySem.W.kitOne K (.ref c_Keeper) (.ref c_Keeper) = some true) (W_Greedy : Gx.ClsF K mg c_Greedy "Greedy" []) (M_Greedy : Gx.MkZ K c_Greedy) (I_Greedy_Keeper : PySem.W.kitOne K (.ref c_Greedy) (.ref c_Keeper) = some true) (W_Lazy : Gx.ClsF K mg c_Lazy "Lazy" ["_mark"]) (I_Lazy_Keeper : PySem.W.kitOne K (.ref c_Lazy) (.ref c_Keeper) = some true) (W_Thrifty : Gx.ClsF K mg c_Thrifty "Thrifty" ["_limit"]) (I_Thrifty_Keeper : PySem.W.kitOne K (.ref c_Thrifty) (.ref c_Keeper) = some true) (W_RuleKeeper : Gx.ClsF K mg c_RuleKeeper "RuleKeeper" ["_rules"]) (I_RuleKeeper_Keeper : PySem.W.kitOne K (.ref c_RuleKeeper) (.ref c_Keeper) = some true) (D : Gx.DfC K c_Thrifty "Thrifty.__init__" s_Thrifty___init___X [] []) (C_at_least_X : ClG (L2.CX P w) P w K mg base 3 "at_least" s_at_least_X ["value", "least", "field"] [] [] (spAtlX c_InvalidInput)) : Gx.ClC (L2.CX P w) P w K mg base 5 c_Thrifty "Thrifty.__init__" s_Thrifty___init___X ["self", "limit"] [] [] (spFiX c_InvalidInput "limit" 1) := by
  have nd := sc_Thrifty___init___X.nd
  refine D.ok sc_Thrifty___init___X (fun vs H Q E h => ?_) (fun f cdv A outer s H vs Q E hr h => ?_)
  · obtain ⟨x, m, rfl, _⟩ := h
    rfl
  · obtain ⟨x, m, rfl, hm, k⟩ := h
    have hu := hu64 hr
    refine ⟨_, (pss_cons (ps_expr (pe_g C_at_least_X (by exact hr.mono (by decide)) (fun σ => passC takesX σ) (fun _ _ _ _ _ _ us hl => match us, hl with | [_, _, _], _ => rfl) (pa_cons (pv 1) (pa_cons pe_int (pa_cons pe_str pa_nil)))))
    pss_dead), ?_⟩
    try dsimp only [L2.cxOf, L2.Cx.nox]
    simp only [L2.start, N_Thrifty___init___X, List.map_cons, List.map_nil, List.length_cons, List.length_nil, Nat.reduceAdd, Nat.reduceSub, List.replicate_succ, List.replicate_zero, List.cons_append, List.nil_append]

    walk_at "go"
    all_goals first
      | (exfalso; omega)
      | exact k _ _ Gx.new Gx.rel Gx.at_

abbrev s_read_number : Stmt := (top 38)
abbrev N_read_number : List Str := ["word", "digit"]
theorem sc_read_number : FnScope N_read_number ["word"] (defScope s_read_number) := ⟨rfl, rfl, rfl, by decide +kernel, rfl, by decide +kernel, by decide +kernel⟩
theorem cl_read_number (T : Bl mg) (Z : EcF P K mg c_StoreError c_InvalidInput c_NoPlace) (R : RdF K mg c_Round) (W_Keeper : Gx.ClsF K mg c_Keeper "Keeper" []) (M_Keeper : Gx.MkZ K c_Keeper) (I_Keeper_Keeper : PySem.W.kitOne K (.ref c_Keeper) (.ref c_Keeper) = some true) (W_Greedy : Gx.ClsF K mg c_Greedy "Greedy" []) (M_Greedy : Gx.MkZ K c_Greedy) (I_Greedy_Keeper : PySem.W.kitOne K (.ref c_Greedy) (.ref c_Keeper) = some true) (W_Lazy : Gx.ClsF K mg c_Lazy "Lazy" ["_mark"]) (I_Lazy_Keeper : PySem.W.kitOne K (.ref c_Lazy) (.ref c_Keeper) = some true) (W_Thrifty : Gx.ClsF K mg c_Thrifty "Thrifty" ["_limit"]) (I_Thrifty_Keeper : PySem.W.kitOne K (.ref c_Thrifty) (.ref c_Keeper) = some true) (W_RuleKeeper : Gx.ClsF K mg c_RuleKeeper "RuleKeeper" ["_rules"]) (I_RuleKeeper_Keeper : PySem.W.kitOne K (.ref c_RuleKeeper) (.ref c_Keeper) = some true) (D : DfG K mg "_read_number" s_read_number [] []) : ClG CX0 P w K mg base 3 "_read_number" s_read_number ["word"] [] [] Gx.spNo := D.okP sc_read_number (fun _ _ _ _ h => h.elim) (fun _ _ _ _ _ _ _ _ _ _ h => h.elim)

abbrev s_read_condition : Stmt := (top 39)
abbrev N_read_condition : List Str := ["name", "sign", "bound", "number"]
theorem sc_read_condition : FnScope N_read_condition ["name", "sign", "bound"] (defScope s_read_condition) := ⟨rfl, rfl, rfl, by decide +kernel, rfl, by decide +kernel, by decide +kernel⟩
theorem cl_read_condition (T : Bl mg) (Z : EcF P K mg c_StoreError c_InvalidInput c_NoPlace) (R : RdF K mg c_Round) (W_Keeper : Gx.ClsF K mg c_Keeper "Keeper" []) (M_Keeper : Gx.MkZ K c_Keeper) (I_Keeper_Keeper : PySem.W.kitOne K (.ref c_Keeper) (.ref c_Keeper) = some true) (W_Greedy : Gx.ClsF K mg c_Greedy "Greedy" []) (M_Greedy : Gx.MkZ K c_Greedy) (I_Greedy_Keeper : PySem.W.kitOne K (.ref c_Greedy) (.ref c_Keeper) = some true) (W_Lazy : Gx.ClsF K mg c_Lazy "Lazy" ["_mark"]) (I_Lazy_Keeper : PySem.W.kitOne K (.ref c_Lazy) (.ref c_Keeper) = some true) (W_Thrifty : Gx.ClsF K mg c_Thrifty "Thrifty" ["_limit"]) (I_Thrifty_Keeper : PySem.W.kitOne K (.ref c_Thrifty) (.ref c_Keeper) = some true) (W_RuleKeeper : Gx.ClsF K mg c_RuleKeeper "RuleKeeper" ["_rules"]) (I_RuleKeeper_Keeper : PySem.W.kitOne K (.ref c_RuleKeeper) (.ref c_Keeper) = some true) (D : DfG K mg "_read_condition" s_read_condition [] []) : ClG CX0 P w K mg base 3 "_read_condition" s_read_condition ["name", "sign", "bound"] [] [] Gx.spNo := D.okP sc_read_condition (fun _ _ _ _ h => h.elim) (fun _ _ _ _ _ _ _ _ _ _ h => h.elim)

theorem if2_f {b : Bool} {A B : Prop} (h : b = false) (q : B) : if b = true then A else B := by rw [h, if_neg Bool.false_ne_true]; exact q
theorem if2_t {b : Bool} {A B : Prop} (h : b = true) (q : A) : if b = true then A else B := by rw [if_pos h]; exact q
local macro_rules | `(tactic| walk_at "call") => `(tactic| first
  | with_reducible refine if2_f (by decide +kernel) ?_
  | with_reducible refine if2_t (by decide +kernel) ?_
  | ((with_reducible show Gx.rSpl _ _ _ _); refine Gx.g_split (ys := ["else", "carry", "all"]) (by decide +kernel) (by decide +kernel) (by decide +kernel) ?_; intro p_ H_ n_ e_ h_))
/-- what is read of the one line of the law's rule text -/
def spRdl : Sp := fun vs H Q _ => vs = [.str "else carry all"] ∧ ∀ q r H', Nw H q → Ex H H' → At H' q (.tup [.ref r, .str "all"]) → Q (.ref q) H'
abbrev s_read_line : Stmt := (top 40)
abbrev N_read_line : List Str := ["line", "words", "amount", "condition"]
theorem sc_read_line : FnScope N_read_line ["line"] (defScope s_read_line) := ⟨rfl, rfl, rfl, by decide +kernel, rfl, by decide +kernel, by decide +kernel⟩
theorem cl_read_line (T : Bl mg) (Z : EcF P K mg c_StoreError c_InvalidInput c_NoPlace) (R : RdF K mg c_Round) (W_Keeper : Gx.ClsF K mg c_Keeper "Keeper" []) (M_Keeper : Gx.MkZ K c_Keeper) (I_Keeper_Keeper : PySem.W.kitOne K (.ref c_Keeper) (.ref c_Keeper) = some true) (W_Greedy : Gx.ClsF K mg c_Greedy "Greedy" []) (M_Greedy : Gx.MkZ K c_Greedy) (I_Greedy_Keeper : PySem.W.kitOne K (.ref c_Greedy) (.ref c_Keeper) = some true) (W_Lazy : Gx.ClsF K mg c_Lazy "Lazy" ["_mark"]) (I_Lazy_Keeper : PySem.W.kitOne K (.ref c_Lazy) (.ref c_Keeper) = some true) (W_Thrifty : Gx.ClsF K mg c_Thrifty "Thrifty" ["_limit"]) (I_Thrifty_Keeper : PySem.W.kitOne K (.ref c_Thrifty) (.ref c_Keeper) = some true) (W_RuleKeeper : Gx.ClsF K mg c_RuleKeeper "RuleKeeper" ["_rules"]) (I_RuleKeeper_Keeper : PySem.W.kitOne K (.ref c_RuleKeeper) (.ref c_Keeper) = some true) (D : DfG K mg "_read_line" s_read_line [] []) (C_read_condition : ClG CX0 P w K mg base 3 "_read_condition" s_read_condition ["name", "sign", "bound"] [] [] Gx.spNo) (C_read_number : ClG CX0 P w K mg base 3 "_read_number" s_read_number ["word"] [] [] Gx.spNo) : ClG CX0 P w K mg base 5 "_read_line" s_read_line ["line"] [] [] spRdl := by
  have nd := sc_read_line.nd
  refine D.okP sc_read_line (fun vs H Q E h => ?_) (fun f cdv A outer s H vs Q E hr h => ?_)
  · obtain ⟨rfl, _⟩ := h
    rfl
  · obtain ⟨rfl, k⟩ := h
    have hu := hu64 hr
    refine ⟨_, (pss_cons (ps_set (i := 1) nd rfl (Or.inl rfl) (pe_bmK (K := K) (by rfl) PySem.F.plainAttrs_str PySem.F.slot_str_split PySem.F.type_str_split Gx.mtSpl (pv 0) (pa_cons pe_str pa_nil)))
    (pss_cons (ps_set (i := 2) nd rfl (Or.inl rfl) (pe_ix (ixSeqK (K := K) (by rfl)) (pv 1) (pe_un un_neg pe_int) (fun _ _ => rfl)))
    (pss_cons (ps_if (PW.pt (pw_and (pt_cmpR (opNeK (K := K) (by rfl) (by exact hu)) (pv 2) pe_str (nomark _)) (pw_and1 (pt_cmpR opIsN (pe_g C_read_number (by exact hr.mono (by decide)) (E := fun _ => E0) (fun σ => passC0 σ) (fun _ _ _ _ _ _ us hl => match us, hl with | [_], _ => rfl) (pa_cons (pv 2) pa_nil)) pe_non (nomark _)))))
      (pss_one (ps_ret pe_non))
      pss_nil)
    (pss_cons (ps_if (PW.pt (pw_and (pt_cmpR (opEqK (K := K) (by rfl) (by exact hu)) (pe_callB (callLenK (K := K) (by rfl)) (by rfl) T.len (by decide +kernel) (pa_cons (pv 1) pa_nil)) pe_int (nomark _)) (pw_and (pt_cmpR (opEqK (K := K) (by rfl) (by exact hu)) (pe_ix (ixSeqK (K := K) (by rfl)) (pv 1) pe_int (fun _ _ => rfl)) pe_str (nomark _)) (pw_and1 (pt_cmpR (opEqK (K := K) (by rfl) (by exact hu)) (pe_ix (ixSeqK (K := K) (by rfl)) (pv 1) pe_int (fun _ _ => rfl)) pe_str (nomark _))))))
      (pss_one (ps_ret (pe_tup (pa_cons (pe_tup pa_nil) (pa_cons (pv 2) pa_nil)))))
      pss_nil)
    (pss_cons (ps_if (PW.pt (pw_and (pt_cmpR (opEqK (K := K) (by rfl) (by exact hu)) (pe_callB (callLenK (K := K) (by rfl)) (by rfl) T.len (by decide +kernel) (pa_cons (pv 1) pa_nil)) pe_int (nomark _)) (pw_and (pt_cmpR (opEqK (K := K) (by rfl) (by exact hu)) (pe_ix (ixSeqK (K := K) (by rfl)) (pv 1) pe_int (fun _ _ => rfl)) pe_str (nomark _)) (pw_and1 (pt_cmpR (opEqK (K := K) (by rfl) (by exact hu)) (pe_ix (ixSeqK (K := K) (by rfl)) (pv 1) pe_int (fun _ _ => rfl)) pe_str (nomark _))))))
      (pss_cons (ps_set (i := 3) nd rfl (Or.inl rfl) (pe_g C_read_condition (by exact hr.mono (by decide)) (E := fun _ => E0) (fun σ => passC0 σ) (fun _ _ _ _ _ _ us hl => match us, hl with | [_, _, _], _ => rfl) (pa_cons (pe_ix (ixSeqK (K := K) (by rfl)) (pv 1) pe_int (fun _ _ => rfl)) (pa_cons (pe_ix (ixSeqK (K := K) (by rfl)) (pv 1) pe_int (fun _ _ => rfl)) (pa_cons (pe_ix (ixSeqK (K := K) (by rfl)) (pv 1) pe_int (fun _ _ => rfl)) pa_nil)))))
    (pss_one (ps_if (pt_cmpR opNotN (pv 3) pe_non (nomark _))
      (pss_one (ps_ret (pe_tup (pa_cons (pv 3) (pa_cons (pv 2) pa_nil)))))
      pss_nil)))
      pss_nil)
    (pss_one (ps_ret pe_non))))))), ?_⟩
    try dsimp only [L2.cxOf, L2.Cx.nox]
    simp only [L2.start, N_read_line, List.map_cons, List.map_nil, List.length_cons, List.length_nil, Nat.reduceAdd, Nat.reduceSub, List.replicate_succ, List.replicate_zero, List.cons_append, List.nil_append]

    walk_at "go"
    exact k _ _ _ Gx.new Gx.rel (by assumption)
local macro_rules | `(tactic| walk_at "call") => `(tactic| first
  | ((with_reducible show Gx.rSpl _ _ _ _); refine Gx.g_split (ys := ["else carry all"]) (by decide +kernel) (by decide +kernel) (by decide +kernel) ?_; intro p_ H_ n_ e_ h_)
  | ((with_reducible show spRdl _ _ _ _); refine ⟨rfl, ?_⟩; intro q_ r_ H_ n_ e_ h_))
def spRds : Sp := fun vs H Q _ => vs = [.str "else carry all"] ∧ ∀ q r H', Nw H q → Ex H H' → At H' q (.lst [.ref r]) → Q (.ref q) H'
abbrev s_read_rules : Stmt := (top 41)
abbrev N_read_rules : List Str := ["text", "rules", "number", "line", "rule"]
theorem sc_read_rules : FnScope N_read_rules ["text"] (defScope s_read_rules) := ⟨rfl, rfl, rfl, by decide +kernel, rfl, by decide +kernel, by decide +kernel⟩
theorem cl_read_rules (T : Bl mg) (Z : EcF P K mg c_StoreError c_InvalidInput c_NoPlace) (R : RdF K mg c_Round) (W_Keeper : Gx.ClsF K mg c_Keeper "Keeper" []) (M_Keeper : Gx.MkZ K c_Keeper) (I_Keeper_Keeper : PySem.W.kitOne K (.ref c_Keeper) (.ref c_Keeper) = some true) (W_Greedy : Gx.ClsF K mg c_Greedy "Greedy" []) (M_Greedy : Gx.MkZ K c_Greedy) (I_Greedy_Keeper : PySem.W.kitOne K (.ref c_Greedy) (.ref c_Keeper) = some true) (W_Lazy : Gx.ClsF K mg c_Lazy "Lazy" ["_mark"]) (I_Lazy_Keeper : PySem.W.kitOne K (.ref c_Lazy) (.ref c_Keeper) = some true) (W_Thrifty : Gx.ClsF K mg c_Thrifty "Thrifty" ["_limit"]) (I_Thrifty_Keeper : PySem.W.kitOne K (.ref c_Thrifty) (.ref c_Keeper) = some true) (W_RuleKeeper : Gx.ClsF K mg c_RuleKeeper "RuleKeeper" ["_rules"]) (I_RuleKeeper_Keeper : PySem.W.kitOne K (.ref c_RuleKeeper) (.ref c_Keeper) = some true) (D : DfG K mg "_read_rules" s_read_rules [] []) (C_read_line : ClG CX0 P w K mg base 5 "_read_line" s_read_line ["line"] [] [] spRdl) : ClG CX0 P w K mg base 7 "_read_rules" s_read_rules ["text"] [] [] spRds := by
  have nd := sc_read_rules.nd
  refine D.okP sc_read_rules (fun vs H Q E h => ?_) (fun f cdv A outer s H vs Q E hr h => ?_)
  · obtain ⟨rfl, _⟩ := h
    rfl
  · obtain ⟨rfl, k⟩ := h
    have hu := hu64 hr
    refine ⟨_, (pss_cons (ps_set (i := 1) nd rfl (Or.inl rfl) (pe_lst pa_nil))
    (pss_cons (ps_for PassesOwn.never rfl (pi_enum1 (K := K) (by rfl) (by rfl) T.enumerate (pa_cons (pe_bmK (K := K) (by rfl) PySem.F.plainAttrs_str PySem.F.slot_str_split PySem.F.type_str_split Gx.mtSpl (pv 0) (pa_cons pe_str pa_nil)) pa_nil) (pk_cons pe_int pk_nil)) (pg_tup rfl (pgs_cons (pg_name (i := 2) nd rfl (Or.inl rfl)) (pgs_cons (pg_name (i := 3) nd rfl (Or.inl rfl)) pgs_nil)))
      (pss_cons (ps_set (i := 4) nd rfl (Or.inl rfl) (pe_g C_read_line (by exact hr.mono (by decide)) (E := fun _ => E0) (fun σ => passC0 σ) (fun _ _ _ _ _ _ us hl => match us, hl with | [_], _ => rfl) (pa_cons (pv 3) pa_nil)))
    (pss_cons (ps_if (pt_cmpR opIsN (pv 4) pe_non (nomark _))
      (pss_one ps_never)
      pss_nil)
    (pss_one (ps_expr (pe_bmK (K := K) (by rfl) PySem.F.plainAttrs_list PySem.F.slot_list_append PySem.F.type_list_append mt_append (pv 1) (pa_cons (pv 4) pa_nil)))))))
    (pss_one (ps_ret (pv 1))))), ?_⟩
    try dsimp only [L2.cxOf, L2.Cx.nox]
    simp only [L2.start, N_read_rules, List.map_cons, List.map_nil, List.length_cons, List.length_nil, Nat.reduceAdd, Nat.reduceSub, List.replicate_succ, List.replicate_zero, List.cons_append, List.nil_append]

    walk_at "go"
    rename_i ru H1 n1 e1 h1 sp_ H2 n2 e2 h2
    refine Gx.forE1 [ru] (fun i σ' H' => ∃ (s2 s3 s4 : Option V) (L : List V), σ' = [some (.str "else carry all"), some (.ref ru), s2, s3, s4] ∧ At H' ru (.lst L) ∧ ((i = 0 ∧ L = []) ∨ (i = 1 ∧ ∃ r, L = [V.ref r]))) ⟨_, _, _, _, rfl, by infer_instance, .inl ⟨rfl, rfl⟩⟩ ?_ ?_
    · rintro i c x σ' H' H'' hc e ⟨s2, s3, s4, L, rfl, hL, hiL⟩ hp
      have hi := (List.getElem?_eq_some_iff.mp hc).1
      have hi0 : i = 0 := by simp at hi; omega
      subst hi0
      obtain rfl : c = V.str "else carry all" := by simpa using hc.symm
      obtain rfl : L = [] := by rcases hiL with h | h; exact h.2; exact absurd h.1 (by decide)
      walk_at "go"
      exact Gx.li ⟨_, _, _, _, rfl, by assumption, .inr ⟨rfl, _, rfl⟩⟩
    · rintro σ' H' e ⟨s2, s3, s4, L, rfl, hL, hiL⟩
      obtain ⟨r, rfl⟩ : ∃ r, L = [V.ref r] := by rcases hiL with h | h; exact absurd h.1 (by decide); exact h.2
      walk_at "go"
      exact k _ _ _ Gx.new Gx.rel (by assumption)
local macro_rules | `(tactic| walk_at "call") => `(tactic| ((with_reducible show spRds _ _ _ _); refine ⟨rfl, ?_⟩; intro q_ r_ H_ n_ e_ h_))
def spRin (C : Addr) : Sp := fun vs H Q _ => ∃ (x dx : Addr), vs = [.ref x, .str "else carry all"] ∧ At H x (.ins C dx []) ∧ ∀ q r H', ExB x H H' → At H' q (.lst [.ref r]) → InC C [(("_rules" : Str), .ref q)] H' x → Q .non H'
abbrev s_RuleKeeper___init__ : Stmt := (inClass (top 48) 0)
abbrev N_RuleKeeper___init__ : List Str := ["self", "text"]
theorem sc_RuleKeeper___init__ : FnScope N_RuleKeeper___init__ ["self", "text"] (defScope s_RuleKeeper___init__) := ⟨rfl, rfl, rfl, by decide +kernel, rfl, by decide +kernel, by decide +kernel⟩
theorem cl_RuleKeeper___init__ (T : Bl mg) (Z : EcF P K mg c_StoreError c_InvalidInput c_NoPlace) (R : RdF K mg c_Round) (W_Keeper : Gx.ClsF K mg c_Keeper "Keeper" []) (M_Keeper : Gx.MkZ K c_Keeper) (I_Keeper_Keeper : PySem.W.kitOne K (.ref c_Keeper) (.ref c_Keeper) = some true) (W_Greedy : Gx.ClsF K mg c_Greedy "Greedy" []) (M_Greedy : Gx.MkZ K c_Greedy) (I_Greedy_Keeper : PySem.W.kitOne K (.ref c_Greedy) (.ref c_Keeper) = some true) (W_Lazy : Gx.ClsF K mg c_Lazy "Lazy" ["_mark"]) (I_Lazy_Keeper : PySem.W.kitOne K (.ref c_Lazy) (.ref c_Keeper) = some true) (W_Thrifty : Gx.ClsF K mg c_Thrifty "Thrifty" ["_limit"]) (I_Thrifty_Keeper : PySem.W.kitOne K (.ref c_Thrifty) (.ref c_Keeper) = some true) (W_RuleKeeper : Gx.ClsF K mg c_RuleKeeper "RuleKeeper" ["_rules"]) (I_RuleKeeper_Keeper : PySem.W.kitOne K (.ref c_RuleKeeper) (.ref c_Keeper) = some true) (D : Gx.DfC K c_RuleKeeper "RuleKeeper.__init__" s_RuleKeeper___init__ [] []) (C_read_rules : ClG CX0 P w K mg base 7 "_read_rules" s_read_rules ["text"] [] [] spRds) : Gx.ClC CX0 P w K mg base 9 c_RuleKeeper "RuleKeeper.__init__" s_RuleKeeper___init__ ["self", "text"] [] [] (spRin c_RuleKeeper) := by
  have nd := sc_RuleKeeper___init__.nd
  refine D.okP sc_RuleKeeper___init__ (fun vs H Q E h => ?_) (fun f cdv A outer s H vs Q E hr h => ?_)
  · obtain ⟨x, dx, rfl, _⟩ := h
    rfl
  · obtain ⟨x, dx, rfl, hx, k⟩ := h
    have hu := hu64 hr
    refine ⟨_, (pss_one (ps_fld (pv 0) (pe_g C_read_rules (by exact hr.mono (by decide)) (E := fun _ => E0) (fun σ => passC0 σ) (fun _ _ _ _ _ _ us hl => match us, hl with | [_], _ => rfl) (pa_cons (pv 1) pa_nil)) rfl)), ?_⟩
    try dsimp only [L2.cxOf, L2.Cx.nox]
    simp only [L2.start, N_RuleKeeper___init__, List.map_cons, List.map_nil, List.length_cons, List.length_nil, Nat.reduceAdd, Nat.reduceSub, List.replicate_succ, List.replicate_zero, List.cons_append, List.nil_append]

    walk_at "go"
    exact k _ _ _ Gx.rel inferInstance ⟨⟨_, (by assumption : At _ x _).eq⟩⟩
def spRlb (C : Addr) : Sp := fun vs H Q _ => ∃ (x q r : Addr), vs = [.ref x] ∧ (InC C [(("_rules" : Str), .ref q)] H x ∧ At H q (.lst [.ref r])) ∧ Q (.str "rule 1") H
abbrev s_RuleKeeper_label : Stmt := (inClass (top 48) 2)
abbrev N_RuleKeeper_label : List Str := ["self"]
theorem sc_RuleKeeper_label : FnScope N_RuleKeeper_label ["self"] (defScope s_RuleKeeper_label) := ⟨rfl, rfl, rfl, by decide +kernel, rfl, by decide +kernel, by decide +kernel⟩
theorem cl_RuleKeeper_label (T : Bl mg) (Z : EcF P K mg c_StoreError c_InvalidInput c_NoPlace) (R : RdF K mg c_Round) (W_Keeper : Gx.ClsF K mg c_Keeper "Keeper" []) (M_Keeper : Gx.MkZ K c_Keeper) (I_Keeper_Keeper : PySem.W.kitOne K (.ref c_Keeper) (.ref c_Keeper) = some true) (W_Greedy : Gx.ClsF K mg c_Greedy "Greedy" []) (M_Greedy : Gx.MkZ K c_Greedy) (I_Greedy_Keeper : PySem.W.kitOne K (.ref c_Greedy) (.ref c_Keeper) = some true) (W_Lazy : Gx.ClsF K mg c_Lazy "Lazy" ["_mark"]) (I_Lazy_Keeper : PySem.W.kitOne K (.ref c_Lazy) (.ref c_Keeper) = some true) (W_Thrifty : Gx.ClsF K mg c_Thrifty "Thrifty" ["_limit"]) (I_Thrifty_Keeper : PySem.W.kitOne K (.ref c_Thrifty) (.ref c_Keeper) = some true) (W_RuleKeeper : Gx.ClsF K mg c_RuleKeeper "RuleKeeper" ["_rules"]) (I_RuleKeeper_Keeper : PySem.W.kitOne K (.ref c_RuleKeeper) (.ref c_Keeper) = some true) (D : DfM K c_RuleKeeper "label" "RuleKeeper.label" s_RuleKeeper_label [] [])  : ClM CX0 P w K mg base 3 c_RuleKeeper "label" "RuleKeeper.label" s_RuleKeeper_label ["self"] [] [] (spRlb c_RuleKeeper) := by
  have nd := sc_RuleKeeper_label.nd
  refine D.okP sc_RuleKeeper_label (fun vs H Q E h => ?_) (fun f cdv A outer s H vs Q E hr h => ?_)
  · obtain ⟨x, q, r, rfl, _⟩ := h
    rfl
  · obtain ⟨x, q, r, rfl, ⟨hx, hq⟩, k⟩ := h
    have hu := hu64 hr
    refine ⟨_, (pss_one (ps_ret (pe_fs (.cons pe_str (.cons (pe_fmt (pe_callB (callLenK (K := K) (by rfl)) (by rfl) T.len (by decide +kernel) (pa_cons (pe_fld (pv 0) rfl) pa_nil))) .nil))))), ?_⟩
    try dsimp only [L2.cxOf, L2.Cx.nox]
    simp only [L2.start, N_RuleKeeper_label, List.map_cons, List.map_nil, List.length_cons, List.length_nil, Nat.reduceAdd, Nat.reduceSub, List.replicate_succ, List.replicate_zero, List.cons_append, List.nil_append]

    walk_at "go"
    rw [show ((([V.ref r] : List V).length : Nat) : Int) = 1 from rfl]
    refine Gx.g_fmtI (by decide +kernel) ?_
    walk_at "go"
    have e : Str.empty ++ Str.ofString "rule " ++ Str.ofString (toString (1 : Int)) = ("rule 1" : Str) := by decide +kernel
    rw [e]
    exact k

/-! the script and a box that changes beside it -/
class ScN (K : PySem.W.Frag) (H : Hp) (s b : Addr) (xs : outParam (List V)) : Prop where
  ex : (Rd H s (.lst xs) ∧ s ≠ b) ∨ ∃ (o : Obj) (its : Array Value) (n : Nat), K.lookup s = some o ∧ o.cls = .type "list" ∧ o.dict = none ∧ o.data = .seq its n ∧ its.size ≤ sizeLine ∧ Vals xs its.toList
theorem scn_of {K : PySem.W.Frag} {H H' : Hp} {s b : Addr} {xs : List V} (h : SqC K H s xs) (n : Nw H b) (e : Ex H H') : ScN K H' s b xs := ⟨by
  rcases h.sq with h | h
  · refine .inl ⟨e.rd (by simp) h, fun z => ?_⟩
    subst z
    have n := n.eq
    rcases h with h | ⟨o, h⟩
    · rw [n] at h; cases h
    · rw [n] at h; cases h
  · exact .inr h⟩
instance (priority := low) scn0 {K : PySem.W.Frag} {H1 H : Hp} {s b : Addr} {xs : List V} [r : Chg [] H1 H] [h : ScN K H1 s b xs] : ScN K H s b xs := ⟨by
  rcases h.ex with ⟨h1, h2⟩ | h
  · exact .inl ⟨r.rd (by simp) h1, h2⟩
  · exact .inr h⟩
instance (priority := low) scn1 {K : PySem.W.Frag} {H1 H : Hp} {s b : Addr} {xs : List V} [r : Chg [b] H1 H] [h : ScN K H1 s b xs] : ScN K H s b xs := ⟨by
  rcases h.ex with ⟨h1, h2⟩ | h
  · exact .inl ⟨r.rd (by simpa using h2) h1, h2⟩
  · exact .inr h⟩
theorem ScN.sqc {K : PySem.W.Frag} {H : Hp} {s b : Addr} {xs : List V} (h : ScN K H s b xs) : SqC K H s xs := ⟨by
  rcases h.ex with ⟨h1, h2⟩ | h
  · exact .inl h1
  · exact .inr h⟩
/-- the box: rest, seed, counter, place -/
class Bk (b : Addr) (H : Hp) : Prop where
  ex : ∃ ns : List Int, H b = some (.lst (ns.map V.int)) ∧ ns.length = 4 ∧ 0 ≤ ns.getD 3 0
instance (priority := low) bkStep {b : Addr} {cs : List Addr} {H1 H : Hp} [h : Bk b H1] [r : Chg cs H1 H] [n : NotIn b cs] : Bk b H := ⟨by
  obtain ⟨ns, h1, h2⟩ := h.ex
  exact ⟨ns, r.keep _ _ n.out h1, h2⟩⟩
instance liveBk {b : Addr} {H : Hp} [h : Bk b H] : Live H b := ⟨by
  obtain ⟨ns, h1, h2⟩ := h.ex
  exact ⟨_, h1⟩⟩
theorem set_gD {ns : List Int} {i j : Nat} {v : Int} (h : i < ns.length) : (ns.set i v).getD j 0 = if i = j then v else ns.getD j 0 := by
  rw [List.getD_eq_getElem?_getD, List.getD_eq_getElem?_getD]
  by_cases z : i = j
  · subst z
    rw [List.getElem?_set_self h, if_pos rfl]
    rfl
  · rw [List.getElem?_set_ne z, if_neg z]
theorem g_set4 {H : Hp} {p : Addr} {ns : List Int} {k v : Int} {R : Hp → Prop} [h : At H p (.lst (ns.map V.int))] (hn : ns.length = 4) (hg : 0 ≤ ns.getD (Int.toNat 3) 0) (h0 : 0 ≤ k) (h1 : k < 4) (hv : k = 3 → 0 ≤ v) (q : ∀ (ms : List Int) H2, ExB p H H2 → At H2 p (.lst (ms.map V.int)) → ms.length = 4 → 0 ≤ ms.getD (Int.toNat 3) 0 → R H2) : rSetL (.ref p) (.int k) (.int v) H R := by
  refine Gx.g_setI h0 (by omega) fun H2 e hp => q _ H2 e hp (by rw [List.length_set]; exact hn) ?_
  rw [set_gD (by omega)]
  split
  · rename_i z
    exact hv (by have : k.toNat = 3 := z; omega)
  · exact hg
local macro_rules | `(tactic| walk_at "go1") => `(tactic| ((with_reducible show L2.rSetL _ _ _ _ _); refine g_set4 (by assumption) (by assumption) (by omega) (by omega) (by omega) ?_; intro ms_ H_ e_ hp_ hl_ hg_))
def spTk5 (K : PySem.W.Frag) : Sp := fun vs H Q _ => ∃ (s b : Addr) (many : Int) (zs : List Int), vs = [.ref s, .ref b, .int many] ∧ (ScN K H s b (zs.map V.int) ∧ Bk b H ∧ 0 < many ∧ many < 2 ^ 200) ∧ ∀ d H', 0 ≤ d → d < many → ExB b H H' → Bk b H' → Q (.int d) H'
abbrev s_law_take : Stmt := (top 54)
abbrev N_law_take : List Str := ["_law_script", "_law_box_here", "_law_many", "_law_cell", "_law_digit"]
theorem sc_law_take : FnScope N_law_take ["_law_script", "_law_box_here", "_law_many"] (defScope s_law_take) := ⟨rfl, rfl, rfl, by decide +kernel, rfl, by decide +kernel, by decide +kernel⟩
theorem cl_law_take (T : Bl mg) (Z : EcF P K mg c_StoreError c_InvalidInput c_NoPlace) (R : RdF K mg c_Round) (W_Keeper : Gx.ClsF K mg c_Keeper "Keeper" []) (M_Keeper : Gx.MkZ K c_Keeper) (I_Keeper_Keeper : PySem.W.kitOne K (.ref c_Keeper) (.ref c_Keeper) = some true) (W_Greedy : Gx.ClsF K mg c_Greedy "Greedy" []) (M_Greedy : Gx.MkZ K c_Greedy) (I_Greedy_Keeper : PySem.W.kitOne K (.ref c_Greedy) (.ref c_Keeper) = some true) (W_Lazy : Gx.ClsF K mg c_Lazy "Lazy" ["_mark"]) (I_Lazy_Keeper : PySem.W.kitOne K (.ref c_Lazy) (.ref c_Keeper) = some true) (W_Thrifty : Gx.ClsF K mg c_Thrifty "Thrifty" ["_limit"]) (I_Thrifty_Keeper : PySem.W.kitOne K (.ref c_Thrifty) (.ref c_Keeper) = some true) (W_RuleKeeper : Gx.ClsF K mg c_RuleKeeper "RuleKeeper" ["_rules"]) (I_RuleKeeper_Keeper : PySem.W.kitOne K (.ref c_RuleKeeper) (.ref c_Keeper) = some true) (D : DfG K mg "_law_take" s_law_take [] [])  : ClG CX0 P w K mg base 3 "_law_take" s_law_take ["_law_script", "_law_box_here", "_law_many"] [] [] (spTk5 K) := by
  have nd := sc_law_take.nd
  refine D.okP sc_law_take (fun vs H Q E h => ?_) (fun f cdv A outer s H vs Q E hr h => ?_)
  · obtain ⟨s, b, many, zs, rfl, _⟩ := h
    rfl
  · obtain ⟨s, b, many, zs, rfl, ⟨hs, ⟨ns, hb, n1, n2⟩, hm, hm2⟩, k⟩ := h
    have hu := hu64 hr
    refine ⟨_, (pss_cons (ps_if (PW.pt (pw_and (pt_cmpR (opEqK (K := K) (by rfl) (by exact hu)) (pe_ix (ixSeqK (K := K) (by rfl)) (pv 1) pe_int (fun _ _ => rfl)) pe_int (nomark _)) (pw_and1 (pt_cmpR opLt (pe_ix (ixSeqK (K := K) (by rfl)) (pv 1) pe_int (fun _ _ => rfl)) (pe_callB (callMin2 rfl) (by rfl) T.min (by decide +kernel) (pa_cons pe_int (pa_cons (pe_callB (callLenK (K := K) (by rfl)) (by rfl) T.len (by decide +kernel) (pa_cons (pv 0) pa_nil)) pa_nil))) (nomark _)))))
      (pss_cons (ps_set (i := 3) nd rfl (Or.inl rfl) (pe_callTy callInt (by rfl) T.int (by decide +kernel) (pa_cons (pe_ix (ixSeqK (K := K) (by rfl)) (pv 0) (pe_ix (ixSeqK (K := K) (by rfl)) (pv 1) pe_int (fun _ _ => rfl)) (fun _ _ => rfl)) pa_nil)))
    (pss_cons (ps_asg (pe_op (opAddK (K := K) (by rfl)) (pe_ix (ixSeqK (K := K) (by rfl)) (pv 1) pe_int (fun _ _ => rfl)) pe_int) (pg_sub (pv 1) pe_int set_list))
    (pss_cons (ps_asg (pe_op opMod (pe_callTy callInt (by rfl) T.int (by decide +kernel) (pa_cons (pe_op (opAddK (K := K) (by rfl)) (pe_op (opAddK (K := K) (by rfl)) (pe_op (opMulK (K := K) (by rfl)) (pe_ix (ixSeqK (K := K) (by rfl)) (pv 1) pe_int (fun _ _ => rfl)) pe_int) (pv 3)) pe_int) pa_nil)) pe_int) (pg_sub (pv 1) pe_int set_list))
    (pss_one (ps_if (pt_cmpR opGe (pe_callB callAbs (by rfl) T.abs (by decide +kernel) (pa_cons (pv 3) pa_nil)) (pe_op opPow pe_int pe_int) (nomark _))
      (pss_one (ps_asg (pe_callB callAbs (by rfl) T.abs (by decide +kernel) (pa_cons (pv 3) pa_nil)) (pg_sub (pv 1) pe_int set_list)))
      pss_nil)))))
      pss_nil)
    (pss_cons (ps_if (pt_cmpR opGt (pe_ix (ixSeqK (K := K) (by rfl)) (pv 1) pe_int (fun _ _ => rfl)) pe_int (nomark _))
      (pss_cons (ps_set (i := 4) nd rfl (Or.inl rfl) (pe_op opMod (pe_callTy callInt (by rfl) T.int (by decide +kernel) (pa_cons (pe_ix (ixSeqK (K := K) (by rfl)) (pv 1) pe_int (fun _ _ => rfl)) pa_nil)) (pv 2)))
    (pss_cons (ps_asg (pe_op opDiv (pe_ix (ixSeqK (K := K) (by rfl)) (pv 1) pe_int (fun _ _ => rfl)) (pv 2)) (pg_sub (pv 1) pe_int set_list))
    (pss_one (ps_ret (pv 4)))))
      pss_nil)
    (pss_cons (ps_asg (pe_op (opAddK (K := K) (by rfl)) (pe_ix (ixSeqK (K := K) (by rfl)) (pv 1) pe_int (fun _ _ => rfl)) pe_int) (pg_sub (pv 1) pe_int set_list))
    (pss_cons (ps_asg (pe_op opMod (pe_callTy callInt (by rfl) T.int (by decide +kernel) (pa_cons (pe_op (opAddK (K := K) (by rfl)) (pe_op (opAddK (K := K) (by rfl)) (pe_op (opMulK (K := K) (by rfl)) (pe_ix (ixSeqK (K := K) (by rfl)) (pv 1) pe_int (fun _ _ => rfl)) pe_int) (pe_op (opMulK (K := K) (by rfl)) (pe_ix (ixSeqK (K := K) (by rfl)) (pv 1) pe_int (fun _ _ => rfl)) pe_int)) pe_int) pa_nil)) pe_int) (pg_sub (pv 1) pe_int set_list))
    (pss_one (ps_ret (pe_op opMod (pe_op opDiv (pe_op opMod (pe_callTy callInt (by rfl) T.int (by decide +kernel) (pa_cons (pe_op (opAddK (K := K) (by rfl)) (pe_op (opMulK (K := K) (by rfl)) (pe_op opDiv (pe_ix (ixSeqK (K := K) (by rfl)) (pv 1) pe_int (fun _ _ => rfl)) pe_int) pe_int) (pe_op (opMulK (K := K) (by rfl)) (pe_ix (ixSeqK (K := K) (by rfl)) (pv 1) pe_int (fun _ _ => rfl)) pe_int)) pa_nil)) pe_int) pe_int) (pv 2)))))))), ?_⟩
    try dsimp only [L2.cxOf, L2.Cx.nox]
    simp only [L2.start, N_law_take, List.map_cons, List.map_nil, List.length_cons, List.length_nil, Nat.reduceAdd, Nat.reduceSub, List.replicate_succ, List.replicate_zero, List.cons_append, List.nil_append]

    have hb : At H b _ := ⟨hb⟩
    have hsq := hs.sqc
    have n2' : 0 ≤ ns.getD (Int.toNat 3) 0 := n2
    have fin : ∀ {H' : Hp} {ms : List Int} {d : Int}, ExB b H H' → At H' b (.lst (ms.map V.int)) → ms.length = 4 → 0 ≤ ms.getD 3 0 → Q (.int (d % many)) H' := fun {H' ms d} e h l g => k _ _ (Int.emod_nonneg _ (by omega)) (Int.emod_lt_of_pos _ hm) e ⟨ms, h.eq, l, g⟩
    walk_at "gos"
    all_goals exact fin Gx.rel inferInstance (by assumption) (by assumption)

def spBx5 (K : PySem.W.Frag) : Sp := fun vs H Q _ => ∃ (s : Addr) (i : Int) (zs : List Int), vs = [.ref s, .int i] ∧ (SqC K H s (zs.map V.int) ∧ zs.length ≤ 63 ∧ 0 ≤ i ∧ i ≤ 10) ∧ ∀ b H', Nw H b → Ex H H' → Bk b H' → Q (.ref b) H'
abbrev s_law_box : Stmt := (top 53)
abbrev N_law_box : List Str := ["_law_script", "_law_at", "_law_seed", "_law_cell"]
theorem sc_law_box : FnScope N_law_box ["_law_script", "_law_at"] (defScope s_law_box) := ⟨rfl, rfl, rfl, by decide +kernel, rfl, by decide +kernel, by decide +kernel⟩
theorem cl_law_box (T : Bl mg) (Z : EcF P K mg c_StoreError c_InvalidInput c_NoPlace) (R : RdF K mg c_Round) (W_Keeper : Gx.ClsF K mg c_Keeper "Keeper" []) (M_Keeper : Gx.MkZ K c_Keeper) (I_Keeper_Keeper : PySem.W.kitOne K (.ref c_Keeper) (.ref c_Keeper) = some true) (W_Greedy : Gx.ClsF K mg c_Greedy "Greedy" []) (M_Greedy : Gx.MkZ K c_Greedy) (I_Greedy_Keeper : PySem.W.kitOne K (.ref c_Greedy) (.ref c_Keeper) = some true) (W_Lazy : Gx.ClsF K mg c_Lazy "Lazy" ["_mark"]) (I_Lazy_Keeper : PySem.W.kitOne K (.ref c_Lazy) (.ref c_Keeper) = some true) (W_Thrifty : Gx.ClsF K mg c_Thrifty "Thrifty" ["_limit"]) (I_Thrifty_Keeper : PySem.W.kitOne K (.ref c_Thrifty) (.ref c_Keeper) = some true) (W_RuleKeeper : Gx.ClsF K mg c_RuleKeeper "RuleKeeper" ["_rules"]) (I_RuleKeeper_Keeper : PySem.W.kitOne K (.ref c_RuleKeeper) (.ref c_Keeper) = some true) (D : DfG K mg "_law_box" s_law_box [] [])  : ClG CX0 P w K mg base 3 "_law_box" s_law_box ["_law_script", "_law_at"] [] [] (spBx5 K) := by
  have nd := sc_law_box.nd
  refine D.okP sc_law_box (fun vs H Q E h => ?_) (fun f cdv A outer s H vs Q E hr h => ?_)
  · obtain ⟨s, i, zs, rfl, _⟩ := h
    rfl
  · obtain ⟨s, i, zs, rfl, ⟨hs, hl, h0, h1⟩, k⟩ := h
    have hu := hu64 hr
    refine ⟨_, (pss_cons (ps_set (i := 2) nd rfl (Or.inl rfl) (pe_callB (callSumXK (K := K) (by rfl) rfl) (by rfl) T.sum (by decide +kernel) (pa_cons (pe_lc (own := [("_law_cell", 3)]) (g := gName 3) rfl nd (pi_listK (K := K) (by rfl) (pe_slice (slAnyK (K := K) (by rfl)) (pv 0) po_none (po_some pe_int))) (blkOk_by (own := [("_law_cell", 3)]) (N := N_law_box) (sc := defScope s_law_box) (by decide +kernel)) (fun _ _ _ _ _ => (pg_name (i := 3) nd rfl (Or.inl rfl))) (fun _ _ _ _ _ => pts_nil) (fun _ _ _ _ _ => (pe_op opMod (pe_callTy callInt (by rfl) T.int (by decide +kernel) (pa_cons (pv 3) pa_nil)) pe_int))) pa_nil)))
    (pss_one (ps_ret (pe_lst (pa_cons pe_int (pa_cons (pe_op opMod (pe_callTy callInt (by rfl) T.int (by decide +kernel) (pa_cons (pe_op (opAddK (K := K) (by rfl)) (pe_op (opAddK (K := K) (by rfl)) (pv 2) (pe_op (opMulK (K := K) (by rfl)) pe_int (pv 1))) pe_int) pa_nil)) pe_int) (pa_cons pe_int (pa_cons (pv 1) pa_nil)))))))), ?_⟩
    try dsimp only [L2.cxOf, L2.Cx.nox]
    simp only [L2.start, N_law_box, List.map_cons, List.map_nil, List.length_cons, List.length_nil, Nat.reduceAdd, Nat.reduceSub, List.replicate_succ, List.replicate_zero, List.cons_append, List.nil_append]

    walk_at "gos"
    rename_i p H1 np e1 hp
    have hcl := cutV_length (zs.map V.int) none (some 63)
    rw [List.length_map] at hcl
    refine Gx.lcL_A (fun v => ∃ m, v = V.int m) (by omega) (fun D j x acc H' hx hD e hp hz => ?_) (fun D acc H' hD e hp hl hP => ?_)
    · obtain ⟨m, rfl⟩ : ∃ m, x = V.int m := by
        have h1 := List.mem_of_getElem? hx
        obtain ⟨m, _, h⟩ := List.mem_map.mp (List.mem_of_mem_drop (List.mem_of_mem_take h1))
        exact ⟨m, h.symm⟩
      walk_at "gos"
      exact ⟨Gx.rel, _, rfl, _, rfl⟩
    · obtain ⟨ms, rfl⟩ := Gx.of_all hP
      walk_at "gos"
      rename_i hp9
      exact k _ _ Gx.new Gx.rel ⟨[0, (ms.sum + 7919 * i + 101) % 2147483647, 0, i], hp9.eq, rfl, h0⟩
local macro_rules | `(tactic| walk_at "call") => `(tactic| ((with_reducible show spTk5 _ _ _ _ _); refine ⟨_, _, _, _, rfl, ⟨by infer_instance, by infer_instance, by omega, by omega⟩, ?_⟩; intro d_ H_ h0_ h1_ e_ hB_))

def spIct : Sp := fun vs H Q _ => ∃ i : Int, vs = [.int i] ∧ Q (.bl true) H
abbrev s_law_is_count : Stmt := (top 52)
abbrev N_law_is_count : List Str := ["_law_thing"]
theorem sc_law_is_count : FnScope N_law_is_count ["_law_thing"] (defScope s_law_is_count) := ⟨rfl, rfl, rfl, by decide +kernel, rfl, by decide +kernel, by decide +kernel⟩
theorem cl_law_is_count (T : Bl mg) (Z : EcF P K mg c_StoreError c_InvalidInput c_NoPlace) (R : RdF K mg c_Round) (W_Keeper : Gx.ClsF K mg c_Keeper "Keeper" []) (M_Keeper : Gx.MkZ K c_Keeper) (I_Keeper_Keeper : PySem.W.kitOne K (.ref c_Keeper) (.ref c_Keeper) = some true) (W_Greedy : Gx.ClsF K mg c_Greedy "Greedy" []) (M_Greedy : Gx.MkZ K c_Greedy) (I_Greedy_Keeper : PySem.W.kitOne K (.ref c_Greedy) (.ref c_Keeper) = some true) (W_Lazy : Gx.ClsF K mg c_Lazy "Lazy" ["_mark"]) (I_Lazy_Keeper : PySem.W.kitOne K (.ref c_Lazy) (.ref c_Keeper) = some true) (W_Thrifty : Gx.ClsF K mg c_Thrifty "Thrifty" ["_limit"]) (I_Thrifty_Keeper : PySem.W.kitOne K (.ref c_Thrifty) (.ref c_Keeper) = some true) (W_RuleKeeper : Gx.ClsF K mg c_RuleKeeper "RuleKeeper" ["_rules"]) (I_RuleKeeper_Keeper : PySem.W.kitOne K (.ref c_RuleKeeper) (.ref c_Keeper) = some true) (D : DfG K mg "_law_is_count" s_law_is_count [] [])  : ClG CX0 P w K mg base 3 "_law_is_count" s_law_is_count ["_law_thing"] [] [] spIct := by
  have nd := sc_law_is_count.nd
  refine D.okP sc_law_is_count (fun vs H Q E h => ?_) (fun f cdv A outer s H vs Q E hr h => ?_)
  · obtain ⟨i, rfl, _⟩ := h
    rfl
  · obtain ⟨i, rfl, k⟩ := h
    have hu := hu64 hr
    refine ⟨_, (pss_one (ps_ret (pe_and (pe_callB (callIsiK (K := K) (by rfl)) (by rfl) T.isinstance (by decide +kernel) (pa_cons (pv 0) (pa_cons (pe_bltn (v := .ty "int") (by rfl) T.int (by decide +kernel) rfl) pa_nil))) (pe_one (pe_not (pe_callB (callIsiK (K := K) (by rfl)) (by rfl) T.isinstance (by decide +kernel) (pa_cons (pv 0) (pa_cons (pe_bltn (v := .ty "bool") (by rfl) T.bool (by decide +kernel) rfl) pa_nil)))))))), ?_⟩
    try dsimp only [L2.cxOf, L2.Cx.nox]
    simp only [L2.start, N_law_is_count, List.map_cons, List.map_nil, List.length_cons, List.length_nil, Nat.reduceAdd, Nat.reduceSub, List.replicate_succ, List.replicate_zero, List.cons_append, List.nil_append]

    walk_at "gos"
    all_goals exact k
local macro_rules | `(tactic| walk_at "call") => `(tactic| ((with_reducible show spTk5 _ _ _ _ _); refine ⟨_, _, _, _, rfl, ⟨by infer_instance, by infer_instance, by omega, by omega⟩, ?_⟩; intro d_ H_ h0_ h1_ e_ hB_))
abbrev s_law_round : Stmt := (top 55)
abbrev N_law_round : List Str := ["_law_pays_here", "_law_made", "_law_pay"]
theorem sc_law_round : FnScope N_law_round ["_law_pays_here"] (defScope s_law_round) := ⟨rfl, rfl, rfl, by decide +kernel, rfl, by decide +kernel, by decide +kernel⟩
theorem cl_law_round (T : Bl mg) (Z : EcF P K mg c_StoreError c_InvalidInput c_NoPlace) (R : RdF K mg c_Round) (W_Keeper : Gx.ClsF K mg c_Keeper "Keeper" []) (M_Keeper : Gx.MkZ K c_Keeper) (I_Keeper_Keeper : PySem.W.kitOne K (.ref c_Keeper) (.ref c_Keeper) = some true) (W_Greedy : Gx.ClsF K mg c_Greedy "Greedy" []) (M_Greedy : Gx.MkZ K c_Greedy) (I_Greedy_Keeper : PySem.W.kitOne K (.ref c_Greedy) (.ref c_Keeper) = some true) (W_Lazy : Gx.ClsF K mg c_Lazy "Lazy" ["_mark"]) (I_Lazy_Keeper : PySem.W.kitOne K (.ref c_Lazy) (.ref c_Keeper) = some true) (W_Thrifty : Gx.ClsF K mg c_Thrifty "Thrifty" ["_limit"]) (I_Thrifty_Keeper : PySem.W.kitOne K (.ref c_Thrifty) (.ref c_Keeper) = some true) (W_RuleKeeper : Gx.ClsF K mg c_RuleKeeper "RuleKeeper" ["_rules"]) (I_RuleKeeper_Keeper : PySem.W.kitOne K (.ref c_RuleKeeper) (.ref c_Keeper) = some true) (D : DfG K mg "_law_round" s_law_round [] []) (C_Round___add__ : ClM CX0 P w K mg base 7 c_Round "__add__" "Round.__add__" s_Round___add__ ["self", "other"] [] [] (spRadd c_Round)) (C_Round___init__ : ClI CX0 P w K mg base 5 c_Round) : ClG CX0 P w K mg base 9 "_law_round" s_law_round ["_law_pays_here"] [] [] (spLRd c_Round K) := by
  have nd := sc_law_round.nd
  refine D.okP sc_law_round (fun vs H Q E h => ?_) (fun f cdv A outer s H vs Q E hr h => ?_)
  · obtain ⟨p, bs, rfl, _⟩ := h
    rfl
  · obtain ⟨p, bs, rfl, ⟨hp, hR⟩, k⟩ := h
    have hu := hu64 hr
    refine ⟨_, (pss_cons (ps_set (i := 1) nd rfl (Or.inl rfl) (pe_mkR C_Round___init__ (by exact hr.mono (by decide)) (by rfl) R.g pass0 (pa_cons (pe_ix (ixSeqK (K := K) (by rfl)) (pv 0) pe_int (fun _ _ => rfl)) pa_nil)))
    (pss_cons (ps_for PassesOwn.never rfl (pi_listK (K := K) (by rfl) (pe_slice (slAnyK (K := K) (by rfl)) (pv 0) (po_some pe_int) po_none)) (pg_name (i := 2) nd rfl (Or.inl rfl))
      (pss_one (ps_set (i := 1) nd rfl (Or.inl rfl) (pe_op (opOwnAdd C_Round___add__ R.sf (by exact hr.mono (by decide)) pass0 (fun _ _ _ _ _ _ us hl => match us, hl with | [_, _], _ => rfl)) (pv 1) (pe_mkR C_Round___init__ (by exact hr.mono (by decide)) (by rfl) R.g pass0 (pa_cons (pv 2) pa_nil))))))
    (pss_one (ps_ret (pv 1))))), ?_⟩
    try dsimp only [L2.cxOf, L2.Cx.nox]
    simp only [L2.start, N_law_round, List.map_cons, List.map_nil, List.length_cons, List.length_nil, Nat.reduceAdd, Nat.reduceSub, List.replicate_succ, List.replicate_zero, List.cons_append, List.nil_append]

    have l1 := hR.l1
    have l2 := hR.l2
    have h0 := hR.h0
    cases bs with
    | nil => simp at l1
    | cons b0 br =>
      have hb0 := h0 b0 (List.mem_cons_self ..)
      rw [List.length_cons] at l2
      walk_at "gos"
      refine Gx.g_mkR (bs := [b0]) (by simp) (by simp; omega) fun a1 H1 n1 e1 r1 => ?_
      walk_at "gos"
      rename_i q H2 nq e2 hq
      rw [Gx.cutV_int, cutI_from (by decide), show (b0 :: br).drop (Int.toNat 1) = br from rfl] at hq
      refine Gx.forL [] (fun i σ' H' => ∃ (a : Addr) (s2 : Option V), σ' = [some (.ref p), some (.ref a), s2] ∧ Nw H a ∧ RdC c_Round H' a (b0 :: br.take i)) ⟨_, _, rfl, n1, inferInstance⟩ ?_ ?_
      · rintro i x σ' H' hx e ⟨a, s2, rfl, na, ra⟩
        obtain ⟨y, hy, rfl⟩ := Gx.map_at hx
        have hy0 := h0 y (List.mem_cons_of_mem _ (List.mem_of_getElem? hy))
        have hil : i < br.length := (List.getElem?_eq_some_iff.mp hy).1
        have htk : (b0 :: br.take i) ++ [y] = b0 :: br.take (i + 1) := by rw [List.take_succ, hy]; rfl
        have hRB : RB ((b0 :: br.take i) ++ [y]) := by
          rw [htk]
          exact rb_mem2 hR (fun x hx => (List.mem_cons.mp hx).elim (fun e => e ▸ List.mem_cons_self ..) fun h => List.mem_cons_of_mem _ (List.mem_of_mem_take h)) (by simp) (by rw [List.length_cons, List.length_take]; omega)
        walk_at "gos"
        refine Gx.g_mkR (bs := [y]) (by simp) (by simp; omega) fun a2 H3 n2 e3 r2 => ?_
        walk_at "gos"
        rename_i d H4 n4 e4 r4
        rw [htk] at r4
        refine ⟨⟨_, rfl⟩, ?_⟩
        walk_at "gos"
        exact Gx.li ⟨_, _, rfl, Gx.new, r4⟩
      · rintro σ' H' e ⟨a, s2, rfl, na, ra⟩
        rw [List.length_map, List.take_of_length_le (Nat.le_refl _)] at ra
        walk_at "gos"
        exact k _ _ na Gx.rel ra
instance (priority := low) scn2 {K : PySem.W.Frag} {H1 H : Hp} {s b c : Addr} {xs : List V} [r : Chg [c] H1 H] [h : ScN K H1 s b xs] [h2 : ScN K H1 s c xs] : ScN K H s b xs := ⟨by
  rcases h.ex with ⟨h1, h3⟩ | h
  · rcases h2.ex with ⟨_, h4⟩ | h2
    · exact .inl ⟨r.rd (by simpa using h4) h1, h3⟩
    · exact .inr h2
  · exact .inr h⟩
def spPay (K : PySem.W.Frag) : Sp := fun vs H Q _ => ∃ (s b : Addr) (zs : List Int), vs = [.ref s, .ref b] ∧ (ScN K H s b (zs.map V.int) ∧ Bk b H) ∧ ∀ p (bs : List Int) H', Nw H p → ExB b H H' → Bk b H' → At H' p (.lst (bs.map V.int)) → RB bs → (∀ x ∈ bs, x ≤ 10 ^ 30) → Q (.ref p) H'
abbrev s_law_pays : Stmt := (top 56)
abbrev N_law_pays : List Str := ["_law_script", "_law_box_here", "_law_pays_here", "_law_k", "_law_top"]
theorem sc_law_pays : FnScope N_law_pays ["_law_script", "_law_box_here"] (defScope s_law_pays) := ⟨rfl, rfl, rfl, by decide +kernel, rfl, by decide +kernel, by decide +kernel⟩
theorem cl_law_pays (T : Bl mg) (Z : EcF P K mg c_StoreError c_InvalidInput c_NoPlace) (R : RdF K mg c_Round) (W_Keeper : Gx.ClsF K mg c_Keeper "Keeper" []) (M_Keeper : Gx.MkZ K c_Keeper) (I_Keeper_Keeper : PySem.W.kitOne K (.ref c_Keeper) (.ref c_Keeper) = some true) (W_Greedy : Gx.ClsF K mg c_Greedy "Greedy" []) (M_Greedy : Gx.MkZ K c_Greedy) (I_Greedy_Keeper : PySem.W.kitOne K (.ref c_Greedy) (.ref c_Keeper) = some true) (W_Lazy : Gx.ClsF K mg c_Lazy "Lazy" ["_mark"]) (I_Lazy_Keeper : PySem.W.kitOne K (.ref c_Lazy) (.ref c_Keeper) = some true) (W_Thrifty : Gx.ClsF K mg c_Thrifty "Thrifty" ["_limit"]) (I_Thrifty_Keeper : PySem.W.kitOne K (.ref c_Thrifty) (.ref c_Keeper) = some true) (W_RuleKeeper : Gx.ClsF K mg c_RuleKeeper "RuleKeeper" ["_rules"]) (I_RuleKeeper_Keeper : PySem.W.kitOne K (.ref c_RuleKeeper) (.ref c_Keeper) = some true) (D : DfG K mg "_law_pays" s_law_pays [] []) (C_law_take : ClG CX0 P w K mg base 3 "_law_take" s_law_take ["_law_script", "_law_box_here", "_law_many"] [] [] (spTk5 K)) : ClG CX0 P w K mg base 5 "_law_pays" s_law_pays ["_law_script", "_law_box_here"] [] [] (spPay K) := by
  have nd := sc_law_pays.nd
  refine D.okP sc_law_pays (fun vs H Q E h => ?_) (fun f cdv A outer s H vs Q E hr h => ?_)
  · obtain ⟨s, b, zs, rfl, _⟩ := h
    rfl
  · obtain ⟨s, b, zs, rfl, ⟨hs, hb⟩, k⟩ := h
    have hu := hu64 hr
    refine ⟨_, (pss_cons (ps_set (i := 2) nd rfl (Or.inl rfl) (pe_lst pa_nil))
    (pss_cons (ps_for PassesOwn.never rfl (pi_range1 rfl T.range (pa_cons (pe_op (opAddK (K := K) (by rfl)) pe_int (pe_g C_law_take (by exact hr.mono (by decide)) (E := fun _ => E0) (fun σ => passC0 σ) (fun _ _ _ _ _ _ us hl => match us, hl with | [_, _, _], _ => rfl) (pa_cons (pv 0) (pa_cons (pv 1) (pa_cons pe_int pa_nil))))) pa_nil)) (pg_name (i := 3) nd rfl (Or.inl rfl))
      (pss_cons (ps_set (i := 4) nd rfl (Or.inl rfl) (pe_ix (ixSeqK (K := K) (by rfl)) (pe_lst (pa_cons pe_int (pa_cons pe_int (pa_cons pe_int (pa_cons pe_int (pa_cons pe_int (pa_cons (pe_op (opAddK (K := K) (by rfl)) (pe_op opPow pe_int pe_int) pe_int) pa_nil))))))) (pe_g C_law_take (by exact hr.mono (by decide)) (E := fun _ => E0) (fun σ => passC0 σ) (fun _ _ _ _ _ _ us hl => match us, hl with | [_, _, _], _ => rfl) (pa_cons (pv 0) (pa_cons (pv 1) (pa_cons pe_int pa_nil)))) (fun _ _ => rfl)))
    (pss_one (ps_expr (pe_bmK (K := K) (by rfl) PySem.F.plainAttrs_list PySem.F.slot_list_append PySem.F.type_list_append mt_append (pv 2) (pa_cons (pe_g C_law_take (by exact hr.mono (by decide)) (E := fun _ => E0) (fun σ => passC0 σ) (fun _ _ _ _ _ _ us hl => match us, hl with | [_, _, _], _ => rfl) (pa_cons (pv 0) (pa_cons (pv 1) (pa_cons (pv 4) pa_nil)))) pa_nil))))))
    (pss_one (ps_ret (pv 2))))), ?_⟩
    try dsimp only [L2.cxOf, L2.Cx.nox]
    simp only [L2.start, N_law_pays, List.map_cons, List.map_nil, List.length_cons, List.length_nil, Nat.reduceAdd, Nat.reduceSub, List.replicate_succ, List.replicate_zero, List.cons_append, List.nil_append]

    walk_at "go"
    rename_i p H1 np e1 hp d H2 d0 d1 e2 hB2
    have hsp : ScN K H1 s p (zs.map V.int) := scn_of hs.sqc np e1
    refine Gx.for1 [b, p] (fun t σ' H' => ∃ (bs : List Int) (s4 s5 : Option V), σ' = [some (.ref s), some (.ref b), some (.ref p), s4, s5] ∧ At H' p (.lst (bs.map V.int)) ∧ Bk b H' ∧ ScN K H' s b (zs.map V.int) ∧ ScN K H' s p (zs.map V.int) ∧ bs.length = t ∧ ∀ x ∈ bs, 0 ≤ x ∧ x ≤ 10 ^ 30) (by omega) ⟨[], _, _, rfl, inferInstance, inferInstance, inferInstance, inferInstance, rfl, fun x hx => by cases hx⟩ ?_ ?_
    · rintro t σ' H' hi e ⟨bs, s4, s5, rfl, hp', hB', hs1, hs2, hlen, hbd⟩
      have hne : NeC p b := inferInstance
      walk_at "go"
      rename_i pl H4 npl e4 hpl d3 H5 f0 f1 e5 hB5
      refine ix_lit (fun x => 2 ≤ x ∧ x ≤ 10 ^ 30 + 1) (by omega) (by simp; omega) (by simp) fun tp htp => ?_
      walk_at "go"
      rename_i d4 H6 f2 f3 e6 hB6 H7 e7 hp7
      refine Gx.li ⟨bs ++ [d4], _, _, rfl, by rw [List.map_append]; exact hp7, inferInstance, inferInstance, inferInstance, by rw [List.length_append, hlen]; rfl, fun x hx => ?_⟩
      rcases List.mem_append.mp hx with h | h
      · exact hbd x h
      · rw [List.mem_singleton.mp h]; omega
    · rintro σ' H' e ⟨bs, s4, s5, rfl, hp', hB', hs1, hs2, hlen, hbd⟩
      walk_at "go"
      exact k p bs _ Gx.new Gx.rel hB' hp' ⟨by omega, by omega, fun x hx => (hbd x hx).1, fun x hx => by have := (hbd x hx).2; omega⟩ fun x hx => (hbd x hx).2

/-- both ways of an `if` meet again -/
theorem ite_join {c : Prop} [Decidable c] {A B : Ends → L2.St → Hp → Prop} {D : Ends} {σ : L2.St} {H : Hp} (P : L2.St → Hp → Prop) (h : ∀ N : L2.St → Hp → Prop, (∀ σ' H', P σ' H' → N σ' H') → if c then A { D with nx := N } σ H else B { D with nx := N } σ H) (hk : ∀ σ' H', P σ' H' → D.nx σ' H') : if c then A D σ H else B D σ H := h D.nx hk
local macro_rules | `(tactic| walk_at "call") => `(tactic| ((with_reducible show spTk5 _ _ _ _ _); refine ⟨_, _, _, _, rfl, ⟨by infer_instance, by infer_instance, by omega, by omega⟩, ?_⟩; intro d_ H_ h0_ h1_ e_ hB_))
def spLwd (K : PySem.W.Frag) : Sp := fun vs H Q _ => ∃ (s b : Addr) (wide : Int) (zs : List Int), vs = [.ref s, .ref b, .int wide] ∧ (ScN K H s b (zs.map V.int) ∧ Bk b H ∧ 1 ≤ wide ∧ wide ≤ 64) ∧
  ∀ (l : List Bool) H', ExB b H H' → Bk b H' → Wd l → (l.length : Int) ≤ wide → Q (.str (tx l)) H'
abbrev s_law_word : Stmt := (top 57)
abbrev N_law_word : List Str := ["_law_script", "_law_box_here", "_law_wide", "_law_size", "_law_way", "_law_kind", "_law_text", "_law_k", "_law_digit"]
theorem sc_law_word : FnScope N_law_word ["_law_script", "_law_box_here", "_law_wide"] (defScope s_law_word) := ⟨rfl, rfl, rfl, by decide +kernel, rfl, by decide +kernel, by decide +kernel⟩
theorem cl_law_word (T : Bl mg) (Z : EcF P K mg c_StoreError c_InvalidInput c_NoPlace) (R : RdF K mg c_Round) (W_Keeper : Gx.ClsF K mg c_Keeper "Keeper" []) (M_Keeper : Gx.MkZ K c_Keeper) (I_Keeper_Keeper : PySem.W.kitOne K (.ref c_Keeper) (.ref c_Keeper) = some true) (W_Greedy : Gx.ClsF K mg c_Greedy "Greedy" []) (M_Greedy : Gx.MkZ K c_Greedy) (I_Greedy_Keeper : PySem.W.kitOne K (.ref c_Greedy) (.ref c_Keeper) = some true) (W_Lazy : Gx.ClsF K mg c_Lazy "Lazy" ["_mark"]) (I_Lazy_Keeper : PySem.W.kitOne K (.ref c_Lazy) (.ref c_Keeper) = some true) (W_Thrifty : Gx.ClsF K mg c_Thrifty "Thrifty" ["_limit"]) (I_Thrifty_Keeper : PySem.W.kitOne K (.ref c_Thrifty) (.ref c_Keeper) = some true) (W_RuleKeeper : Gx.ClsF K mg c_RuleKeeper "RuleKeeper" ["_rules"]) (I_RuleKeeper_Keeper : PySem.W.kitOne K (.ref c_RuleKeeper) (.ref c_Keeper) = some true) (D : DfG K mg "_law_word" s_law_word [] []) (C_law_take : ClG CX0 P w K mg base 3 "_law_take" s_law_take ["_law_script", "_law_box_here", "_law_many"] [] [] (spTk5 K)) : ClG CX0 P w K mg base 5 "_law_word" s_law_word ["_law_script", "_law_box_here", "_law_wide"] [] [] (spLwd K) := by
  have nd := sc_law_word.nd
  refine D.okP sc_law_word (fun vs H Q E h => ?_) (fun f cdv A outer s H vs Q E hr h => ?_)
  · obtain ⟨s, b, wide, zs, rfl, _⟩ := h
    rfl
  · obtain ⟨s, b, wide, zs, rfl, ⟨hs, hb, h3, h4⟩, k⟩ := h
    have hu := hu64 hr
    refine ⟨_, (pss_cons (ps_set (i := 3) nd rfl (Or.inl rfl) (pe_g C_law_take (by exact hr.mono (by decide)) (E := fun _ => E0) (fun σ => passC0 σ) (fun _ _ _ _ _ _ us hl => match us, hl with | [_, _, _], _ => rfl) (pa_cons (pv 0) (pa_cons (pv 1) (pa_cons (pe_op (opAddK (K := K) (by rfl)) (pv 2) pe_int) pa_nil)))))
    (pss_cons (ps_set (i := 4) nd rfl (Or.inl rfl) (pe_g C_law_take (by exact hr.mono (by decide)) (E := fun _ => E0) (fun σ => passC0 σ) (fun _ _ _ _ _ _ us hl => match us, hl with | [_, _, _], _ => rfl) (pa_cons (pv 0) (pa_cons (pv 1) (pa_cons pe_int pa_nil)))))
    (pss_cons (ps_if (pt_cmpR (opEqK (K := K) (by rfl) (by exact hu)) (pv 4) pe_int (nomark _))
      (pss_one (ps_set (i := 3) nd rfl (Or.inl rfl) (pv 2)))
      pss_nil)
    (pss_cons (ps_if (PW.pt (pw_or (pt_cmpR (opEqK (K := K) (by rfl) (by exact hu)) (pv 4) pe_int (nomark _)) (pw_or1 (pt_cmpR (opEqK (K := K) (by rfl) (by exact hu)) (pv 4) pe_int (nomark _)))))
      (pss_one (ps_set (i := 3) nd rfl (Or.inl rfl) (pe_callB (callMax2 rfl) (by rfl) T.max (by decide +kernel) (pa_cons pe_int (pa_cons (pe_op opSub (pe_op opSub (pv 2) pe_int) (pe_op opDiv (pv 3) pe_int)) pa_nil)))))
      pss_nil)
    (pss_cons (ps_if (pt_cmpR (opEqK (K := K) (by rfl) (by exact hu)) (pv 3) pe_int (nomark _))
      (pss_one (ps_ret pe_str))
      pss_nil)
    (pss_cons (ps_set (i := 5) nd rfl (Or.inl rfl) (pe_g C_law_take (by exact hr.mono (by decide)) (E := fun _ => E0) (fun σ => passC0 σ) (fun _ _ _ _ _ _ us hl => match us, hl with | [_, _, _], _ => rfl) (pa_cons (pv 0) (pa_cons (pv 1) (pa_cons pe_int pa_nil)))))
    (pss_cons (ps_set (i := 6) nd rfl (Or.inl rfl) pe_str)
    (pss_cons (ps_for PassesOwn.never rfl (pi_range1 rfl T.range (pa_cons (pe_op opSub (pv 3) pe_int) pa_nil)) (pg_name (i := 7) nd rfl (Or.inl rfl))
      (pss_cons (ps_set (i := 8) nd rfl (Or.inl rfl) (pe_g C_law_take (by exact hr.mono (by decide)) (E := fun _ => E0) (fun σ => passC0 σ) (fun _ _ _ _ _ _ us hl => match us, hl with | [_, _, _], _ => rfl) (pa_cons (pv 0) (pa_cons (pv 1) (pa_cons (pe_ix (ixSeqK (K := K) (by rfl)) (pe_lst (pa_cons pe_int (pa_cons pe_int (pa_cons pe_int pa_nil)))) (pv 5) (fun _ _ => rfl)) pa_nil)))))
    (pss_one (ps_set (i := 6) nd rfl (Or.inl rfl) (pe_op (opAddK (K := K) (by rfl)) (pv 6) (pe_ix (ixSeqK (K := K) (by rfl)) pe_str (pe_callTy callInt (by rfl) T.int (by decide +kernel) (pa_cons (pe_or (pe_cmpR (opEqK (K := K) (by rfl) (by exact hu)) (pv 8) pe_int (nomark _)) (pe_one (pe_and (pe_cmpR (opEqK (K := K) (by rfl) (by exact hu)) (pv 5) pe_int (nomark _)) (pe_one (pe_cmpR opGt (pv 8) pe_int (nomark _)))))) pa_nil)) (fun _ _ => rfl)))))))
    (pss_one (ps_ret (pv 6))))))))))), ?_⟩
    try dsimp only [L2.cxOf, L2.Cx.nox]
    simp only [L2.start, N_law_word, List.map_cons, List.map_nil, List.length_cons, List.length_nil, Nat.reduceAdd, Nat.reduceSub, List.replicate_succ, List.replicate_zero, List.cons_append, List.nil_append]

    walk_at "go"
    rename_i d H1 a0 a1 a2 a3 way H2 b0 b1 b2 b3
    refine ite_join (fun σ' H' => ∃ z : Int, σ' = [some (.ref s), some (.ref b), some (.int wide), some (.int z), some (.int way), none, none, none, none] ∧ H' = H2 ∧ 0 ≤ z ∧ z ≤ wide) (fun N hk => ?_) ?_
    · refine Gx.g_ite (fun hI => ?_) (fun hI => ?_)
      · walk_at "go"
        exact hk _ _ ⟨_, rfl, rfl, by omega, by omega⟩
      · walk_at "go"
        exact hk _ _ ⟨_, rfl, rfl, by omega, by omega⟩
    rintro σ' H' ⟨z, rfl, rfl, z0, z1⟩
    walk_at "go"
    refine ite_join (c := decide (way = 1) = true) (A := fun D σ H => if true = true then tAsg (tCB rMax2 (tCons (tC (V.int 0)) (tCons (tOp Gx.rSub (tOp Gx.rSub (tVar 2) (tC (V.int 1))) (tOp rDiv (tVar 3) (tC (V.int 4)))) tNil))) (gName 3) D σ H else tNext D σ H) (B := fun D σ H => tTest (tOp (rEqX K) (tVar 4) (tC (V.int 2))) σ H fun c H1 => if c = true then tAsg (tCB rMax2 (tCons (tC (V.int 0)) (tCons (tOp Gx.rSub (tOp Gx.rSub (tVar 2) (tC (V.int 1))) (tOp rDiv (tVar 3) (tC (V.int 4)))) tNil))) (gName 3) D σ H1 else tNext D σ H1) (fun σ' G => ∃ z : Int, σ' = [some (.ref s), some (.ref b), some (.int wide), some (.int z), some (.int way), none, none, none, none] ∧ G = H' ∧ 0 ≤ z ∧ z ≤ wide) (fun N hk => ?_) ?_
    · have hm : 0 ≤ (if wide - 1 - z / 4 > 0 then wide - 1 - z / 4 else 0) ∧ (if wide - 1 - z / 4 > 0 then wide - 1 - z / 4 else 0) ≤ wide := by split <;> omega
      walk_at "gos"
      all_goals exact hk _ _ ⟨_, rfl, rfl, by omega, by omega⟩
    rintro σ' H' ⟨z, rfl, rfl, z0, z1⟩
    walk_at "gos"
    · exact k [] _ Gx.rel inferInstance Wd.nil (by show (0 : Int) ≤ wide; omega)
    rename_i hI kd H3 c0 c1 c2 c3
    refine Gx.for1 [b] (fun t σ' H' => ∃ (m : List Bool) (s7 s8 : Option V), σ' = [some (.ref s), some (.ref b), some (.int wide), some (.int z), some (.int way), some (.int kd), some (.str (tx m)), s7, s8] ∧ Bk b H' ∧ ScN K H' s b (zs.map V.int) ∧ m.length = t + 1 ∧ m.head? = some true) (by omega) ⟨[true], _, _, rfl, inferInstance, inferInstance, rfl, rfl⟩ ?_ ?_
    · rintro t σ' H' hi e ⟨m, s7, s8, rfl, hB', hs', hml, hmh⟩
      have hap : ∀ c : Bool, (m ++ [c]).length = t + 1 + 1 ∧ (m ++ [c]).head? = some true := fun c => by
        refine ⟨by rw [List.length_append, hml]; rfl, ?_⟩
        cases m with
        | nil => simp at hml
        | cons x r => exact hmh
      walk_at "go"
      refine ix_lit (fun x => 2 ≤ x ∧ x ≤ 5) (by omega) (by simp; omega) (by simp) fun tp htp => ?_
      walk_at "gos"
      all_goals first
        | exact Gx.li ⟨m ++ [false], _, _, rfl, inferInstance, inferInstance, (hap false).1, (hap false).2⟩
        | exact Gx.li ⟨m ++ [true], _, _, rfl, inferInstance, inferInstance, (hap true).1, (hap true).2⟩
        | (split
           · walk_at "go"
             exact Gx.li ⟨m ++ [true], _, _, rfl, inferInstance, inferInstance, (hap true).1, (hap true).2⟩
           · walk_at "go"
             exact Gx.li ⟨m ++ [false], _, _, rfl, inferInstance, inferInstance, (hap false).1, (hap false).2⟩)
    · rintro σ' H' e ⟨m, s7, s8, rfl, hB', hs', hml, hmh⟩
      walk_at "go"
      exact k m _ Gx.rel hB' ⟨by omega, by rw [hmh]; simp⟩ (by omega)
def spStd (K : PySem.W.Frag) : Sp := fun vs H Q _ => ∃ (s b : Addr) (zs : List Int), vs = [.ref s, .ref b] ∧ (ScN K H s b (zs.map V.int) ∧ Bk b H) ∧
  ∀ q (l : List Bool) (p φ : Int) H', Nw H q → ExB b H H' → Bk b H' → At H' q (.lst [.str (tx l), .int p, .int φ]) → (Wd l ∧ (l.length : Int) ≤ p ∧ 1 ≤ p ∧ p ≤ 64 ∧ 0 ≤ φ ∧ φ < 1000000) → Q (.ref q) H'
local macro_rules | `(tactic| walk_at "call") => `(tactic| ((with_reducible show spLwd _ _ _ _ _); refine ⟨_, _, _, _, rfl, ⟨by infer_instance, by infer_instance, by omega, by omega⟩, ?_⟩; intro l_ H_ e_ hB_ hw_ hl_))
abbrev s_law_stand : Stmt := (top 58)
abbrev N_law_stand : List Str := ["_law_script", "_law_box_here", "_law_wide", "_law_beat"]
theorem sc_law_stand : FnScope N_law_stand ["_law_script", "_law_box_here"] (defScope s_law_stand) := ⟨rfl, rfl, rfl, by decide +kernel, rfl, by decide +kernel, by decide +kernel⟩
theorem cl_law_stand (T : Bl mg) (Z : EcF P K mg c_StoreError c_InvalidInput c_NoPlace) (R : RdF K mg c_Round) (W_Keeper : Gx.ClsF K mg c_Keeper "Keeper" []) (M_Keeper : Gx.MkZ K c_Keeper) (I_Keeper_Keeper : PySem.W.kitOne K (.ref c_Keeper) (.ref c_Keeper) = some true) (W_Greedy : Gx.ClsF K mg c_Greedy "Greedy" []) (M_Greedy : Gx.MkZ K c_Greedy) (I_Greedy_Keeper : PySem.W.kitOne K (.ref c_Greedy) (.ref c_Keeper) = some true) (W_Lazy : Gx.ClsF K mg c_Lazy "Lazy" ["_mark"]) (I_Lazy_Keeper : PySem.W.kitOne K (.ref c_Lazy) (.ref c_Keeper) = some true) (W_Thrifty : Gx.ClsF K mg c_Thrifty "Thrifty" ["_limit"]) (I_Thrifty_Keeper : PySem.W.kitOne K (.ref c_Thrifty) (.ref c_Keeper) = some true) (W_RuleKeeper : Gx.ClsF K mg c_RuleKeeper "RuleKeeper" ["_rules"]) (I_RuleKeeper_Keeper : PySem.W.kitOne K (.ref c_RuleKeeper) (.ref c_Keeper) = some true) (D : DfG K mg "_law_stand" s_law_stand [] []) (C_law_word : ClG CX0 P w K mg base 5 "_law_word" s_law_word ["_law_script", "_law_box_here", "_law_wide"] [] [] (spLwd K)) (C_law_take : ClG CX0 P w K mg base 3 "_law_take" s_law_take ["_law_script", "_law_box_here", "_law_many"] [] [] (spTk5 K)) : ClG CX0 P w K mg base 7 "_law_stand" s_law_stand ["_law_script", "_law_box_here"] [] [] (spStd K) := by
  have nd := sc_law_stand.nd
  refine D.okP sc_law_stand (fun vs H Q E h => ?_) (fun f cdv A outer s H vs Q E hr h => ?_)
  · obtain ⟨s, b, zs, rfl, _⟩ := h
    rfl
  · obtain ⟨s, b, zs, rfl, ⟨hs, hb⟩, k⟩ := h
    have hu := hu64 hr
    refine ⟨_, (pss_cons (ps_set (i := 2) nd rfl (Or.inl rfl) (pe_op (opAddK (K := K) (by rfl)) pe_int (pe_g C_law_take (by exact hr.mono (by decide)) (E := fun _ => E0) (fun σ => passC0 σ) (fun _ _ _ _ _ _ us hl => match us, hl with | [_, _, _], _ => rfl) (pa_cons (pv 0) (pa_cons (pv 1) (pa_cons (pe_ix (ixSeqK (K := K) (by rfl)) (pe_lst (pa_cons pe_int (pa_cons pe_int (pa_cons pe_int pa_nil)))) (pe_g C_law_take (by exact hr.mono (by decide)) (E := fun _ => E0) (fun σ => passC0 σ) (fun _ _ _ _ _ _ us hl => match us, hl with | [_, _, _], _ => rfl) (pa_cons (pv 0) (pa_cons (pv 1) (pa_cons pe_int pa_nil)))) (fun _ _ => rfl)) pa_nil))))))
    (pss_cons (ps_set (i := 3) nd rfl (Or.inl rfl) (pe_g C_law_take (by exact hr.mono (by decide)) (E := fun _ => E0) (fun σ => passC0 σ) (fun _ _ _ _ _ _ us hl => match us, hl with | [_, _, _], _ => rfl) (pa_cons (pv 0) (pa_cons (pv 1) (pa_cons (pe_ix (ixSeqK (K := K) (by rfl)) (pe_lst (pa_cons pe_int (pa_cons pe_int (pa_cons (pe_op opPow pe_int pe_int) pa_nil)))) (pe_g C_law_take (by exact hr.mono (by decide)) (E := fun _ => E0) (fun σ => passC0 σ) (fun _ _ _ _ _ _ us hl => match us, hl with | [_, _, _], _ => rfl) (pa_cons (pv 0) (pa_cons (pv 1) (pa_cons pe_int pa_nil)))) (fun _ _ => rfl)) pa_nil)))))
    (pss_one (ps_ret (pe_lst (pa_cons (pe_g C_law_word (by exact hr.mono (by decide)) (E := fun _ => E0) (fun σ => passC0 σ) (fun _ _ _ _ _ _ us hl => match us, hl with | [_, _, _], _ => rfl) (pa_cons (pv 0) (pa_cons (pv 1) (pa_cons (pv 2) pa_nil)))) (pa_cons (pv 2) (pa_cons (pv 3) pa_nil)))))))), ?_⟩
    try dsimp only [L2.cxOf, L2.Cx.nox]
    simp only [L2.start, N_law_stand, List.map_cons, List.map_nil, List.length_cons, List.length_nil, Nat.reduceAdd, Nat.reduceSub, List.replicate_succ, List.replicate_zero, List.cons_append, List.nil_append]

    walk_at "go"
    rename_i q1 G1 m1 f1 hq1 d1 G2 a0 a1 f2 hB2
    refine ix_lit (fun x => 6 ≤ x ∧ x ≤ 64) (by omega) (by simp; omega) (by simp) fun tp htp => ?_
    walk_at "go"
    rename_i dw G3 b0 b1 f3 hB3 q2 G4 n4 f4 hq4 d5 G5 c0 c1 f5 hB5
    refine ix_lit (fun x => 12 ≤ x ∧ x ≤ 1000000) (by omega) (by simp; omega) (by simp) fun tq htq => ?_
    walk_at "go"
    exact k _ _ _ _ _ Gx.new Gx.rel inferInstance (by assumption) ⟨by assumption, by omega, by omega, by omega, by omega, by omega⟩
/-- a standing of the law: word, places, phase -/
def StB (H : Hp) (q : Addr) (l : List Bool) (p φ : Int) : Prop := H q = some (.lst [.str (tx l), .int p, .int φ]) ∧ (Wd l ∧ (l.length : Int) ≤ p ∧ 1 ≤ p ∧ p ≤ 64 ∧ 0 ≤ φ ∧ φ < 1000000)
theorem StB.step {l : List Bool} {p φ : Int} {H H' : Hp} {q : Addr} {cs : List Addr} (h : StB H q l p φ) (hq : q ∉ cs) (r : Chg cs H H') : StB H' q l p φ := ⟨r.keep _ _ hq h.1, h.2⟩

theorem g_ixAll {K : PySem.W.Frag} {H : Hp} {Q : VK} {p : Addr} {xs : List V} {i : Int} [h : SqC K H p xs] (h0 : 0 ≤ i) (h1 : i < (xs.length : Int)) (q : ∀ v ∈ xs, Q v H) : rIx K (.ref p) (.int i) H Q := by
  obtain ⟨n, rfl⟩ : ∃ n : Nat, i = (n : Int) := ⟨i.toNat, by omega⟩
  have hn : n < xs.length := by omega
  exact Gx.g_ixN (List.getElem?_eq_getElem hn) (q _ (List.getElem_mem hn))
local macro_rules | `(tactic| walk_at "call") => `(tactic| ((with_reducible show spTk5 _ _ _ _ _); refine ⟨_, _, _, _, rfl, ⟨by infer_instance, by infer_instance, by omega, by omega⟩, ?_⟩; intro d_ H_ h0_ h1_ e_ hB_))
def spMks (K : PySem.W.Frag) : Sp := fun vs H Q _ => ∃ (s b st q1 q2 : Addr) (l1 l2 : List Bool) (p1 p2 φ1 φ2 : Int) (zs : List Int), vs = [.ref s, .ref b, .ref st] ∧ (ScN K H s b (zs.map V.int) ∧ Bk b H ∧ At H st (.lst [.ref q1, .ref q2]) ∧ StB H q1 l1 p1 φ1 ∧ StB H q2 l2 p2 φ2 ∧ NeC st b ∧ NeC q1 b ∧ NeC q2 b) ∧
  ∀ mp m0 m1 m2 H', Nw H mp → ExB b H H' → At H' mp (.lst [.int m0, .int m1, .int m2]) → (0 ≤ m0 ∧ m0 < 2 ^ 100 ∧ 0 ≤ m1 ∧ m1 < 2 ^ 100 ∧ 0 ≤ m2 ∧ m2 < 2 ^ 100) → Q (.ref mp) H'
abbrev s_law_marks : Stmt := (top 59)
abbrev N_law_marks : List Str := ["_law_script", "_law_box_here", "_law_stands", "_law_marks_here", "_law_k", "_law_way", "_law_stand_here", "_law_number"]
theorem sc_law_marks : FnScope N_law_marks ["_law_script", "_law_box_here", "_law_stands"] (defScope s_law_marks) := ⟨rfl, rfl, rfl, by decide +kernel, rfl, by decide +kernel, by decide +kernel⟩
theorem cl_law_marks (T : Bl mg) (Z : EcF P K mg c_StoreError c_InvalidInput c_NoPlace) (R : RdF K mg c_Round) (W_Keeper : Gx.ClsF K mg c_Keeper "Keeper" []) (M_Keeper : Gx.MkZ K c_Keeper) (I_Keeper_Keeper : PySem.W.kitOne K (.ref c_Keeper) (.ref c_Keeper) = some true) (W_Greedy : Gx.ClsF K mg c_Greedy "Greedy" []) (M_Greedy : Gx.MkZ K c_Greedy) (I_Greedy_Keeper : PySem.W.kitOne K (.ref c_Greedy) (.ref c_Keeper) = some true) (W_Lazy : Gx.ClsF K mg c_Lazy "Lazy" ["_mark"]) (I_Lazy_Keeper : PySem.W.kitOne K (.ref c_Lazy) (.ref c_Keeper) = some true) (W_Thrifty : Gx.ClsF K mg c_Thrifty "Thrifty" ["_limit"]) (I_Thrifty_Keeper : PySem.W.kitOne K (.ref c_Thrifty) (.ref c_Keeper) = some true) (W_RuleKeeper : Gx.ClsF K mg c_RuleKeeper "RuleKeeper" ["_rules"]) (I_RuleKeeper_Keeper : PySem.W.kitOne K (.ref c_RuleKeeper) (.ref c_Keeper) = some true) (D : DfG K mg "_law_marks" s_law_marks [] []) (C_law_take : ClG CX0 P w K mg base 3 "_law_take" s_law_take ["_law_script", "_law_box_here", "_law_many"] [] [] (spTk5 K)) : ClG CX0 P w K mg base 5 "_law_marks" s_law_marks ["_law_script", "_law_box_here", "_law_stands"] [] [] (spMks K) := by
  have nd := sc_law_marks.nd
  refine D.okP sc_law_marks (fun vs H Q E h => ?_) (fun f cdv A outer s H vs Q E hr h => ?_)
  · obtain ⟨s, b, st, q1, q2, l1, l2, p1, p2, φ1, φ2, zs, rfl, _⟩ := h
    rfl
  · obtain ⟨s, b, st, q1, q2, l1, l2, p1, p2, φ1, φ2, zs, rfl, ⟨hs, hb, hst, hq1, hq2, n1, n2, n3⟩, k⟩ := h
    have hu := hu64 hr
    refine ⟨_, (pss_cons (ps_set (i := 3) nd rfl (Or.inl rfl) (pe_lst pa_nil))
    (pss_cons (ps_for PassesOwn.never rfl (pi_range1 rfl T.range (pa_cons pe_int pa_nil)) (pg_name (i := 4) nd rfl (Or.inl rfl))
      (pss_cons (ps_set (i := 5) nd rfl (Or.inl rfl) (pe_g C_law_take (by exact hr.mono (by decide)) (E := fun _ => E0) (fun σ => passC0 σ) (fun _ _ _ _ _ _ us hl => match us, hl with | [_, _, _], _ => rfl) (pa_cons (pv 0) (pa_cons (pv 1) (pa_cons pe_int pa_nil)))))
    (pss_cons (ps_set (i := 6) nd rfl (Or.inl rfl) (pe_ix (ixSeqK (K := K) (by rfl)) (pv 2) (pe_g C_law_take (by exact hr.mono (by decide)) (E := fun _ => E0) (fun σ => passC0 σ) (fun _ _ _ _ _ _ us hl => match us, hl with | [_, _, _], _ => rfl) (pa_cons (pv 0) (pa_cons (pv 1) (pa_cons pe_int pa_nil)))) (fun _ _ => rfl)))
    (pss_cons (ps_set (i := 7) nd rfl (Or.inl rfl) (pe_g C_law_take (by exact hr.mono (by decide)) (E := fun _ => E0) (fun σ => passC0 σ) (fun _ _ _ _ _ _ us hl => match us, hl with | [_, _, _], _ => rfl) (pa_cons (pv 0) (pa_cons (pv 1) (pa_cons (pe_ix (ixSeqK (K := K) (by rfl)) (pe_lst (pa_cons pe_int (pa_cons (pe_op (opAddK (K := K) (by rfl)) (pe_op opPow pe_int pe_int) pe_int) (pa_cons pe_int (pa_cons pe_int pa_nil))))) (pv 5) (fun _ _ => rfl)) pa_nil)))))
    (pss_cons (ps_if (pt_cmpR opGt (pv 5) pe_int (nomark _))
      (pss_one (ps_set (i := 7) nd rfl (Or.inl rfl) (pe_callB (callMax2 rfl) (by rfl) T.max (by decide +kernel) (pa_cons pe_int (pa_cons (pe_op opSub (pe_op (opAddK (K := K) (by rfl)) (pe_op opSub (pe_ix (ixSeqK (K := K) (by rfl)) (pv 6) pe_int (fun _ _ => rfl)) (pe_callB (callLenK (K := K) (by rfl)) (by rfl) T.len (by decide +kernel) (pa_cons (pe_ix (ixSeqK (K := K) (by rfl)) (pv 6) pe_int (fun _ _ => rfl)) pa_nil))) (pv 7)) pe_int) pa_nil)))))
      pss_nil)
    (pss_one (ps_expr (pe_bmK (K := K) (by rfl) PySem.F.plainAttrs_list PySem.F.slot_list_append PySem.F.type_list_append mt_append (pv 3) (pa_cons (pv 7) pa_nil)))))))))
    (pss_one (ps_ret (pv 3))))), ?_⟩
    try dsimp only [L2.cxOf, L2.Cx.nox]
    simp only [L2.start, N_law_marks, List.map_cons, List.map_nil, List.length_cons, List.length_nil, Nat.reduceAdd, Nat.reduceSub, List.replicate_succ, List.replicate_zero, List.cons_append, List.nil_append]

    have ha1 : At H q1 _ := ⟨hq1.1⟩
    have ha2 : At H q2 _ := ⟨hq2.1⟩
    have b1 := hq1.2
    have b2 := hq2.2
    walk_at "go"
    rename_i mp H1 nmp e1 hmp
    refine Gx.for1 [b, mp] (fun t σ' H' => ∃ (ms : List Int) (s4 s5 s6 s7 : Option V), σ' = [some (.ref s), some (.ref b), some (.ref st), some (.ref mp), s4, s5, s6, s7] ∧ At H' mp (.lst (ms.map V.int)) ∧ Bk b H' ∧ ScN K H' s b (zs.map V.int) ∧ ScN K H' s mp (zs.map V.int) ∧ ms.length = t ∧ ∀ x ∈ ms, 0 ≤ x ∧ x < 2 ^ 100) (by omega) ⟨[], _, _, _, _, rfl, inferInstance, inferInstance, inferInstance, scn_of hs.sqc nmp e1, rfl, fun x hx => by cases hx⟩ ?_ ?_
    · rintro t σ' H' hi e ⟨ms, s4, s5, s6, s7, rfl, hp', hB', hs1, hs2, hlen, hbd⟩
      have hne : NeC mp b := inferInstance
      walk_at "go"
      rename_i way G1 a0 a1 f1 hB1 d G2 b0 b1 f2 hB2
      refine g_ixAll (by omega) (by simp; omega) fun v hv => ?_
      obtain ⟨q, l, p, φ, rfl, hq, hn⟩ : ∃ q l p φ, v = V.ref q ∧ StB H q l p φ ∧ NeC q b := by
        rcases List.mem_cons.mp hv with rfl | hv
        · exact ⟨q1, l1, p1, φ1, rfl, hq1, n2⟩
        · rw [List.mem_singleton.mp hv]
          exact ⟨q2, l2, p2, φ2, rfl, hq2, n3⟩
      have ha : At H q _ := ⟨hq.1⟩
      have bq := hq.2
      walk_at "go"
      refine ix_lit (fun x => 3 ≤ x ∧ x ≤ 10 ^ 30 + 1) (by omega) (by simp; omega) (by simp) fun tp htp => ?_
      walk_at "gos"
      all_goals
        rename_i G9 e9 hp9
        obtain ⟨m, hm, m0, m1⟩ : ∃ y : Int, At G9 mp (.lst (ms.map V.int ++ [V.int y])) ∧ 0 ≤ y ∧ y < 2 ^ 100 := ⟨_, hp9, by first | omega | (split <;> omega), by first | omega | (split <;> omega)⟩
        refine Gx.li ⟨ms ++ [m], _, _, _, _, rfl, by rw [List.map_append]; exact hm, inferInstance, inferInstance, inferInstance, by rw [List.length_append, hlen]; rfl, fun x hx => ?_⟩
        rcases List.mem_append.mp hx with h | h
        · exact hbd x h
        · rw [List.mem_singleton.mp h]; omega
    · rintro σ' H' e ⟨ms, s4, s5, s6, s7, rfl, hp', hB', hs1, hs2, hlen, hbd⟩
      walk_at "go"
      obtain ⟨m0, m1, m2, rfl⟩ : ∃ a b c, ms = [a, b, c] := by
        match ms, hlen with
        | [a, b, c], _ => exact ⟨a, b, c, rfl⟩
      have g0 := hbd m0 (by simp)
      have g1 := hbd m1 (by simp)
      have g2 := hbd m2 (by simp)
      exact k mp m0 m1 m2 _ Gx.new Gx.rel hp' ⟨g0.1, g0.2, g1.1, g1.2, g2.1, g2.2⟩
theorem min_bud {bs : List Int} {φ : Int} {t y : Nat} (hB : RB bs) : (if ((y : Nat) : Int) < bs.getD ((φ + (t : Nat)) % (bs.length : Int)).toNat 0 then ((y : Nat) : Int) else bs.getD ((φ + (t : Nat)) % (bs.length : Int)).toNat 0) = ((min (bud bs φ t) y : Nat) : Int) := by
  have h := nth_b (t := φ + (t : Nat)) hB
  have hbi : ((bud bs φ t : Nat) : Int) = bs.getD ((φ + (t : Nat)) % (bs.length : Int)).toNat 0 := by
    unfold bud
    unfold nth at h ⊢
    exact Int.toNat_of_nonneg (by omega)
  rw [← hbi]
  generalize bud bs φ t = B
  split <;> omega
theorem if_f {b : Bool} {A B : Prop} (h : b = false) (q : B) : if b = true then A else B := by rw [h, if_neg Bool.false_ne_true]; exact q
theorem if_t {b : Bool} {A B : Prop} (h : b = true) (q : A) : if b = true then A else B := by rw [if_pos h]; exact q
local macro_rules | `(tactic| walk_at "call") => `(tactic| first | with_reducible refine if_f (by decide +kernel) ?_ | with_reducible refine if_t (by decide +kernel) ?_)
/-- the count that a keeper of this kind owes -/
def cntK (z : Str) (m : Int) (bs : List Int) (p : Nat) (φ : Int) (l : List Bool) : Int := if z = "rest" then 0 else if z = "lazy" then (lzy bs p φ l m : Nat) else (mostA bs p φ l : Nat)
def spDue : Sp := fun vs H Q _ => ∃ (pl q pp : Addr) (z : Str) (m : Int) (l : List Bool) (p : Nat) (φ : Int) (bs : List Int), vs = [.ref pl, .ref q, .ref pp] ∧ (At H pl (.lst [.str z, .int m]) ∧ StB H q l (p : Nat) φ ∧ At H pp (.lst (bs.map V.int)) ∧ RB bs ∧ 0 ≤ m ∧ m < 2 ^ 100 ∧ (z = "rest" ∨ z = "greedy" ∨ z = "lazy")) ∧ ∀ H', Ex H H' → Q (.int (cntK z m bs p φ l)) H'
abbrev s_law_due : Stmt := (top 60)
abbrev N_law_due : List Str := ["_law_plan", "_law_stand_here", "_law_pays_here", "_law_word_here", "_law_most"]
theorem sc_law_due : FnScope N_law_due ["_law_plan", "_law_stand_here", "_law_pays_here"] (defScope s_law_due) := ⟨rfl, rfl, rfl, by decide +kernel, rfl, by decide +kernel, by decide +kernel⟩
theorem cl_law_due (T : Bl mg) (Z : EcF P K mg c_StoreError c_InvalidInput c_NoPlace) (R : RdF K mg c_Round) (W_Keeper : Gx.ClsF K mg c_Keeper "Keeper" []) (M_Keeper : Gx.MkZ K c_Keeper) (I_Keeper_Keeper : PySem.W.kitOne K (.ref c_Keeper) (.ref c_Keeper) = some true) (W_Greedy : Gx.ClsF K mg c_Greedy "Greedy" []) (M_Greedy : Gx.MkZ K c_Greedy) (I_Greedy_Keeper : PySem.W.kitOne K (.ref c_Greedy) (.ref c_Keeper) = some true) (W_Lazy : Gx.ClsF K mg c_Lazy "Lazy" ["_mark"]) (I_Lazy_Keeper : PySem.W.kitOne K (.ref c_Lazy) (.ref c_Keeper) = some true) (W_Thrifty : Gx.ClsF K mg c_Thrifty "Thrifty" ["_limit"]) (I_Thrifty_Keeper : PySem.W.kitOne K (.ref c_Thrifty) (.ref c_Keeper) = some true) (W_RuleKeeper : Gx.ClsF K mg c_RuleKeeper "RuleKeeper" ["_rules"]) (I_RuleKeeper_Keeper : PySem.W.kitOne K (.ref c_RuleKeeper) (.ref c_Keeper) = some true) (D : DfG K mg "_law_due" s_law_due [] [])  : ClG CX0 P w K mg base 3 "_law_due" s_law_due ["_law_plan", "_law_stand_here", "_law_pays_here"] [] [] spDue := by
  have nd := sc_law_due.nd
  refine D.okP sc_law_due (fun vs H Q E h => ?_) (fun f cdv A outer s H vs Q E hr h => ?_)
  · obtain ⟨pl, q, pp, z, m, l, p, φ, bs, rfl, _⟩ := h
    rfl
  · obtain ⟨pl, q, pp, z, m, l, p, φ, bs, rfl, ⟨hpl, hq, hpp, hB, m0, m1, hz⟩, k⟩ := h
    have hu := hu64 hr
    refine ⟨_, (pss_cons (ps_set (i := 3) nd rfl (Or.inl rfl) (pe_ix (ixSeqK (K := K) (by rfl)) (pv 1) pe_int (fun _ _ => rfl)))
    (pss_cons (ps_set (i := 4) nd rfl (Or.inl rfl) (pe_callB (callMin2 rfl) (by rfl) T.min (by decide +kernel) (pa_cons (pe_ix (ixSeqK (K := K) (by rfl)) (pv 2) (pe_op opMod (pe_callTy callInt (by rfl) T.int (by decide +kernel) (pa_cons (pe_ix (ixSeqK (K := K) (by rfl)) (pv 1) pe_int (fun _ _ => rfl)) pa_nil)) (pe_callB (callLenK (K := K) (by rfl)) (by rfl) T.len (by decide +kernel) (pa_cons (pv 2) pa_nil))) (fun _ _ => rfl)) (pa_cons (pe_bmK (K := K) (by rfl) PySem.F.plainAttrs_str PySem.F.slot_str_count PySem.F.type_str_count mtCount (pv 3) (pa_cons pe_str pa_nil)) pa_nil))))
    (pss_cons (ps_if (PW.pt (pw_or (pt_cmpR (opEqK (K := K) (by rfl) (by exact hu)) (pe_callB (callLenK (K := K) (by rfl)) (by rfl) T.len (by decide +kernel) (pa_cons (pv 3) pa_nil)) (pe_ix (ixSeqK (K := K) (by rfl)) (pv 1) pe_int (fun _ _ => rfl)) (nomark _)) (pw_or1 (pt_cmpR (opEqK (K := K) (by rfl) (by exact hu)) (pe_ix (ixSeqK (K := K) (by rfl)) (pv 0) pe_int (fun _ _ => rfl)) pe_str (nomark _)))))
      (pss_one (ps_ret pe_int))
      pss_nil)
    (pss_cons (ps_if (PW.pt (pw_and (pt_cmpR (opEqK (K := K) (by rfl) (by exact hu)) (pe_ix (ixSeqK (K := K) (by rfl)) (pv 0) pe_int (fun _ _ => rfl)) pe_str (nomark _)) (pw_and1 (pt_cmpR opGt (pe_op opSub (pe_ix (ixSeqK (K := K) (by rfl)) (pv 1) pe_int (fun _ _ => rfl)) (pe_callB (callLenK (K := K) (by rfl)) (by rfl) T.len (by decide +kernel) (pa_cons (pv 3) pa_nil))) (pe_ix (ixSeqK (K := K) (by rfl)) (pv 0) pe_int (fun _ _ => rfl)) (nomark _)))))
      (pss_one (ps_ret pe_int))
      pss_nil)
    (pss_one (ps_ret (pv 4))))))), ?_⟩
    try dsimp only [L2.cxOf, L2.Cx.nox]
    simp only [L2.start, N_law_due, List.map_cons, List.map_nil, List.length_cons, List.length_nil, Nat.reduceAdd, Nat.reduceSub, List.replicate_succ, List.replicate_zero, List.cons_append, List.nil_append]

    have ha : At H q _ := ⟨hq.1⟩
    have bq := hq.2
    have l1 := hB.l1
    have l2 := hB.l2
    have hm := modb (s := φ) (n := bs.length) (by omega)
    have hnb := nth_b (t := φ) hB
    unfold nth at hnb
    have hmn := min_bud (φ := φ) (t := 0) (y := l.count true) hB
    rw [show φ + ((0 : Nat) : Int) = φ from by omega] at hmn
    have fin : ∀ (i : Int) H', Ex H H' → i = cntK z m bs p φ l → Q (.int i) H' := fun i H' e h => h ▸ k H' e
    clear k
    have e1 : (("greedy" : Str) = "rest") = False := eq_false (by decide +kernel)
    have e2 : (("greedy" : Str) = "lazy") = False := eq_false (by decide +kernel)
    have e3 : (("lazy" : Str) = "rest") = False := eq_false (by decide +kernel)
    rcases hz with rfl | rfl | rfl
    all_goals
      unfold cntK lzy mostA at fin
      simp only [e1, e2, e3, if_true, if_false] at fin
      walk_at "gos"
    all_goals
      refine fin _ _ Gx.rel ?_
      repeat' split
    all_goals first
      | rfl
      | omega
      | exact 0

theorem g_propI {C : Addr} {sp : Sp} {dvs : List V} {E : XK} {a : Addr} {H1 : Hp} {Q : VK} {fs : List (Str × V)} (h : InC C fs H1 a) (q : sp (.ref a :: dvs) H1 Q E) : rProp C sp dvs E (.ref a) H1 Q := by
  obtain ⟨dx, h1⟩ := h.ex
  exact ⟨a, dx, fs, rfl, h1, q⟩
local macro_rules | `(tactic| walk_at "call") => `(tactic| first
  | ((with_reducible show rProp _ _ _ _ _ _ _); refine g_propI (by infer_instance) ?_)
  | with_reducible refine if_f (by decide +kernel) ?_
  | with_reducible refine if_t (by decide +kernel) ?_
  | ((with_reducible show spIct _ _ _ _); refine ⟨_, rfl, ?_⟩)
  | ((with_reducible show spDue _ _ _ _); refine ⟨_, _, _, _, _, _, _, _, _, rfl, ⟨by infer_instance, by assumption, by infer_instance, by assumption, by omega, by omega, by assumption⟩, ?_⟩; intro H_ e_)
  | ((with_reducible show spLmk _ _ _ _ _); refine ⟨_, _, rfl, by infer_instance, ?_⟩)
  | ((with_reducible show spLabZ _ _ _ _ _ _); refine ⟨_, rfl, by infer_instance, ?_⟩)
  | ((with_reducible show spLabI _ _ _ _ _ _ _); refine ⟨_, _, rfl, ⟨by infer_instance, by omega, by omega⟩, ?_⟩)
  | ((with_reducible show spKch _ _ _ _ _ _); refine ⟨_, _, _, _, _, _, rfl, ⟨by infer_instance, by assumption, by omega, by omega, by omega, by infer_instance, by assumption, by omega, by omega⟩, ?_⟩)
  | ((with_reducible show spGch _ _ _ _ _ _); refine ⟨_, _, _, _, _, _, rfl, ⟨by infer_instance, by assumption, by omega, by omega, by omega, by infer_instance, by assumption, by omega, by omega⟩, ?_⟩)
  | ((with_reducible show spLch _ _ _ _ _ _); refine ⟨_, _, _, _, _, _, _, rfl, ⟨by infer_instance, by assumption, by omega, by omega, by omega, by infer_instance, by assumption, by omega, by omega⟩, ?_⟩))
/-- a keeper of this kind -/
def KpC (cK cG cL : Addr) (z : Str) (m : Int) (H : Hp) (x : Addr) : Prop := (z = "rest" ∧ InC cK [] H x) ∨ (z = "greedy" ∧ InC cG [] H x) ∨ (z = "lazy" ∧ InC cL [(("_mark" : Str), .int m)] H x)
theorem KpC.kind {cK cG cL x : Addr} {z : Str} {m : Int} {H : Hp} (h : KpC cK cG cL z m H x) : z = "rest" ∨ z = "greedy" ∨ z = "lazy" := by
  rcases h with h | h | h
  · exact .inl h.1
  · exact .inr (.inl h.1)
  · exact .inr (.inr h.1)
def spLks (C cK cG cL : Addr) : Sp := fun vs H Q _ => ∃ (x pl st pp a q1 q2 : Addr) (z : Str) (m : Int) (l1 l2 : List Bool) (p1 p2 : Nat) (φ1 φ2 : Int) (bs : List Int), vs = [.ref x, .ref pl, .ref st, .ref pp, .ref a] ∧
  (At H pl (.lst [.str z, .int m]) ∧ At H st (.lst [.ref q1, .ref q2]) ∧ StB H q1 l1 (p1 : Nat) φ1 ∧ StB H q2 l2 (p2 : Nat) φ2 ∧ At H pp (.lst (bs.map V.int)) ∧ RdC C H a bs ∧ RB bs ∧ 0 ≤ m ∧ m < 2 ^ 100 ∧ KpC cK cG cL z m H x) ∧
  ∀ H', Ex H H' → Q (.bl true) H'
abbrev s_law_looks : Stmt := (top 61)
abbrev N_law_looks : List Str := ["_law_keeper", "_law_plan", "_law_stands", "_law_pays_here", "_law_made", "_law_stand_here", "_law_told", "_law_text"]
theorem sc_law_looks : FnScope N_law_looks ["_law_keeper", "_law_plan", "_law_stands", "_law_pays_here", "_law_made"] (defScope s_law_looks) := ⟨rfl, rfl, rfl, by decide +kernel, rfl, by decide +kernel, by decide +kernel⟩
theorem cl_law_looks (T : Bl mg) (Z : EcF P K mg c_StoreError c_InvalidInput c_NoPlace) (R : RdF K mg c_Round) (W_Keeper : Gx.ClsF K mg c_Keeper "Keeper" []) (M_Keeper : Gx.MkZ K c_Keeper) (I_Keeper_Keeper : PySem.W.kitOne K (.ref c_Keeper) (.ref c_Keeper) = some true) (W_Greedy : Gx.ClsF K mg c_Greedy "Greedy" []) (M_Greedy : Gx.MkZ K c_Greedy) (I_Greedy_Keeper : PySem.W.kitOne K (.ref c_Greedy) (.ref c_Keeper) = some true) (W_Lazy : Gx.ClsF K mg c_Lazy "Lazy" ["_mark"]) (I_Lazy_Keeper : PySem.W.kitOne K (.ref c_Lazy) (.ref c_Keeper) = some true) (W_Thrifty : Gx.ClsF K mg c_Thrifty "Thrifty" ["_limit"]) (I_Thrifty_Keeper : PySem.W.kitOne K (.ref c_Thrifty) (.ref c_Keeper) = some true) (W_RuleKeeper : Gx.ClsF K mg c_RuleKeeper "RuleKeeper" ["_rules"]) (I_RuleKeeper_Keeper : PySem.W.kitOne K (.ref c_RuleKeeper) (.ref c_Keeper) = some true) (D : DfG K mg "_law_looks" s_law_looks [] []) (C_Lazy_label : ClM CX0 P w K mg base 3 c_Lazy "label" "Lazy.label" s_Lazy_label ["self"] [] [] (spLabI c_Lazy "_mark" "lazy ")) (C_Greedy_label : ClM CX0 P w K mg base 3 c_Greedy "label" "Greedy.label" s_Greedy_label ["self"] [] [] (spLabZ c_Greedy "greedy")) (C_Keeper_label : ClM CX0 P w K mg base 3 c_Keeper "label" "Keeper.label" s_Keeper_label ["self"] [] [] (spLabZ c_Keeper "rest")) (C_Lazy_mark : ClP CX0 P w K mg base 3 c_Lazy "mark" "Lazy.mark" s_Lazy_mark (spLmk c_Lazy)) (C_law_is_count : ClG CX0 P w K mg base 3 "_law_is_count" s_law_is_count ["_law_thing"] [] [] spIct) (C_law_due : ClG CX0 P w K mg base 3 "_law_due" s_law_due ["_law_plan", "_law_stand_here", "_law_pays_here"] [] [] spDue) (C_Lazy_choose : ClM CX0 P w K mg base 9 c_Lazy "choose" "Lazy.choose" s_Lazy_choose ["self", "word", "places", "budgets", "phase"] [] [] (spLch c_Round c_Lazy)) (C_Greedy_choose : ClM CX0 P w K mg base 9 c_Greedy "choose" "Greedy.choose" s_Greedy_choose ["self", "word", "places", "budgets", "phase"] [] [] (spGch c_Round c_Greedy)) (C_Keeper_choose : ClM CX0 P w K mg base 7 c_Keeper "choose" "Keeper.choose" s_Keeper_choose ["self", "word", "places", "budgets", "phase"] [] [] (spKch c_Round c_Keeper)) : ClG CX0 P w K mg base 11 "_law_looks" s_law_looks ["_law_keeper", "_law_plan", "_law_stands", "_law_pays_here", "_law_made"] [] [] (spLks c_Round c_Keeper c_Greedy c_Lazy) := by
  have nd := sc_law_looks.nd
  refine D.okP sc_law_looks (fun vs H Q E h => ?_) (fun f cdv A outer s H vs Q E hr h => ?_)
  · obtain ⟨x, pl, st, pp, a, q1, q2, z, m, l1, l2, p1, p2, φ1, φ2, bs, rfl, _⟩ := h
    rfl
  · obtain ⟨x, pl, st, pp, a, q1, q2, z, m, l1, l2, p1, p2, φ1, φ2, bs, rfl, ⟨hpl, hst, hq1, hq2, hpp, ha, hB, m0, m1, hk⟩, k⟩ := h
    have hu := hu64 hr
    refine ⟨_, (pss_cons (ps_if (pt_not (pt_val (pe_callB (callIsiK (K := K) (by rfl)) (by rfl) T.isinstance (by decide +kernel) (pa_cons (pv 0) (pa_cons (pe_glob (v := .ref c_Keeper) (u := .ref c_Keeper) (by rfl) W_Keeper.g rfl) pa_nil)))))
      (pss_one (ps_ret pe_bl))
      pss_nil)
    (pss_cons (ps_for PassesOwn.never rfl (pi_listK (K := K) (by rfl) (pe_op (opAddK (K := K) (by rfl)) (pv 2) (pe_slice (slAnyK (K := K) (by rfl)) (pv 2) po_none (po_some pe_int)))) (pg_name (i := 5) nd rfl (Or.inl rfl))
      (pss_cons (ps_set (i := 6) nd rfl (Or.inl rfl) (pe_ei (pe_m C_Keeper_choose W_Keeper.c (by exact hr.mono (by decide)) pass0 (fun _ _ _ _ _ _ us hl => match us, hl with | [_, _, _, _, _], _ => rfl) (pv 0) (pa_cons (pe_ix (ixSeqK (K := K) (by rfl)) (pv 5) pe_int (fun _ _ => rfl)) (pa_cons (pe_ix (ixSeqK (K := K) (by rfl)) (pv 5) pe_int (fun _ _ => rfl)) (pa_cons (pv 4) (pa_cons (pe_ix (ixSeqK (K := K) (by rfl)) (pv 5) pe_int (fun _ _ => rfl)) pa_nil))))) (pe_ei (pe_m C_Greedy_choose W_Greedy.c (by exact hr.mono (by decide)) pass0 (fun _ _ _ _ _ _ us hl => match us, hl with | [_, _, _, _, _], _ => rfl) (pv 0) (pa_cons (pe_ix (ixSeqK (K := K) (by rfl)) (pv 5) pe_int (fun _ _ => rfl)) (pa_cons (pe_ix (ixSeqK (K := K) (by rfl)) (pv 5) pe_int (fun _ _ => rfl)) (pa_cons (pv 4) (pa_cons (pe_ix (ixSeqK (K := K) (by rfl)) (pv 5) pe_int (fun _ _ => rfl)) pa_nil))))) (pe_m C_Lazy_choose W_Lazy.c (by exact hr.mono (by decide)) pass0 (fun _ _ _ _ _ _ us hl => match us, hl with | [_, _, _, _, _], _ => rfl) (pv 0) (pa_cons (pe_ix (ixSeqK (K := K) (by rfl)) (pv 5) pe_int (fun _ _ => rfl)) (pa_cons (pe_ix (ixSeqK (K := K) (by rfl)) (pv 5) pe_int (fun _ _ => rfl)) (pa_cons (pv 4) (pa_cons (pe_ix (ixSeqK (K := K) (by rfl)) (pv 5) pe_int (fun _ _ => rfl)) pa_nil))))))))
    (pss_one (ps_if (PW.pt (pw_or (pt_not (pt_val (pe_g C_law_is_count (by exact hr.mono (by decide)) (E := fun _ => E0) (fun σ => passC0 σ) (fun _ _ _ _ _ _ us hl => match us, hl with | [_], _ => rfl) (pa_cons (pv 6) pa_nil)))) (pw_or1 (pt_cmpR (opNeK (K := K) (by rfl) (by exact hu)) (pv 6) (pe_g C_law_due (by exact hr.mono (by decide)) (E := fun _ => E0) (fun σ => passC0 σ) (fun _ _ _ _ _ _ us hl => match us, hl with | [_, _, _], _ => rfl) (pa_cons (pv 1) (pa_cons (pv 5) (pa_cons (pv 3) pa_nil)))) (nomark _)))))
      (pss_one (ps_ret pe_bl))
      pss_nil))))
    (pss_cons (ps_set (i := 7) nd rfl (Or.inl rfl) (pe_ix (ixSeqK (K := K) (by rfl)) (pv 1) pe_int (fun _ _ => rfl)))
    (pss_cons (ps_if (pt_cmpR (opEqK (K := K) (by rfl) (by exact hu)) (pe_ix (ixSeqK (K := K) (by rfl)) (pv 1) pe_int (fun _ _ => rfl)) pe_str (nomark _))
      (pss_cons (ps_set (i := 7) nd rfl (Or.inl rfl) (pe_op (opAddK (K := K) (by rfl)) pe_str (pe_callTy callStr (by rfl) T.str (by decide +kernel) (pa_cons (pe_ix (ixSeqK (K := K) (by rfl)) (pv 1) pe_int (fun _ _ => rfl)) pa_nil))))
    (pss_one (ps_if (PW.pt (pw_or (pt_not (pt_val (pe_g C_law_is_count (by exact hr.mono (by decide)) (E := fun _ => E0) (fun σ => passC0 σ) (fun _ _ _ _ _ _ us hl => match us, hl with | [_], _ => rfl) (pa_cons (pe_p C_Lazy_mark W_Lazy.c (by exact hr.mono (by decide)) pass0 (fun _ _ _ _ _ _ us hl => match us, hl with | [_], _ => rfl) (pv 0)) pa_nil)))) (pw_or1 (pt_cmpR (opNeK (K := K) (by rfl) (by exact hu)) (pe_p C_Lazy_mark W_Lazy.c (by exact hr.mono (by decide)) pass0 (fun _ _ _ _ _ _ us hl => match us, hl with | [_], _ => rfl) (pv 0)) (pe_ix (ixSeqK (K := K) (by rfl)) (pv 1) pe_int (fun _ _ => rfl)) (nomark _)))))
      (pss_one (ps_ret pe_bl))
      pss_nil)))
      pss_nil)
    (pss_one (ps_ret (pe_cmpR (opEqK (K := K) (by rfl) (by exact hu)) (pe_ei (pe_m0 C_Keeper_label W_Keeper.c (by exact hr.mono (by decide)) pass0 (fun _ _ _ _ _ _ us hl => match us, hl with | [_], _ => rfl) (pv 0)) (pe_ei (pe_m0 C_Greedy_label W_Greedy.c (by exact hr.mono (by decide)) pass0 (fun _ _ _ _ _ _ us hl => match us, hl with | [_], _ => rfl) (pv 0)) (pe_m0 C_Lazy_label W_Lazy.c (by exact hr.mono (by decide)) pass0 (fun _ _ _ _ _ _ us hl => match us, hl with | [_], _ => rfl) (pv 0)))) (pv 7) (nomark _)))))))), ?_⟩
    try dsimp only [L2.cxOf, L2.Cx.nox]
    simp only [L2.start, N_law_looks, List.map_cons, List.map_nil, List.length_cons, List.length_nil, Nat.reduceAdd, Nat.reduceSub, List.replicate_succ, List.replicate_zero, List.cons_append, List.nil_append]

    have ha1 : At H q1 _ := ⟨hq1.1⟩
    have ha2 : At H q2 _ := ⟨hq2.1⟩
    have hkd := hk.kind
    rcases hk with ⟨rfl, hx⟩ | ⟨rfl, hx⟩ | ⟨rfl, hx⟩
    · walk_at "go"
      refine Gx.g_isC W_Keeper I_Keeper_Keeper ?_
      walk_at "go"
      rename_i q3 G1 n1 e1 hq3 q4 G2 n2 e2 hq4
      have hq4 : At G2 q4 (.lst [.ref q1, .ref q2, .ref q1]) := hq4
      refine Gx.forL [] (fun i σ' H' => ∃ s5 s6 : Option V, σ' = [some (.ref x), some (.ref pl), some (.ref st), some (.ref pp), some (.ref a), s5, s6, none]) ⟨_, _, rfl⟩ ?_ ?_
      · rintro i v σ' H' hv e ⟨s5, s6, rfl⟩
        obtain ⟨q, l, p, φ, rfl, hq⟩ : ∃ q l p φ, v = V.ref q ∧ StB H q l (p : Nat) φ := by
          have hv := List.mem_of_getElem? hv
          rcases List.mem_cons.mp hv with rfl | hv
          · exact ⟨q1, l1, p1, φ1, rfl, hq1⟩
          rcases List.mem_cons.mp hv with rfl | hv
          · exact ⟨q2, l2, p2, φ2, rfl, hq2⟩
          · rw [List.mem_singleton.mp hv]
            exact ⟨q1, l1, p1, φ1, rfl, hq1⟩
        have hqa : At H q _ := ⟨hq.1⟩
        have bq := hq.2
        have hw := bq.1
        have hqq : StB H' q l (p : Nat) φ := hq.step (cs := []) (by simp) Gx.rel
        have hc : cntK "rest" m bs p φ l = 0 := by unfold cntK; rw [if_pos rfl]
        walk_at "go"
        refine Gx.ei_l ?_
        walk_at "gos"
        all_goals first
          | exact Gx.li ⟨_, _, rfl⟩
          | (exfalso; omega)
      · rintro σ' H' e ⟨s5, s6, rfl⟩
        walk_at "go"
        refine Gx.ei_l ?_
        walk_at "gos"
        all_goals first
          | exact k _ Gx.rel
          | (rw [decide_eq_true rfl]; exact k _ Gx.rel)
    · walk_at "go"
      refine Gx.g_isC W_Greedy I_Greedy_Keeper ?_
      walk_at "go"
      rename_i q3 G1 n1 e1 hq3 q4 G2 n2 e2 hq4
      have hq4 : At G2 q4 (.lst [.ref q1, .ref q2, .ref q1]) := hq4
      refine Gx.forL [] (fun i σ' H' => ∃ s5 s6 : Option V, σ' = [some (.ref x), some (.ref pl), some (.ref st), some (.ref pp), some (.ref a), s5, s6, none]) ⟨_, _, rfl⟩ ?_ ?_
      · rintro i v σ' H' hv e ⟨s5, s6, rfl⟩
        obtain ⟨q, l, p, φ, rfl, hq⟩ : ∃ q l p φ, v = V.ref q ∧ StB H q l (p : Nat) φ := by
          have hv := List.mem_of_getElem? hv
          rcases List.mem_cons.mp hv with rfl | hv
          · exact ⟨q1, l1, p1, φ1, rfl, hq1⟩
          rcases List.mem_cons.mp hv with rfl | hv
          · exact ⟨q2, l2, p2, φ2, rfl, hq2⟩
          · rw [List.mem_singleton.mp hv]
            exact ⟨q1, l1, p1, φ1, rfl, hq1⟩
        have hqa : At H q _ := ⟨hq.1⟩
        have bq := hq.2
        have hw := bq.1
        have hqq : StB H' q l (p : Nat) φ := hq.step (cs := []) (by simp) Gx.rel
        have hc : cntK "greedy" m bs p φ l = (mostA bs p φ l : Nat) := by unfold cntK; rw [if_neg (by decide +kernel), if_neg (by decide +kernel)]
        walk_at "go"
        refine Gx.ei_r (Gx.ei_l ?_)
        walk_at "gos"
        all_goals first
          | exact Gx.li ⟨_, _, rfl⟩
          | (exfalso; omega)
      · rintro σ' H' e ⟨s5, s6, rfl⟩
        walk_at "go"
        refine Gx.ei_r (Gx.ei_l ?_)
        walk_at "gos"
        all_goals first
          | exact k _ Gx.rel
          | (rw [decide_eq_true rfl]; exact k _ Gx.rel)
    · walk_at "go"
      refine Gx.g_isC W_Lazy I_Lazy_Keeper ?_
      walk_at "go"
      rename_i q3 G1 n1 e1 hq3 q4 G2 n2 e2 hq4
      have hq4 : At G2 q4 (.lst [.ref q1, .ref q2, .ref q1]) := hq4
      refine Gx.forL [] (fun i σ' H' => ∃ s5 s6 : Option V, σ' = [some (.ref x), some (.ref pl), some (.ref st), some (.ref pp), some (.ref a), s5, s6, none]) ⟨_, _, rfl⟩ ?_ ?_
      · rintro i v σ' H' hv e ⟨s5, s6, rfl⟩
        obtain ⟨q, l, p, φ, rfl, hq⟩ : ∃ q l p φ, v = V.ref q ∧ StB H q l (p : Nat) φ := by
          have hv := List.mem_of_getElem? hv
          rcases List.mem_cons.mp hv with rfl | hv
          · exact ⟨q1, l1, p1, φ1, rfl, hq1⟩
          rcases List.mem_cons.mp hv with rfl | hv
          · exact ⟨q2, l2, p2, φ2, rfl, hq2⟩
          · rw [List.mem_singleton.mp hv]
            exact ⟨q1, l1, p1, φ1, rfl, hq1⟩
        have hqa : At H q _ := ⟨hq.1⟩
        have bq := hq.2
        have hw := bq.1
        have hqq : StB H' q l (p : Nat) φ := hq.step (cs := []) (by simp) Gx.rel
        have hc : cntK "lazy" m bs p φ l = (lzy bs p φ l m : Nat) := by unfold cntK; rw [if_neg (by decide +kernel), if_pos rfl]
        walk_at "go"
        refine Gx.ei_r (Gx.ei_r ?_)
        walk_at "gos"
        all_goals first
          | exact Gx.li ⟨_, _, rfl⟩
          | (exfalso; omega)
      · rintro σ' H' e ⟨s5, s6, rfl⟩
        walk_at "go"
        refine Gx.g_addS (Nat.le_trans (Nat.add_le_add_left (int_len (by omega)) _) (by decide +kernel)) ?_
        walk_at "gos"
        all_goals try omega
        refine Gx.ei_r (Gx.ei_r ?_)
        walk_at "gos"
        all_goals first
          | exact k _ Gx.rel
          | (rw [decide_eq_true rfl]; exact k _ Gx.rel)

class StC (q : Addr) (H : Hp) (l : outParam (List Bool)) (p φ : outParam Int) : Prop where
  ex : StB H q l p φ
instance (priority := low) stcStep {q : Addr} {l : List Bool} {p φ : Int} {cs : List Addr} {H1 H : Hp} [h : StC q H1 l p φ] [r : Chg cs H1 H] [n : NotIn q cs] : StC q H l p φ := ⟨h.ex.step n.out r⟩
instance liveSt {q : Addr} {l : List Bool} {p φ : Int} {H : Hp} [h : StC q H l p φ] : Live H q := ⟨⟨_, h.ex.1⟩⟩
theorem stb_of {q : Addr} {l : List Bool} {p φ : Int} {H : Hp} [h : StC q H l p φ] : StB H q l p φ := h.ex
/-- an object of the class Lazy with its mark: one fact for each heap -/
local macro_rules | `(tactic| walk_at "call") => `(tactic| first
  | ((with_reducible show spLks _ _ _ _ _ _ _ _); refine ⟨_, _, _, _, _, _, _, _, _, _, _, _, _, _, _, _, rfl, ⟨by infer_instance, by infer_instance, stb_of, stb_of, by infer_instance, by infer_instance, by assumption, by omega, by omega, by first | exact .inl ⟨rfl, by infer_instance⟩ | exact .inr (.inl ⟨rfl, by infer_instance⟩) | exact .inr (.inr ⟨rfl, by infer_instance⟩)⟩, ?_⟩; intro H_ e_)
  | ((with_reducible show spLin _ _ _ _ _); refine ⟨_, _, _, rfl, ⟨by infer_instance, by omega⟩, ?_⟩; intro H_ e_ hI_)
  | ((with_reducible show spLsm _ _ _ _ _); refine ⟨_, _, _, rfl, ⟨by infer_instance, by omega⟩, ?_⟩; intro H_ e_ hI_)
  | ((with_reducible show Gx.rMkC _ _ _ _ _ _ _); refine Gx.g_mkC ?_; intro x_ dx_ H_ nx_ e_ hx_)
  | ((with_reducible show Gx.rMkZ _ _ _); refine Gx.g_mkZ ?_; intro x_ dx_ H_ nx_ e_ hx_))
def spFam (C : Addr) : Sp := fun vs H Q _ => ∃ (mk st pp a q1 q2 : Addr) (m0 m1 m2 : Int) (l1 l2 : List Bool) (p1 p2 : Nat) (φ1 φ2 : Int) (bs : List Int), vs = [.ref mk, .ref st, .ref pp, .ref a] ∧
  (At H mk (.lst [.int m0, .int m1, .int m2]) ∧ At H st (.lst [.ref q1, .ref q2]) ∧ StC q1 H l1 (p1 : Nat) φ1 ∧ StC q2 H l2 (p2 : Nat) φ2 ∧ At H pp (.lst (bs.map V.int)) ∧ RdC C H a bs ∧ RB bs ∧ 0 ≤ m0 ∧ m0 < 2 ^ 100 ∧ 0 ≤ m1 ∧ m1 < 2 ^ 100 ∧ 0 ≤ m2 ∧ m2 < 2 ^ 100) ∧
  ∀ H', Ex H H' → Q (.bl true) H'
abbrev s_law_family : Stmt := (top 62)
abbrev N_law_family : List Str := ["_law_marks_here", "_law_stands", "_law_pays_here", "_law_made", "_law_lazy", "_law_other", "_law_told"]
theorem sc_law_family : FnScope N_law_family ["_law_marks_here", "_law_stands", "_law_pays_here", "_law_made"] (defScope s_law_family) := ⟨rfl, rfl, rfl, by decide +kernel, rfl, by decide +kernel, by decide +kernel⟩
theorem cl_law_family (T : Bl mg) (Z : EcF P K mg c_StoreError c_InvalidInput c_NoPlace) (R : RdF K mg c_Round) (W_Keeper : Gx.ClsF K mg c_Keeper "Keeper" []) (M_Keeper : Gx.MkZ K c_Keeper) (I_Keeper_Keeper : PySem.W.kitOne K (.ref c_Keeper) (.ref c_Keeper) = some true) (W_Greedy : Gx.ClsF K mg c_Greedy "Greedy" []) (M_Greedy : Gx.MkZ K c_Greedy) (I_Greedy_Keeper : PySem.W.kitOne K (.ref c_Greedy) (.ref c_Keeper) = some true) (W_Lazy : Gx.ClsF K mg c_Lazy "Lazy" ["_mark"]) (I_Lazy_Keeper : PySem.W.kitOne K (.ref c_Lazy) (.ref c_Keeper) = some true) (W_Thrifty : Gx.ClsF K mg c_Thrifty "Thrifty" ["_limit"]) (I_Thrifty_Keeper : PySem.W.kitOne K (.ref c_Thrifty) (.ref c_Keeper) = some true) (W_RuleKeeper : Gx.ClsF K mg c_RuleKeeper "RuleKeeper" ["_rules"]) (I_RuleKeeper_Keeper : PySem.W.kitOne K (.ref c_RuleKeeper) (.ref c_Keeper) = some true) (D : DfG K mg "_law_family" s_law_family [] []) (C_law_looks : ClG CX0 P w K mg base 11 "_law_looks" s_law_looks ["_law_keeper", "_law_plan", "_law_stands", "_law_pays_here", "_law_made"] [] [] (spLks c_Round c_Keeper c_Greedy c_Lazy)) (C_Lazy_set_mark : ClM CX0 P w K mg base 5 c_Lazy "set_mark" "Lazy.set_mark" s_Lazy_set_mark ["self", "mark"] [] [] (spLsm c_Lazy)) (C_Lazy___init__ : Gx.ClC CX0 P w K mg base 5 c_Lazy "Lazy.__init__" s_Lazy___init__ ["self", "mark"] [] [] (spLin c_Lazy)) : ClG CX0 P w K mg base 13 "_law_family" s_law_family ["_law_marks_here", "_law_stands", "_law_pays_here", "_law_made"] [] [] (spFam c_Round) := by
  have nd := sc_law_family.nd
  refine D.okP sc_law_family (fun vs H Q E h => ?_) (fun f cdv A outer s H vs Q E hr h => ?_)
  · obtain ⟨mk, st, pp, a, q1, q2, m0, m1, m2, l1, l2, p1, p2, φ1, φ2, bs, rfl, _⟩ := h
    rfl
  · obtain ⟨mk, st, pp, a, q1, q2, m0, m1, m2, l1, l2, p1, p2, φ1, φ2, bs, rfl, ⟨hmk, hst, hq1, hq2, hpp, ha, hB, u0, u1, v0, v1, w0, w1⟩, k⟩ := h
    have hu := hu64 hr
    refine ⟨_, (pss_cons (ps_set (i := 4) nd rfl (Or.inl rfl) (pe_mk C_Lazy___init__ (by exact hr.mono (by decide)) (by rfl) W_Lazy.g pass0 (fun _ _ _ _ _ _ us hl => match us, hl with | [_, _], _ => rfl) (pa_cons (pe_ix (ixSeqK (K := K) (by rfl)) (pv 0) pe_int (fun _ _ => rfl)) pa_nil)))
    (pss_cons (ps_set (i := 5) nd rfl (Or.inl rfl) (pe_mk C_Lazy___init__ (by exact hr.mono (by decide)) (by rfl) W_Lazy.g pass0 (fun _ _ _ _ _ _ us hl => match us, hl with | [_, _], _ => rfl) (pa_cons (pe_ix (ixSeqK (K := K) (by rfl)) (pv 0) pe_int (fun _ _ => rfl)) pa_nil)))
    (pss_cons (ps_if (pt_not (pt_val (pe_g C_law_looks (by exact hr.mono (by decide)) (E := fun _ => E0) (fun σ => passC0 σ) (fun _ _ _ _ _ _ us hl => match us, hl with | [_, _, _, _, _], _ => rfl) (pa_cons (pe_mkZ M_Keeper (by rfl) W_Keeper.g) (pa_cons (pe_lst (pa_cons pe_str (pa_cons pe_int pa_nil))) (pa_cons (pv 1) (pa_cons (pv 2) (pa_cons (pv 3) pa_nil))))))))
      (pss_one (ps_ret pe_bl))
      pss_nil)
    (pss_cons (ps_if (pt_not (pt_val (pe_g C_law_looks (by exact hr.mono (by decide)) (E := fun _ => E0) (fun σ => passC0 σ) (fun _ _ _ _ _ _ us hl => match us, hl with | [_, _, _, _, _], _ => rfl) (pa_cons (pe_mkZ M_Greedy (by rfl) W_Greedy.g) (pa_cons (pe_lst (pa_cons pe_str (pa_cons pe_int pa_nil))) (pa_cons (pv 1) (pa_cons (pv 2) (pa_cons (pv 3) pa_nil))))))))
      (pss_one (ps_ret pe_bl))
      pss_nil)
    (pss_cons (ps_if (pt_not (pt_val (pe_g C_law_looks (by exact hr.mono (by decide)) (E := fun _ => E0) (fun σ => passC0 σ) (fun _ _ _ _ _ _ us hl => match us, hl with | [_, _, _, _, _], _ => rfl) (pa_cons (pv 4) (pa_cons (pe_lst (pa_cons pe_str (pa_cons (pe_ix (ixSeqK (K := K) (by rfl)) (pv 0) pe_int (fun _ _ => rfl)) pa_nil))) (pa_cons (pv 1) (pa_cons (pv 2) (pa_cons (pv 3) pa_nil))))))))
      (pss_one (ps_ret pe_bl))
      pss_nil)
    (pss_cons (ps_if (pt_not (pt_val (pe_g C_law_looks (by exact hr.mono (by decide)) (E := fun _ => E0) (fun σ => passC0 σ) (fun _ _ _ _ _ _ us hl => match us, hl with | [_, _, _, _, _], _ => rfl) (pa_cons (pv 5) (pa_cons (pe_lst (pa_cons pe_str (pa_cons (pe_ix (ixSeqK (K := K) (by rfl)) (pv 0) pe_int (fun _ _ => rfl)) pa_nil))) (pa_cons (pv 1) (pa_cons (pv 2) (pa_cons (pv 3) pa_nil))))))))
      (pss_one (ps_ret pe_bl))
      pss_nil)
    (pss_cons (ps_set (i := 6) nd rfl (Or.inl rfl) (pe_m C_Lazy_set_mark W_Lazy.c (by exact hr.mono (by decide)) pass0 (fun _ _ _ _ _ _ us hl => match us, hl with | [_, _], _ => rfl) (pv 4) (pa_cons (pe_ix (ixSeqK (K := K) (by rfl)) (pv 0) pe_int (fun _ _ => rfl)) pa_nil)))
    (pss_cons (ps_if (PW.pt (pw_or (pt_cmpR opNotN (pv 6) pe_non (nomark _)) (pw_or1 (pt_not (pt_val (pe_g C_law_looks (by exact hr.mono (by decide)) (E := fun _ => E0) (fun σ => passC0 σ) (fun _ _ _ _ _ _ us hl => match us, hl with | [_, _, _, _, _], _ => rfl) (pa_cons (pv 4) (pa_cons (pe_lst (pa_cons pe_str (pa_cons (pe_ix (ixSeqK (K := K) (by rfl)) (pv 0) pe_int (fun _ _ => rfl)) pa_nil))) (pa_cons (pv 1) (pa_cons (pv 2) (pa_cons (pv 3) pa_nil)))))))))))
      (pss_one (ps_ret pe_bl))
      pss_nil)
    (pss_cons (ps_if (pt_not (pt_val (pe_g C_law_looks (by exact hr.mono (by decide)) (E := fun _ => E0) (fun σ => passC0 σ) (fun _ _ _ _ _ _ us hl => match us, hl with | [_, _, _, _, _], _ => rfl) (pa_cons (pv 5) (pa_cons (pe_lst (pa_cons pe_str (pa_cons (pe_ix (ixSeqK (K := K) (by rfl)) (pv 0) pe_int (fun _ _ => rfl)) pa_nil))) (pa_cons (pv 1) (pa_cons (pv 2) (pa_cons (pv 3) pa_nil))))))))
      (pss_one (ps_ret pe_bl))
      pss_nil)
    (pss_cons (ps_set (i := 6) nd rfl (Or.inl rfl) (pe_m C_Lazy_set_mark W_Lazy.c (by exact hr.mono (by decide)) pass0 (fun _ _ _ _ _ _ us hl => match us, hl with | [_, _], _ => rfl) (pv 4) (pa_cons pe_int pa_nil)))
    (pss_one (ps_ret (pe_and (pe_cmpR opIsN (pv 6) pe_non (nomark _)) (pe_one (pe_g C_law_looks (by exact hr.mono (by decide)) (E := fun _ => E0) (fun σ => passC0 σ) (fun _ _ _ _ _ _ us hl => match us, hl with | [_, _, _, _, _], _ => rfl) (pa_cons (pv 4) (pa_cons (pe_lst (pa_cons pe_str (pa_cons pe_int pa_nil))) (pa_cons (pv 1) (pa_cons (pv 2) (pa_cons (pv 3) pa_nil)))))))))))))))))))), ?_⟩
    try dsimp only [L2.cxOf, L2.Cx.nox]
    simp only [L2.start, N_law_family, List.map_cons, List.map_nil, List.length_cons, List.length_nil, Nat.reduceAdd, Nat.reduceSub, List.replicate_succ, List.replicate_zero, List.cons_append, List.nil_append]

    walk_at "go"
    exact k _ Gx.rel

def spIsF (cI : Addr) : Addr → Value → Option Addr → Sp := fun a c d vs H Q _ => ∃ (dd : Addr) (f : Str), vs = [.ref a, .str f] ∧ (c = .ref cI ∧ d = some dd ∧ At H dd (.xd [("field", .str f)])) ∧ Q (.bl true) H
abbrev s_law_is_field : Stmt := (top 63)
abbrev N_law_is_field : List Str := ["_law_raised", "_law_due_here"]
theorem sc_law_is_field : FnScope N_law_is_field ["_law_raised", "_law_due_here"] (defScope s_law_is_field) := ⟨rfl, rfl, rfl, by decide +kernel, rfl, by decide +kernel, by decide +kernel⟩
theorem cl_law_is_field (T : Bl mg) (Z : EcF P K mg c_StoreError c_InvalidInput c_NoPlace) (R : RdF K mg c_Round) (W_Keeper : Gx.ClsF K mg c_Keeper "Keeper" []) (M_Keeper : Gx.MkZ K c_Keeper) (I_Keeper_Keeper : PySem.W.kitOne K (.ref c_Keeper) (.ref c_Keeper) = some true) (W_Greedy : Gx.ClsF K mg c_Greedy "Greedy" []) (M_Greedy : Gx.MkZ K c_Greedy) (I_Greedy_Keeper : PySem.W.kitOne K (.ref c_Greedy) (.ref c_Keeper) = some true) (W_Lazy : Gx.ClsF K mg c_Lazy "Lazy" ["_mark"]) (I_Lazy_Keeper : PySem.W.kitOne K (.ref c_Lazy) (.ref c_Keeper) = some true) (W_Thrifty : Gx.ClsF K mg c_Thrifty "Thrifty" ["_limit"]) (I_Thrifty_Keeper : PySem.W.kitOne K (.ref c_Thrifty) (.ref c_Keeper) = some true) (W_RuleKeeper : Gx.ClsF K mg c_RuleKeeper "RuleKeeper" ["_rules"]) (I_RuleKeeper_Keeper : PySem.W.kitOne K (.ref c_RuleKeeper) (.ref c_Keeper) = some true) (D : DfG K mg "_law_is_field" s_law_is_field [] [])  : ClS P w K mg base 3 "_law_is_field" ["_law_raised", "_law_due_here"] (spIsF c_InvalidInput) := by
  have nd := sc_law_is_field.nd
  refine D.okS sc_law_is_field (fun a c d vs H Q E h => ?_) (fun _ _ _ _ _ _ us hl => match us, hl with | [_, _], _ => rfl) (fun f cdv A outer s H vs Q E ax oe cls d hr hz hf h => ?_)
  · obtain ⟨dd, f, rfl, _⟩ := h
    rfl
  · obtain ⟨dd, f, rfl, ⟨rfl, rfl, hd⟩, k⟩ := h
    have hu := hu64H hr
    refine ⟨_, (pss_one (ps_ret (pe_and (pe_cmpR (opEqK (K := K) (by rfl) (by exact hu)) (pe_xsK (K := K) (by rfl) (List.mem_singleton.mpr rfl) hz hf (pv 0)) (pv 1) (nomark _)) (pe_and (pe_callB (call_isSK (K := K) (by rfl) (List.mem_singleton.mpr rfl) hz hf) (by rfl) T.isinstance (by decide +kernel) (pa_cons (pv 0) (pa_cons (pe_glob (v := .ref c_StoreError) (u := .ref c_StoreError) (by rfl) Z.g_StoreError rfl) pa_nil))) (pe_one (pe_callB (call_isSK (K := K) (by rfl) (List.mem_singleton.mpr rfl) hz hf) (by rfl) T.isinstance (by decide +kernel) (pa_cons (pv 0) (pa_cons (pe_bltn (v := .ty "ValueError") (by rfl) T.ValueError' (by decide +kernel) rfl) pa_nil)))))))), ?_⟩
    try dsimp only [L2.cxOf, L2.Cx.nox]
    simp only [L2.start, N_law_is_field, List.map_cons, List.map_nil, List.length_cons, List.length_nil, Nat.reduceAdd, Nat.reduceSub, List.replicate_succ, List.replicate_zero, List.cons_append, List.nil_append]

    walk_at "gos"
    exact k
local macro_rules | `(tactic| walk_at "call") => `(tactic| first
  | ((with_reducible show spIsF _ _ _ _ _ _ _ _); refine ⟨_, _, rfl, ⟨rfl, rfl, Gx.at_⟩, ?_⟩)
  | ((with_reducible show spFiX _ _ _ _ _ _ _); refine ⟨_, _, rfl, by omega, ?_⟩; intro d_ H_ nd_ e_ hd_)
  | ((with_reducible show Gx.rMkC _ _ _ _ _ _ _); refine Gx.g_mkC ?_; intro x_ dx_ H_ nx_ e_ hx_))
def spNoI (b : Int) : Sp := fun vs H Q _ => ∃ m : Int, vs = [.int m] ∧ m < b ∧ ∀ H', Ex H H' → Q (.bl true) H'
abbrev s_law_no_lazy : Stmt := (top 64)
abbrev N_law_no_lazy : List Str := ["_law_number", "_law_raised"]
theorem sc_law_no_lazy : FnScope N_law_no_lazy ["_law_number"] (defScope s_law_no_lazy) := ⟨rfl, rfl, rfl, by decide +kernel, rfl, by decide +kernel, by decide +kernel⟩
theorem cl_law_no_lazy (T : Bl mg) (Z : EcF P K mg c_StoreError c_InvalidInput c_NoPlace) (R : RdF K mg c_Round) (W_Keeper : Gx.ClsF K mg c_Keeper "Keeper" []) (M_Keeper : Gx.MkZ K c_Keeper) (I_Keeper_Keeper : PySem.W.kitOne K (.ref c_Keeper) (.ref c_Keeper) = some true) (W_Greedy : Gx.ClsF K mg c_Greedy "Greedy" []) (M_Greedy : Gx.MkZ K c_Greedy) (I_Greedy_Keeper : PySem.W.kitOne K (.ref c_Greedy) (.ref c_Keeper) = some true) (W_Lazy : Gx.ClsF K mg c_Lazy "Lazy" ["_mark"]) (I_Lazy_Keeper : PySem.W.kitOne K (.ref c_Lazy) (.ref c_Keeper) = some true) (W_Thrifty : Gx.ClsF K mg c_Thrifty "Thrifty" ["_limit"]) (I_Thrifty_Keeper : PySem.W.kitOne K (.ref c_Thrifty) (.ref c_Keeper) = some true) (W_RuleKeeper : Gx.ClsF K mg c_RuleKeeper "RuleKeeper" ["_rules"]) (I_RuleKeeper_Keeper : PySem.W.kitOne K (.ref c_RuleKeeper) (.ref c_Keeper) = some true) (D : DfG K mg "_law_no_lazy" s_law_no_lazy [] []) (C_Lazy___init___X : Gx.ClC (L2.CX P w) P w K mg base 5 c_Lazy "Lazy.__init__" s_Lazy___init___X ["self", "mark"] [] [] (spFiX c_InvalidInput "mark" 0)) (C_law_is_field : ClS P w K mg base 3 "_law_is_field" ["_law_raised", "_law_due_here"] (spIsF c_InvalidInput)) : ClG CX0 P w K mg base 7 "_law_no_lazy" s_law_no_lazy ["_law_number"] [] [] (spNoI 0) := by
  have nd := sc_law_no_lazy.nd
  refine D.okP sc_law_no_lazy (fun vs H Q E h => ?_) (fun f cdv A outer s H vs Q E hr h => ?_)
  · obtain ⟨m, rfl, _⟩ := h
    rfl
  · obtain ⟨m, rfl, hm, k⟩ := h
    have hu := hu64 hr
    refine ⟨_, (pss_cons (ps_try_as (c := .ref c_InvalidInput) rfl rfl nd (i := 1) rfl rfl ⟨by rfl, by decide, .inl Z.g_InvalidInput⟩ takes0 (fun W pn xe tk po => (pss_one (ps_expr (pe_mkD C_Lazy___init___X (by exact hr.mono (by decide)) (by rfl) W_Lazy.g (fun σ => passC tk σ) (fun _ _ _ _ _ _ us hl => match us, hl with | [_, _], _ => rfl) (pa_cons (pv 0) pa_nil)))))
      (fun a oe cls d pn hz hf => (pss_one (ps_ret (pe_clS C_law_is_field (by exact (L2H.roomH_mark (hr.mono (by decide)) _)) (List.mem_cons_self ..) hz hf (pa_cons (pv 1) (pa_cons pe_str pa_nil)))))))
    (pss_one (ps_ret pe_bl))), ?_⟩
    try dsimp only [L2.cxOf, L2.Cx.nox]
    simp only [L2.start, N_law_no_lazy, List.map_cons, List.map_nil, List.length_cons, List.length_nil, Nat.reduceAdd, Nat.reduceSub, List.replicate_succ, List.replicate_zero, List.cons_append, List.nil_append]

    walk_at "gos"
    exact k _ Gx.rel
abbrev s_law_no_thrifty : Stmt := (top 66)
abbrev N_law_no_thrifty : List Str := ["_law_number", "_law_raised"]
theorem sc_law_no_thrifty : FnScope N_law_no_thrifty ["_law_number"] (defScope s_law_no_thrifty) := ⟨rfl, rfl, rfl, by decide +kernel, rfl, by decide +kernel, by decide +kernel⟩
theorem cl_law_no_thrifty (T : Bl mg) (Z : EcF P K mg c_StoreError c_InvalidInput c_NoPlace) (R : RdF K mg c_Round) (W_Keeper : Gx.ClsF K mg c_Keeper "Keeper" []) (M_Keeper : Gx.MkZ K c_Keeper) (I_Keeper_Keeper : PySem.W.kitOne K (.ref c_Keeper) (.ref c_Keeper) = some true) (W_Greedy : Gx.ClsF K mg c_Greedy "Greedy" []) (M_Greedy : Gx.MkZ K c_Greedy) (I_Greedy_Keeper : PySem.W.kitOne K (.ref c_Greedy) (.ref c_Keeper) = some true) (W_Lazy : Gx.ClsF K mg c_Lazy "Lazy" ["_mark"]) (I_Lazy_Keeper : PySem.W.kitOne K (.ref c_Lazy) (.ref c_Keeper) = some true) (W_Thrifty : Gx.ClsF K mg c_Thrifty "Thrifty" ["_limit"]) (I_Thrifty_Keeper : PySem.W.kitOne K (.ref c_Thrifty) (.ref c_Keeper) = some true) (W_RuleKeeper : Gx.ClsF K mg c_RuleKeeper "RuleKeeper" ["_rules"]) (I_RuleKeeper_Keeper : PySem.W.kitOne K (.ref c_RuleKeeper) (.ref c_Keeper) = some true) (D : DfG K mg "_law_no_thrifty" s_law_no_thrifty [] []) (C_Thrifty___init___X : Gx.ClC (L2.CX P w) P w K mg base 5 c_Thrifty "Thrifty.__init__" s_Thrifty___init___X ["self", "limit"] [] [] (spFiX c_InvalidInput "limit" 1)) (C_law_is_field : ClS P w K mg base 3 "_law_is_field" ["_law_raised", "_law_due_here"] (spIsF c_InvalidInput)) : ClG CX0 P w K mg base 7 "_law_no_thrifty" s_law_no_thrifty ["_law_number"] [] [] (spNoI 1) := by
  have nd := sc_law_no_thrifty.nd
  refine D.okP sc_law_no_thrifty (fun vs H Q E h => ?_) (fun f cdv A outer s H vs Q E hr h => ?_)
  · obtain ⟨m, rfl, _⟩ := h
    rfl
  · obtain ⟨m, rfl, hm, k⟩ := h
    have hu := hu64 hr
    refine ⟨_, (pss_cons (ps_try_as (c := .ref c_InvalidInput) rfl rfl nd (i := 1) rfl rfl ⟨by rfl, by decide, .inl Z.g_InvalidInput⟩ takes0 (fun W pn xe tk po => (pss_one (ps_expr (pe_mkD C_Thrifty___init___X (by exact hr.mono (by decide)) (by rfl) W_Thrifty.g (fun σ => passC tk σ) (fun _ _ _ _ _ _ us hl => match us, hl with | [_, _], _ => rfl) (pa_cons (pv 0) pa_nil)))))
      (fun a oe cls d pn hz hf => (pss_one (ps_ret (pe_clS C_law_is_field (by exact (L2H.roomH_mark (hr.mono (by decide)) _)) (List.mem_cons_self ..) hz hf (pa_cons (pv 1) (pa_cons pe_str pa_nil)))))))
    (pss_one (ps_ret pe_bl))), ?_⟩
    try dsimp only [L2.cxOf, L2.Cx.nox]
    simp only [L2.start, N_law_no_thrifty, List.map_cons, List.map_nil, List.length_cons, List.length_nil, Nat.reduceAdd, Nat.reduceSub, List.replicate_succ, List.replicate_zero, List.cons_append, List.nil_append]

    walk_at "gos"
    exact k _ Gx.rel
def spNoM (cL : Addr) : Sp := fun vs H Q _ => ∃ (x : Addr) (m0 m : Int), vs = [.ref x, .int m] ∧ (InC cL [(("_mark" : Str), .int m0)] H x ∧ m < 0) ∧ ∀ H', Ex H H' → Q (.bl true) H'
abbrev s_law_no_mark : Stmt := (top 65)
abbrev N_law_no_mark : List Str := ["_law_lazy", "_law_number", "_law_raised"]
theorem sc_law_no_mark : FnScope N_law_no_mark ["_law_lazy", "_law_number"] (defScope s_law_no_mark) := ⟨rfl, rfl, rfl, by decide +kernel, rfl, by decide +kernel, by decide +kernel⟩
theorem cl_law_no_mark (T : Bl mg) (Z : EcF P K mg c_StoreError c_InvalidInput c_NoPlace) (R : RdF K mg c_Round) (W_Keeper : Gx.ClsF K mg c_Keeper "Keeper" []) (M_Keeper : Gx.MkZ K c_Keeper) (I_Keeper_Keeper : PySem.W.kitOne K (.ref c_Keeper) (.ref c_Keeper) = some true) (W_Greedy : Gx.ClsF K mg c_Greedy "Greedy" []) (M_Greedy : Gx.MkZ K c_Greedy) (I_Greedy_Keeper : PySem.W.kitOne K (.ref c_Greedy) (.ref c_Keeper) = some true) (W_Lazy : Gx.ClsF K mg c_Lazy "Lazy" ["_mark"]) (I_Lazy_Keeper : PySem.W.kitOne K (.ref c_Lazy) (.ref c_Keeper) = some true) (W_Thrifty : Gx.ClsF K mg c_Thrifty "Thrifty" ["_limit"]) (I_Thrifty_Keeper : PySem.W.kitOne K (.ref c_Thrifty) (.ref c_Keeper) = some true) (W_RuleKeeper : Gx.ClsF K mg c_RuleKeeper "RuleKeeper" ["_rules"]) (I_RuleKeeper_Keeper : PySem.W.kitOne K (.ref c_RuleKeeper) (.ref c_Keeper) = some true) (D : DfG K mg "_law_no_mark" s_law_no_mark [] []) (C_Lazy_set_mark_X : ClM (L2.CX P w) P w K mg base 5 c_Lazy "set_mark" "Lazy.set_mark" s_Lazy_set_mark_X ["self", "mark"] [] [] (spFiX c_InvalidInput "mark" 0)) (C_law_is_field : ClS P w K mg base 3 "_law_is_field" ["_law_raised", "_law_due_here"] (spIsF c_InvalidInput)) : ClG CX0 P w K mg base 7 "_law_no_mark" s_law_no_mark ["_law_lazy", "_law_number"] [] [] (spNoM c_Lazy) := by
  have nd := sc_law_no_mark.nd
  refine D.okP sc_law_no_mark (fun vs H Q E h => ?_) (fun f cdv A outer s H vs Q E hr h => ?_)
  · obtain ⟨x, m0, m, rfl, _⟩ := h
    rfl
  · obtain ⟨x, m0, m, rfl, ⟨hx, hm⟩, k⟩ := h
    have hu := hu64 hr
    refine ⟨_, (pss_cons (ps_try_as (c := .ref c_InvalidInput) rfl rfl nd (i := 2) rfl rfl ⟨by rfl, by decide, .inl Z.g_InvalidInput⟩ takes0 (fun W pn xe tk po => (pss_one (ps_expr (pe_mD C_Lazy_set_mark_X W_Lazy.c (by exact hr.mono (by decide)) (fun σ => passC tk σ) (fun _ _ _ _ _ _ us hl => match us, hl with | [_, _], _ => rfl) (pv 0) (pa_cons (pv 1) pa_nil)))))
      (fun a oe cls d pn hz hf => (pss_one (ps_ret (pe_clS C_law_is_field (by exact (L2H.roomH_mark (hr.mono (by decide)) _)) (List.mem_cons_self ..) hz hf (pa_cons (pv 2) (pa_cons pe_str pa_nil)))))))
    (pss_one (ps_ret pe_bl))), ?_⟩
    try dsimp only [L2.cxOf, L2.Cx.nox]
    simp only [L2.start, N_law_no_mark, List.map_cons, List.map_nil, List.length_cons, List.length_nil, Nat.reduceAdd, Nat.reduceSub, List.replicate_succ, List.replicate_zero, List.cons_append, List.nil_append]

    walk_at "gos"
    exact k _ Gx.rel
/-- a keeper of one of the five classes -/
def Kp5 (cK cG cL cT cR : Addr) (H : Hp) (x : Addr) : Prop := InC cK [] H x ∨ InC cG [] H x ∨ (∃ m : Int, InC cL [(("_mark" : Str), .int m)] H x) ∨ (∃ m : Int, InC cT [(("_limit" : Str), .int m)] H x) ∨ (∃ r : Addr, InC cR [(("_rules" : Str), .ref r)] H x)
def spRfd (cK cG cL cT cR : Addr) : Sp := fun vs H Q _ => ∃ (x a : Addr) (z f : Str) (p φ : Int), vs = [.ref x, .str z, .int p, .ref a, .int φ, .str f] ∧ (Kp5 cK cG cL cT cR H x ∧ z.length ≤ 1000 ∧ DueW "word" z (fMo p φ) (some f)) ∧ ∀ H', Ex H H' → Q (.bl true) H'
local macro_rules | `(tactic| walk_at "call") => `(tactic| ((with_reducible show spChX _ _ _ _ _); refine ⟨_, _, _, _, _, _, rfl, ⟨by assumption, by assumption⟩, ?_⟩; intro d_ H_ nd_ e_ hd_))
abbrev s_law_refused : Stmt := (top 69)
abbrev N_law_refused : List Str := ["_law_keeper", "_law_word_here", "_law_wide", "_law_made", "_law_beat", "_law_due_here", "_law_raised"]
theorem sc_law_refused : FnScope N_law_refused ["_law_keeper", "_law_word_here", "_law_wide", "_law_made", "_law_beat", "_law_due_here"] (defScope s_law_refused) := ⟨rfl, rfl, rfl, by decide +kernel, rfl, by decide +kernel, by decide +kernel⟩
theorem cl_law_refused (T : Bl mg) (Z : EcF P K mg c_StoreError c_InvalidInput c_NoPlace) (R : RdF K mg c_Round) (W_Keeper : Gx.ClsF K mg c_Keeper "Keeper" []) (M_Keeper : Gx.MkZ K c_Keeper) (I_Keeper_Keeper : PySem.W.kitOne K (.ref c_Keeper) (.ref c_Keeper) = some true) (W_Greedy : Gx.ClsF K mg c_Greedy "Greedy" []) (M_Greedy : Gx.MkZ K c_Greedy) (I_Greedy_Keeper : PySem.W.kitOne K (.ref c_Greedy) (.ref c_Keeper) = some true) (W_Lazy : Gx.ClsF K mg c_Lazy "Lazy" ["_mark"]) (I_Lazy_Keeper : PySem.W.kitOne K (.ref c_Lazy) (.ref c_Keeper) = some true) (W_Thrifty : Gx.ClsF K mg c_Thrifty "Thrifty" ["_limit"]) (I_Thrifty_Keeper : PySem.W.kitOne K (.ref c_Thrifty) (.ref c_Keeper) = some true) (W_RuleKeeper : Gx.ClsF K mg c_RuleKeeper "RuleKeeper" ["_rules"]) (I_RuleKeeper_Keeper : PySem.W.kitOne K (.ref c_RuleKeeper) (.ref c_Keeper) = some true) (D : DfG K mg "_law_refused" s_law_refused [] []) (C_RuleKeeper_choose_X : ClM (L2.CX P w) P w K mg base 7 c_RuleKeeper "choose" "RuleKeeper.choose" s_RuleKeeper_choose_X ["self", "word", "places", "budgets", "phase"] [] [] (spChX c_InvalidInput)) (C_Thrifty_choose_X : ClM (L2.CX P w) P w K mg base 7 c_Thrifty "choose" "Thrifty.choose" s_Thrifty_choose_X ["self", "word", "places", "budgets", "phase"] [] [] (spChX c_InvalidInput)) (C_Lazy_choose_X : ClM (L2.CX P w) P w K mg base 7 c_Lazy "choose" "Lazy.choose" s_Lazy_choose_X ["self", "word", "places", "budgets", "phase"] [] [] (spChX c_InvalidInput)) (C_Greedy_choose_X : ClM (L2.CX P w) P w K mg base 7 c_Greedy "choose" "Greedy.choose" s_Greedy_choose_X ["self", "word", "places", "budgets", "phase"] [] [] (spChX c_InvalidInput)) (C_Keeper_choose_X : ClM (L2.CX P w) P w K mg base 7 c_Keeper "choose" "Keeper.choose" s_Keeper_choose_X ["self", "word", "places", "budgets", "phase"] [] [] (spChX c_InvalidInput)) (C_law_is_field : ClS P w K mg base 3 "_law_is_field" ["_law_raised", "_law_due_here"] (spIsF c_InvalidInput)) : ClG CX0 P w K mg base 9 "_law_refused" s_law_refused ["_law_keeper", "_law_word_here", "_law_wide", "_law_made", "_law_beat", "_law_due_here"] [] [] (spRfd c_Keeper c_Greedy c_Lazy c_Thrifty c_RuleKeeper) := by
  have nd := sc_law_refused.nd
  refine D.okP sc_law_refused (fun vs H Q E h => ?_) (fun f cdv A outer s H vs Q E hr h => ?_)
  · obtain ⟨x, a, z, f, p, φ, rfl, _⟩ := h
    rfl
  · obtain ⟨x, a, z, f, p, φ, rfl, ⟨hx, hz, hd⟩, k⟩ := h
    have hu := hu64 hr
    refine ⟨_, (pss_cons (ps_try_as (c := .ref c_InvalidInput) rfl rfl nd (i := 6) rfl rfl ⟨by rfl, by decide, .inl Z.g_InvalidInput⟩ takes0 (fun W pn xe tk po => (pss_one (ps_expr (pe_ei (pe_mD C_Keeper_choose_X W_Keeper.c (by exact hr.mono (by decide)) (fun σ => passC tk σ) (fun _ _ _ _ _ _ us hl => match us, hl with | [_, _, _, _, _], _ => rfl) (pv 0) (pa_cons (pv 1) (pa_cons (pv 2) (pa_cons (pv 3) (pa_cons (pv 4) pa_nil))))) (pe_ei (pe_mD C_Greedy_choose_X W_Greedy.c (by exact hr.mono (by decide)) (fun σ => passC tk σ) (fun _ _ _ _ _ _ us hl => match us, hl with | [_, _, _, _, _], _ => rfl) (pv 0) (pa_cons (pv 1) (pa_cons (pv 2) (pa_cons (pv 3) (pa_cons (pv 4) pa_nil))))) (pe_ei (pe_mD C_Lazy_choose_X W_Lazy.c (by exact hr.mono (by decide)) (fun σ => passC tk σ) (fun _ _ _ _ _ _ us hl => match us, hl with | [_, _, _, _, _], _ => rfl) (pv 0) (pa_cons (pv 1) (pa_cons (pv 2) (pa_cons (pv 3) (pa_cons (pv 4) pa_nil))))) (pe_ei (pe_mD C_Thrifty_choose_X W_Thrifty.c (by exact hr.mono (by decide)) (fun σ => passC tk σ) (fun _ _ _ _ _ _ us hl => match us, hl with | [_, _, _, _, _], _ => rfl) (pv 0) (pa_cons (pv 1) (pa_cons (pv 2) (pa_cons (pv 3) (pa_cons (pv 4) pa_nil))))) (pe_mD C_RuleKeeper_choose_X W_RuleKeeper.c (by exact hr.mono (by decide)) (fun σ => passC tk σ) (fun _ _ _ _ _ _ us hl => match us, hl with | [_, _, _, _, _], _ => rfl) (pv 0) (pa_cons (pv 1) (pa_cons (pv 2) (pa_cons (pv 3) (pa_cons (pv 4) pa_nil))))))))))))
      (fun a oe cls d pn hz hf => (pss_one (ps_ret (pe_clS C_law_is_field (by exact (L2H.roomH_mark (hr.mono (by decide)) _)) (List.mem_cons_self ..) hz hf (pa_cons (pv 6) (pa_cons (pv 5) pa_nil)))))))
    (pss_one (ps_ret pe_bl))), ?_⟩
    try dsimp only [L2.cxOf, L2.Cx.nox]
    simp only [L2.start, N_law_refused, List.map_cons, List.map_nil, List.length_cons, List.length_nil, Nat.reduceAdd, Nat.reduceSub, List.replicate_succ, List.replicate_zero, List.cons_append, List.nil_append]

    rcases hx with hx | hx | ⟨m, hx⟩ | ⟨m, hx⟩ | ⟨r, hx⟩
    · walk_at "go"
      refine Gx.ei_l ?_
      walk_at "gos"
      exact k _ Gx.rel
    · walk_at "go"
      refine Gx.ei_r (Gx.ei_l ?_)
      walk_at "gos"
      exact k _ Gx.rel
    · walk_at "go"
      refine Gx.ei_r (Gx.ei_r (Gx.ei_l ?_))
      walk_at "gos"
      exact k _ Gx.rel
    · walk_at "go"
      refine Gx.ei_r (Gx.ei_r (Gx.ei_r (Gx.ei_l ?_)))
      walk_at "gos"
      exact k _ Gx.rel
    · walk_at "go"
      refine Gx.ei_r (Gx.ei_r (Gx.ei_r (Gx.ei_r ?_)))
      walk_at "gos"
      exact k _ Gx.rel

local macro_rules | `(tactic| walk_at "call") => `(tactic| first
  | ((with_reducible show spTk5 _ _ _ _ _); refine ⟨_, _, _, _, rfl, ⟨by infer_instance, by infer_instance, by omega, by omega⟩, ?_⟩; intro d_ H_ h0_ h1_ e_ hB_)
  | ((with_reducible show spNoI _ _ _ _ _); refine ⟨_, rfl, by omega, ?_⟩; intro H_ e_)
  | ((with_reducible show spNoM _ _ _ _ _); refine ⟨_, _, _, rfl, ⟨by infer_instance, by omega⟩, ?_⟩; intro H_ e_)
  | ((with_reducible show spTin _ _ _ _ _); refine ⟨_, _, _, rfl, ⟨by infer_instance, by omega⟩, ?_⟩; intro H_ e_ hI_)
  | ((with_reducible show spLabI _ _ _ _ _ _ _); refine ⟨_, _, rfl, ⟨by infer_instance, by omega, by omega⟩, ?_⟩))
def spBadN (C : Addr) (K : PySem.W.Frag) : Sp := fun vs H Q _ => ∃ (s b mk st pp a q1 q2 : Addr) (m0 m1 m2 : Int) (l1 l2 : List Bool) (p1 p2 : Nat) (φ1 φ2 : Int) (bs zs : List Int), vs = [.ref s, .ref b, .ref mk, .ref st, .ref pp, .ref a] ∧
  (ScN K H s b (zs.map V.int) ∧ Bk b H ∧ NeC mk b ∧ NeC st b ∧ NeC q1 b ∧ NeC q2 b ∧ NeC pp b ∧ At H mk (.lst [.int m0, .int m1, .int m2]) ∧ At H st (.lst [.ref q1, .ref q2]) ∧ StC q1 H l1 (p1 : Nat) φ1 ∧ StC q2 H l2 (p2 : Nat) φ2 ∧ At H pp (.lst (bs.map V.int)) ∧ RdC C H a bs ∧ RB bs ∧ 0 ≤ m0 ∧ m0 < 2 ^ 100 ∧ 0 ≤ m1 ∧ m1 < 2 ^ 100 ∧ 0 ≤ m2 ∧ m2 < 2 ^ 100) ∧
  ∀ H', ExB b H H' → Bk b H' → Q (.bl true) H'
abbrev s_law_bad_numbers : Stmt := (top 67)
abbrev N_law_bad_numbers : List Str := ["_law_script", "_law_box_here", "_law_marks_here", "_law_stands", "_law_pays_here", "_law_made", "_law_low", "_law_lazy"]
theorem sc_law_bad_numbers : FnScope N_law_bad_numbers ["_law_script", "_law_box_here", "_law_marks_here", "_law_stands", "_law_pays_here", "_law_made"] (defScope s_law_bad_numbers) := ⟨rfl, rfl, rfl, by decide +kernel, rfl, by decide +kernel, by decide +kernel⟩
theorem cl_law_bad_numbers (T : Bl mg) (Z : EcF P K mg c_StoreError c_InvalidInput c_NoPlace) (R : RdF K mg c_Round) (W_Keeper : Gx.ClsF K mg c_Keeper "Keeper" []) (M_Keeper : Gx.MkZ K c_Keeper) (I_Keeper_Keeper : PySem.W.kitOne K (.ref c_Keeper) (.ref c_Keeper) = some true) (W_Greedy : Gx.ClsF K mg c_Greedy "Greedy" []) (M_Greedy : Gx.MkZ K c_Greedy) (I_Greedy_Keeper : PySem.W.kitOne K (.ref c_Greedy) (.ref c_Keeper) = some true) (W_Lazy : Gx.ClsF K mg c_Lazy "Lazy" ["_mark"]) (I_Lazy_Keeper : PySem.W.kitOne K (.ref c_Lazy) (.ref c_Keeper) = some true) (W_Thrifty : Gx.ClsF K mg c_Thrifty "Thrifty" ["_limit"]) (I_Thrifty_Keeper : PySem.W.kitOne K (.ref c_Thrifty) (.ref c_Keeper) = some true) (W_RuleKeeper : Gx.ClsF K mg c_RuleKeeper "RuleKeeper" ["_rules"]) (I_RuleKeeper_Keeper : PySem.W.kitOne K (.ref c_RuleKeeper) (.ref c_Keeper) = some true) (D : DfG K mg "_law_bad_numbers" s_law_bad_numbers [] []) (C_Thrifty___init__ : Gx.ClC CX0 P w K mg base 5 c_Thrifty "Thrifty.__init__" s_Thrifty___init__ ["self", "limit"] [] [] (spTin c_Thrifty)) (C_Thrifty_label : ClM CX0 P w K mg base 3 c_Thrifty "label" "Thrifty.label" s_Thrifty_label ["self"] [] [] (spLabI c_Thrifty "_limit" "thrifty ")) (C_law_no_thrifty : ClG CX0 P w K mg base 7 "_law_no_thrifty" s_law_no_thrifty ["_law_number"] [] [] (spNoI 1)) (C_law_looks : ClG CX0 P w K mg base 11 "_law_looks" s_law_looks ["_law_keeper", "_law_plan", "_law_stands", "_law_pays_here", "_law_made"] [] [] (spLks c_Round c_Keeper c_Greedy c_Lazy)) (C_law_no_mark : ClG CX0 P w K mg base 7 "_law_no_mark" s_law_no_mark ["_law_lazy", "_law_number"] [] [] (spNoM c_Lazy)) (C_Lazy_set_mark : ClM CX0 P w K mg base 5 c_Lazy "set_mark" "Lazy.set_mark" s_Lazy_set_mark ["self", "mark"] [] [] (spLsm c_Lazy)) (C_law_no_lazy : ClG CX0 P w K mg base 7 "_law_no_lazy" s_law_no_lazy ["_law_number"] [] [] (spNoI 0)) (C_Lazy___init__ : Gx.ClC CX0 P w K mg base 5 c_Lazy "Lazy.__init__" s_Lazy___init__ ["self", "mark"] [] [] (spLin c_Lazy)) (C_law_take : ClG CX0 P w K mg base 3 "_law_take" s_law_take ["_law_script", "_law_box_here", "_law_many"] [] [] (spTk5 K)) : ClG CX0 P w K mg base 13 "_law_bad_numbers" s_law_bad_numbers ["_law_script", "_law_box_here", "_law_marks_here", "_law_stands", "_law_pays_here", "_law_made"] [] [] (spBadN c_Round K) := by
  have nd := sc_law_bad_numbers.nd
  refine D.okP sc_law_bad_numbers (fun vs H Q E h => ?_) (fun f cdv A outer s H vs Q E hr h => ?_)
  · obtain ⟨s, b, mk, st, pp, a, q1, q2, m0, m1, m2, l1, l2, p1, p2, φ1, φ2, bs, zs, rfl, _⟩ := h
    rfl
  · obtain ⟨s, b, mk, st, pp, a, q1, q2, m0, m1, m2, l1, l2, p1, p2, φ1, φ2, bs, zs, rfl, ⟨hs, hb, n1, n2, n3, n4, n5, hmk, hst, hq1, hq2, hpp, ha, hB, u0, u1, v0, v1, w0, w1⟩, k⟩ := h
    have hu := hu64 hr
    refine ⟨_, (pss_cons (ps_set (i := 6) nd rfl (Or.inl rfl) (pe_op opSub (pe_un un_neg pe_int) (pe_g C_law_take (by exact hr.mono (by decide)) (E := fun _ => E0) (fun σ => passC0 σ) (fun _ _ _ _ _ _ us hl => match us, hl with | [_, _, _], _ => rfl) (pa_cons (pv 0) (pa_cons (pv 1) (pa_cons (pe_ix (ixSeqK (K := K) (by rfl)) (pe_lst (pa_cons pe_int (pa_cons (pe_op opPow pe_int pe_int) pa_nil))) (pe_g C_law_take (by exact hr.mono (by decide)) (E := fun _ => E0) (fun σ => passC0 σ) (fun _ _ _ _ _ _ us hl => match us, hl with | [_, _, _], _ => rfl) (pa_cons (pv 0) (pa_cons (pv 1) (pa_cons pe_int pa_nil)))) (fun _ _ => rfl)) pa_nil))))))
    (pss_cons (ps_set (i := 7) nd rfl (Or.inl rfl) (pe_mk C_Lazy___init__ (by exact hr.mono (by decide)) (by rfl) W_Lazy.g pass0 (fun _ _ _ _ _ _ us hl => match us, hl with | [_, _], _ => rfl) (pa_cons (pe_ix (ixSeqK (K := K) (by rfl)) (pv 2) pe_int (fun _ _ => rfl)) pa_nil)))
    (pss_cons (ps_if (PW.pt (pw_or (pt_not (pt_val (pe_g C_law_no_lazy (by exact hr.mono (by decide)) (E := fun _ => E0) (fun σ => passC0 σ) (fun _ _ _ _ _ _ us hl => match us, hl with | [_], _ => rfl) (pa_cons (pv 6) pa_nil)))) (pw_or1 (pt_not (pt_val (pe_g C_law_no_mark (by exact hr.mono (by decide)) (E := fun _ => E0) (fun σ => passC0 σ) (fun _ _ _ _ _ _ us hl => match us, hl with | [_, _], _ => rfl) (pa_cons (pv 7) (pa_cons (pv 6) pa_nil))))))))
      (pss_one (ps_ret pe_bl))
      pss_nil)
    (pss_cons (ps_if (pt_not (pt_val (pe_g C_law_looks (by exact hr.mono (by decide)) (E := fun _ => E0) (fun σ => passC0 σ) (fun _ _ _ _ _ _ us hl => match us, hl with | [_, _, _, _, _], _ => rfl) (pa_cons (pv 7) (pa_cons (pe_lst (pa_cons pe_str (pa_cons (pe_ix (ixSeqK (K := K) (by rfl)) (pv 2) pe_int (fun _ _ => rfl)) pa_nil))) (pa_cons (pv 3) (pa_cons (pv 4) (pa_cons (pv 5) pa_nil))))))))
      (pss_one (ps_ret pe_bl))
      pss_nil)
    (pss_cons (ps_expr (pe_m C_Lazy_set_mark W_Lazy.c (by exact hr.mono (by decide)) pass0 (fun _ _ _ _ _ _ us hl => match us, hl with | [_, _], _ => rfl) (pv 7) (pa_cons (pe_ix (ixSeqK (K := K) (by rfl)) (pv 2) pe_int (fun _ _ => rfl)) pa_nil)))
    (pss_cons (ps_if (PW.pt (pw_or (pt_not (pt_val (pe_g C_law_no_mark (by exact hr.mono (by decide)) (E := fun _ => E0) (fun σ => passC0 σ) (fun _ _ _ _ _ _ us hl => match us, hl with | [_, _], _ => rfl) (pa_cons (pv 7) (pa_cons (pe_un un_neg pe_int) pa_nil))))) (pw_or1 (pt_not (pt_val (pe_g C_law_looks (by exact hr.mono (by decide)) (E := fun _ => E0) (fun σ => passC0 σ) (fun _ _ _ _ _ _ us hl => match us, hl with | [_, _, _, _, _], _ => rfl) (pa_cons (pv 7) (pa_cons (pe_lst (pa_cons pe_str (pa_cons (pe_ix (ixSeqK (K := K) (by rfl)) (pv 2) pe_int (fun _ _ => rfl)) pa_nil))) (pa_cons (pv 3) (pa_cons (pv 4) (pa_cons (pv 5) pa_nil)))))))))))
      (pss_one (ps_ret pe_bl))
      pss_nil)
    (pss_cons (ps_if (PW.pt (pw_or (pt_not (pt_val (pe_g C_law_no_thrifty (by exact hr.mono (by decide)) (E := fun _ => E0) (fun σ => passC0 σ) (fun _ _ _ _ _ _ us hl => match us, hl with | [_], _ => rfl) (pa_cons pe_int pa_nil)))) (pw_or1 (pt_not (pt_val (pe_g C_law_no_thrifty (by exact hr.mono (by decide)) (E := fun _ => E0) (fun σ => passC0 σ) (fun _ _ _ _ _ _ us hl => match us, hl with | [_], _ => rfl) (pa_cons (pv 6) pa_nil)))))))
      (pss_one (ps_ret pe_bl))
      pss_nil)
    (pss_one (ps_ret (pe_and (pe_cmpR (opEqK (K := K) (by rfl) (by exact hu)) (pe_m0 C_Thrifty_label W_Thrifty.c (by exact hr.mono (by decide)) pass0 (fun _ _ _ _ _ _ us hl => match us, hl with | [_], _ => rfl) (pe_mk C_Thrifty___init__ (by exact hr.mono (by decide)) (by rfl) W_Thrifty.g pass0 (fun _ _ _ _ _ _ us hl => match us, hl with | [_, _], _ => rfl) (pa_cons pe_int pa_nil))) pe_str (nomark _)) (pe_one (pe_cmpR (opEqK (K := K) (by rfl) (by exact hu)) (pe_m0 C_Thrifty_label W_Thrifty.c (by exact hr.mono (by decide)) pass0 (fun _ _ _ _ _ _ us hl => match us, hl with | [_], _ => rfl) (pe_mk C_Thrifty___init__ (by exact hr.mono (by decide)) (by rfl) W_Thrifty.g pass0 (fun _ _ _ _ _ _ us hl => match us, hl with | [_, _], _ => rfl) (pa_cons (pe_op opSub pe_int (pv 6)) pa_nil))) (pe_op (opAddK (K := K) (by rfl)) pe_str (pe_callTy callStr (by rfl) T.str (by decide +kernel) (pa_cons (pe_op opSub pe_int (pv 6)) pa_nil))) (nomark _))))))))))))), ?_⟩
    try dsimp only [L2.cxOf, L2.Cx.nox]
    simp only [L2.start, N_law_bad_numbers, List.map_cons, List.map_nil, List.length_cons, List.length_nil, Nat.reduceAdd, Nat.reduceSub, List.replicate_succ, List.replicate_zero, List.cons_append, List.nil_append]

    walk_at "go"
    rename_i p G1 np f1 hp d G2 a0 a1 f2 hB2
    refine ix_lit (fun x => 3 ≤ x ∧ x ≤ 10 ^ 30) (by omega) (by simp; omega) (by simp) fun tp htp => ?_
    walk_at "go"
    refine Gx.g_addS (Nat.le_trans (Nat.add_le_add_left (int_len (by omega)) _) (by decide +kernel)) ?_
    walk_at "go"
    first
      | exact k _ Gx.rel inferInstance
      | (rw [decide_eq_true rfl]; exact k _ Gx.rel inferInstance)
local macro_rules | `(tactic| walk_at "call") => `(tactic| first
  | ((with_reducible show spThc _ _ _ _ _ _); refine ⟨_, _, _, _, _, _, _, rfl, ⟨by infer_instance, by assumption, by omega, by omega, by omega, by infer_instance, by assumption, by omega, by omega⟩, ?_⟩; intro r_ H_ e_ hr_)
  | ((with_reducible show spDue _ _ _ _); refine ⟨_, _, _, _, _, _, _, _, _, rfl, ⟨by infer_instance, by assumption, by infer_instance, by assumption, by omega, by omega, .inr (.inl rfl)⟩, ?_⟩; intro H_ e_))
def spThf (C : Addr) (K : PySem.W.Frag) : Sp := fun vs H Q _ => ∃ (s b q pp a : Addr) (l : List Bool) (p : Nat) (φ : Int) (bs zs : List Int), vs = [.ref s, .ref b, .ref q, .ref pp, .ref a] ∧
  (ScN K H s b (zs.map V.int) ∧ Bk b H ∧ NeC q b ∧ NeC pp b ∧ StC q H l (p : Nat) φ ∧ At H pp (.lst (bs.map V.int)) ∧ RdC C H a bs ∧ RB bs) ∧
  ∀ H', ExB b H H' → Bk b H' → Q (.bl true) H'
abbrev s_law_thrifty : Stmt := (top 68)
abbrev N_law_thrifty : List Str := ["_law_script", "_law_box_here", "_law_stand_here", "_law_pays_here", "_law_made", "_law_word_here", "_law_wide", "_law_many", "_law_keeper", "_law_told"]
theorem sc_law_thrifty : FnScope N_law_thrifty ["_law_script", "_law_box_here", "_law_stand_here", "_law_pays_here", "_law_made"] (defScope s_law_thrifty) := ⟨rfl, rfl, rfl, by decide +kernel, rfl, by decide +kernel, by decide +kernel⟩
theorem cl_law_thrifty (T : Bl mg) (Z : EcF P K mg c_StoreError c_InvalidInput c_NoPlace) (R : RdF K mg c_Round) (W_Keeper : Gx.ClsF K mg c_Keeper "Keeper" []) (M_Keeper : Gx.MkZ K c_Keeper) (I_Keeper_Keeper : PySem.W.kitOne K (.ref c_Keeper) (.ref c_Keeper) = some true) (W_Greedy : Gx.ClsF K mg c_Greedy "Greedy" []) (M_Greedy : Gx.MkZ K c_Greedy) (I_Greedy_Keeper : PySem.W.kitOne K (.ref c_Greedy) (.ref c_Keeper) = some true) (W_Lazy : Gx.ClsF K mg c_Lazy "Lazy" ["_mark"]) (I_Lazy_Keeper : PySem.W.kitOne K (.ref c_Lazy) (.ref c_Keeper) = some true) (W_Thrifty : Gx.ClsF K mg c_Thrifty "Thrifty" ["_limit"]) (I_Thrifty_Keeper : PySem.W.kitOne K (.ref c_Thrifty) (.ref c_Keeper) = some true) (W_RuleKeeper : Gx.ClsF K mg c_RuleKeeper "RuleKeeper" ["_rules"]) (I_RuleKeeper_Keeper : PySem.W.kitOne K (.ref c_RuleKeeper) (.ref c_Keeper) = some true) (D : DfG K mg "_law_thrifty" s_law_thrifty [] []) (C_law_due : ClG CX0 P w K mg base 3 "_law_due" s_law_due ["_law_plan", "_law_stand_here", "_law_pays_here"] [] [] spDue) (C_law_is_count : ClG CX0 P w K mg base 3 "_law_is_count" s_law_is_count ["_law_thing"] [] [] spIct) (C_Thrifty_label : ClM CX0 P w K mg base 3 c_Thrifty "label" "Thrifty.label" s_Thrifty_label ["self"] [] [] (spLabI c_Thrifty "_limit" "thrifty ")) (C_Thrifty_choose : ClM CX0 P w K mg base 19 c_Thrifty "choose" "Thrifty.choose" s_Thrifty_choose ["self", "word", "places", "budgets", "phase"] [] [] (spThc c_Round c_Thrifty)) (C_Thrifty___init__ : Gx.ClC CX0 P w K mg base 5 c_Thrifty "Thrifty.__init__" s_Thrifty___init__ ["self", "limit"] [] [] (spTin c_Thrifty)) (C_law_take : ClG CX0 P w K mg base 3 "_law_take" s_law_take ["_law_script", "_law_box_here", "_law_many"] [] [] (spTk5 K)) : ClG CX0 P w K mg base 21 "_law_thrifty" s_law_thrifty ["_law_script", "_law_box_here", "_law_stand_here", "_law_pays_here", "_law_made"] [] [] (spThf c_Round K) := by
  have nd := sc_law_thrifty.nd
  refine D.okP sc_law_thrifty (fun vs H Q E h => ?_) (fun f cdv A outer s H vs Q E hr h => ?_)
  · obtain ⟨s, b, q, pp, a, l, p, φ, bs, zs, rfl, _⟩ := h
    rfl
  · obtain ⟨s, b, q, pp, a, l, p, φ, bs, zs, rfl, ⟨hs, hb, n1, n2, hq, hpp, ha, hB⟩, k⟩ := h
    have hu := hu64 hr
    refine ⟨_, (pss_cons (ps_set (i := 5) nd rfl (Or.inl rfl) (pe_ix (ixSeqK (K := K) (by rfl)) (pv 2) pe_int (fun _ _ => rfl)))
    (pss_cons (ps_set (i := 6) nd rfl (Or.inl rfl) (pe_ix (ixSeqK (K := K) (by rfl)) (pv 2) pe_int (fun _ _ => rfl)))
    (pss_cons (ps_if (pt_cmpR (opEqK (K := K) (by rfl) (by exact hu)) (pe_bmK (K := K) (by rfl) PySem.F.plainAttrs_str PySem.F.slot_str_count PySem.F.type_str_count mtCount (pv 5) (pa_cons pe_str pa_nil)) (pv 6) (nomark _))
      (pss_one (ps_set (i := 5) nd rfl (Or.inl rfl) pe_str))
      pss_nil)
    (pss_cons (ps_set (i := 7) nd rfl (Or.inl rfl) (pe_op (opAddK (K := K) (by rfl)) (pe_op (opAddK (K := K) (by rfl)) pe_int (pe_bmK (K := K) (by rfl) PySem.F.plainAttrs_str PySem.F.slot_str_count PySem.F.type_str_count mtCount (pv 5) (pa_cons pe_str pa_nil))) (pe_g C_law_take (by exact hr.mono (by decide)) (E := fun _ => E0) (fun σ => passC0 σ) (fun _ _ _ _ _ _ us hl => match us, hl with | [_, _, _], _ => rfl) (pa_cons (pv 0) (pa_cons (pv 1) (pa_cons (pe_op opSub (pv 6) (pe_bmK (K := K) (by rfl) PySem.F.plainAttrs_str PySem.F.slot_str_count PySem.F.type_str_count mtCount (pv 5) (pa_cons pe_str pa_nil))) pa_nil))))))
    (pss_cons (ps_set (i := 8) nd rfl (Or.inl rfl) (pe_mk C_Thrifty___init__ (by exact hr.mono (by decide)) (by rfl) W_Thrifty.g pass0 (fun _ _ _ _ _ _ us hl => match us, hl with | [_, _], _ => rfl) (pa_cons (pv 7) pa_nil)))
    (pss_cons (ps_set (i := 9) nd rfl (Or.inl rfl) (pe_m C_Thrifty_choose W_Thrifty.c (by exact hr.mono (by decide)) pass0 (fun _ _ _ _ _ _ us hl => match us, hl with | [_, _, _, _, _], _ => rfl) (pv 8) (pa_cons (pv 5) (pa_cons (pv 6) (pa_cons (pv 4) (pa_cons (pe_ix (ixSeqK (K := K) (by rfl)) (pv 2) pe_int (fun _ _ => rfl)) pa_nil))))))
    (pss_cons (ps_if (PW.pt (pw_or (pt_not (pt_val (pe_callB (callIsiK (K := K) (by rfl)) (by rfl) T.isinstance (by decide +kernel) (pa_cons (pv 8) (pa_cons (pe_glob (v := .ref c_Keeper) (u := .ref c_Keeper) (by rfl) W_Keeper.g rfl) pa_nil))))) (pw_or1 (pt_cmpR (opNeK (K := K) (by rfl) (by exact hu)) (pe_m0 C_Thrifty_label W_Thrifty.c (by exact hr.mono (by decide)) pass0 (fun _ _ _ _ _ _ us hl => match us, hl with | [_], _ => rfl) (pv 8)) (pe_op (opAddK (K := K) (by rfl)) pe_str (pe_callTy callStr (by rfl) T.str (by decide +kernel) (pa_cons (pv 7) pa_nil))) (nomark _)))))
      (pss_one (ps_ret pe_bl))
      pss_nil)
    (pss_one (ps_ret (pe_and (pe_g C_law_is_count (by exact hr.mono (by decide)) (E := fun _ => E0) (fun σ => passC0 σ) (fun _ _ _ _ _ _ us hl => match us, hl with | [_], _ => rfl) (pa_cons (pv 9) pa_nil)) (pe_one (pe_chain opLe opLe pe_int (pv 9) (pe_g C_law_due (by exact hr.mono (by decide)) (E := fun _ => E0) (fun σ => passC0 σ) (fun _ _ _ _ _ _ us hl => match us, hl with | [_, _, _], _ => rfl) (pa_cons (pe_lst (pa_cons pe_str (pa_cons pe_int pa_nil))) (pa_cons (pe_lst (pa_cons (pv 5) (pa_cons (pv 6) (pa_cons (pe_ix (ixSeqK (K := K) (by rfl)) (pv 2) pe_int (fun _ _ => rfl)) pa_nil)))) (pa_cons (pv 3) pa_nil)))))))))))))))), ?_⟩
    try dsimp only [L2.cxOf, L2.Cx.nox]
    simp only [L2.start, N_law_thrifty, List.map_cons, List.map_nil, List.length_cons, List.length_nil, Nat.reduceAdd, Nat.reduceSub, List.replicate_succ, List.replicate_zero, List.cons_append, List.nil_append]

    have hqa : At H q _ := ⟨hq.ex.1⟩
    have bq := hq.ex.2
    have hcl := List.count_le_length (a := true) (l := l)
    walk_at "go"
    refine ite_join (fun σ' H' => ∃ W : List Bool, σ' = [some (.ref s), some (.ref b), some (.ref q), some (.ref pp), some (.ref a), some (.str (tx W)), some (.int (p : Nat)), none, none, none] ∧ H' = H ∧ Wd W ∧ W.length ≤ p ∧ W.count true < p) (fun N hk => ?_) ?_
    · refine Gx.g_ite (fun hI => ?_) (fun hI => ?_)
      · walk_at "go"
        exact hk _ _ ⟨[], rfl, rfl, Wd.nil, by simp, by simp; omega⟩
      · walk_at "go"
        exact hk _ _ ⟨l, rfl, rfl, bq.1, by omega, by omega⟩
    rintro σ' H' ⟨W, rfl, rfl, w1, w2, w3⟩
    walk_at "go"
    rename_i d G1 c0 c1 f1 hB1 x dx G2 n2' f2 hx G3 f3 hI3
    obtain ⟨n, hn⟩ : ∃ n : Nat, (n : Int) = 1 + ((W.count true : Nat) : Int) + d := ⟨(1 + ((W.count true : Nat) : Int) + d).toNat, by omega⟩
    rw [← hn] at hI3 ⊢
    walk_at "go"
    refine Gx.g_isC W_Thrifty I_Thrifty_Keeper ?_
    walk_at "go"
    refine Gx.g_addS (Nat.le_trans (Nat.add_le_add_left (int_len (by omega)) _) (by decide +kernel)) ?_
    walk_at "gos"
    rename_i r Gr er hr z1 z2 z3 p1 G5 n5 e5 hp5 p2 G6 n6 e6 hp6
    have hrm : r ≤ mostA bs p φ W := by
      unfold ThrR at hr
      rcases hr with h | h <;> omega
    refine ⟨_, _, _, _, _, _, _, _, _, rfl, ⟨by infer_instance, ⟨hp6.eq, w1, by omega, by omega, by omega, by omega, by omega⟩, by infer_instance, by assumption, by omega, by omega, .inr (.inl rfl)⟩, ?_⟩
    intro H9 e9
    rw [show cntK "greedy" 0 bs p φ W = (mostA bs p φ W : Nat) from by unfold cntK; rw [if_neg (by decide +kernel), if_neg (by decide +kernel)]]
    walk_at "go"
    have hle : ((r : Nat) : Int) ≤ ((mostA bs p φ W : Nat) : Int) := by omega
    first
      | exact k _ Gx.rel inferInstance
      | (rw [decide_eq_true hle]; exact k _ Gx.rel inferInstance)

theorem good_mem {z : Str} (h : Good z) : ∀ c ∈ z.cps.toList, c = 48 ∨ c = 49 := by
  obtain ⟨l, rfl, _⟩ := h
  intro c hc
  rw [Gx.tx_list] at hc
  obtain ⟨b, _, rfl⟩ := List.mem_map.mp hc
  cases b
  · exact .inl rfl
  · exact .inr rfl
theorem bad_mem {z : Str} {c : Nat} (hc : c ∈ z.cps.toList) (h1 : c ≠ 48) (h2 : c ≠ 49) : ¬ Good z := fun h => (good_mem h c hc).elim h1 h2
theorem bad_head {z : Str} {r : List Nat} (e : z.cps.toList = 48 :: r) : ¬ Good z := by
  rintro ⟨l, rfl, hl⟩
  rw [Gx.tx_list] at e
  cases l with
  | nil => cases e
  | cons b s =>
    cases b
    · exact hl rfl
    · have y : (49 : Nat) = 48 := (List.cons.inj e).1
      omega
theorem app_list (a b : Str) : (a ++ b).cps.toList = a.cps.toList ++ b.cps.toList := by rw [Str.cps_append]; simp
/-- the fourteen odd texts beside a word are no words -/
theorem odd_bad (l : List Bool) : ∀ z ∈ [("0" : Str), "01", "1 ", " 1", "12", "a", "1\n", "0" ++ tx l, tx l ++ "2", tx l ++ " ", "-" ++ tx l, "1 1", "1a1", "102011"], ¬ Good z := by
  intro z hz
  simp only [List.mem_cons, List.mem_nil_iff, or_false] at hz
  rcases hz with rfl | rfl | rfl | rfl | rfl | rfl | rfl | rfl | rfl | rfl | rfl | rfl | rfl | rfl
  · exact bad_head (r := []) (by decide +kernel)
  · exact bad_head (r := [49]) (by decide +kernel)
  · exact bad_mem (c := 32) (by decide +kernel) (by decide) (by decide)
  · exact bad_mem (c := 32) (by decide +kernel) (by decide) (by decide)
  · exact bad_mem (c := 50) (by decide +kernel) (by decide) (by decide)
  · exact bad_mem (c := 97) (by decide +kernel) (by decide) (by decide)
  · exact bad_mem (c := 10) (by decide +kernel) (by decide) (by decide)
  · exact bad_head (r := (tx l).cps.toList) (by rw [app_list, show ("0" : Str).cps.toList = [48] from by decide +kernel]; rfl)
  · exact bad_mem (c := 50) (by rw [app_list]; exact List.mem_append.mpr (.inr (by decide +kernel))) (by decide) (by decide)
  · exact bad_mem (c := 32) (by rw [app_list]; exact List.mem_append.mpr (.inr (by decide +kernel))) (by decide) (by decide)
  · exact bad_mem (c := 45) (by rw [app_list]; exact List.mem_append.mpr (.inl (by decide +kernel))) (by decide) (by decide)
  · exact bad_mem (c := 32) (by decide +kernel) (by decide) (by decide)
  · exact bad_mem (c := 97) (by decide +kernel) (by decide) (by decide)
  · exact bad_mem (c := 50) (by decide +kernel) (by decide) (by decide)

class Kp5C (cK cG cL cT cR : Addr) (H : Hp) (x : Addr) : Prop where
  ex : Kp5 cK cG cL cT cR H x
instance (priority := low) kp5Step {cK cG cL cT cR x : Addr} {cs : List Addr} {H1 H : Hp} [h : Kp5C cK cG cL cT cR H1 x] [r : Chg cs H1 H] [n : NotIn x cs] : Kp5C cK cG cL cT cR H x := ⟨by
  rcases h.ex with hx | hx | ⟨m, hx⟩ | ⟨m, hx⟩ | ⟨m, hx⟩
  · exact .inl inferInstance
  · exact .inr (.inl inferInstance)
  · exact .inr (.inr (.inl ⟨m, inferInstance⟩))
  · exact .inr (.inr (.inr (.inl ⟨m, inferInstance⟩)))
  · exact .inr (.inr (.inr (.inr ⟨m, inferInstance⟩)))⟩
theorem kp5_of {cK cG cL cT cR x : Addr} {H : Hp} [h : Kp5C cK cG cL cT cR H x] : Kp5 cK cG cL cT cR H x := h.ex
theorem due_bad {z : Str} {p φ : Int} (h : ¬ Good z) : DueW "word" z (fMo p φ) (some "word") := .inl ⟨h, rfl⟩
theorem due_ok {l : List Bool} {p φ : Int} {f : Str} (h : l.head? ≠ some false) (e : fMo p φ l = some f) : DueW "word" (tx l) (fMo p φ) (some f) := .inr ⟨l, rfl, h, e.symm⟩
theorem fMo1 {p φ : Int} {l : List Bool} (h : p < 1) : fMo p φ l = some ("places" : Str) := if_pos h
theorem fMo2 {p φ : Int} {l : List Bool} (h : ¬ p < 1) (h2 : φ < 0) : fMo p φ l = some ("phase" : Str) := by unfold fMo; rw [if_neg h, if_pos h2]
theorem fMo3 {p φ : Int} {l : List Bool} (h : ¬ p < 1) (h2 : ¬ φ < 0) (h3 : p < (l.length : Nat)) : fMo p φ l = some ("places" : Str) := by unfold fMo; rw [if_neg h, if_neg h2, if_pos h3]
theorem odd_all (l : List Bool) (hl : l.length ≤ 64) : ∀ z ∈ ([tx [false], tx [false, true], "1 ", " 1", "12", "a", "1\n", tx ([false] ++ l), tx l ++ "2", tx l ++ " ", "-" ++ tx l, "1 1", "1a1", "102011"] : List Str), ¬ Good z ∧ z.length ≤ 1000 := by
  intro z hz
  have e1 : tx [false] = ("0" : Str) := by decide +kernel
  have e2 : tx [false, true] = ("01" : Str) := by decide +kernel
  have e3 : tx ([false] ++ l) = "0" ++ tx l := by rw [← e1, Gx.tx_app]
  have htl := Gx.tx_len l
  rw [e1, e2, e3] at hz
  refine ⟨odd_bad l z hz, ?_⟩
  simp only [List.mem_cons, List.mem_nil_iff, or_false] at hz
  rcases hz with rfl | rfl | rfl | rfl | rfl | rfl | rfl | rfl | rfl | rfl | rfl | rfl | rfl | rfl
  all_goals first
    | decide +kernel
    | (rw [Str.length_append, htl, show ("0" : Str).length = 1 from by decide +kernel]; omega)
    | (rw [Str.length_append, htl, show ("2" : Str).length = 1 from by decide +kernel]; omega)
    | (rw [Str.length_append, htl, show (" " : Str).length = 1 from by decide +kernel]; omega)
    | (rw [Str.length_append, htl, show ("-" : Str).length = 1 from by decide +kernel]; omega)
local macro_rules | `(tactic| walk_at "call") => `(tactic| ((with_reducible show spTk5 _ _ _ _ _); refine ⟨_, _, _, _, rfl, ⟨by infer_instance, by infer_instance, by omega, by omega⟩, ?_⟩; intro d_ H_ h0_ h1_ e_ hB_))
local macro_rules | `(tactic| walk_at "call") => `(tactic| ((with_reducible show spRfd _ _ _ _ _ _ _ _ _); refine ⟨_, _, _, _, _, _, rfl, ⟨kp5_of, by first | assumption | (rw [Gx.tx_len]; omega), by first | exact due_bad (by assumption) | exact due_ok (by first | exact hw.2 | assumption) (fMo1 (by omega)) | exact due_ok (by assumption) (fMo2 (by omega) (by omega)) | exact due_ok (by assumption) (fMo3 (by omega) (by omega) (by omega))⟩, ?_⟩; intro H_ e_))
def spRfs (cK cG cL cT cR C : Addr) (K : PySem.W.Frag) : Sp := fun vs H Q _ => ∃ (s b x q a : Addr) (l : List Bool) (p : Nat) (φ : Int) (zs : List Int), vs = [.ref s, .ref b, .ref x, .ref q, .ref a] ∧ (ScN K H s b (zs.map V.int) ∧ Bk b H ∧ NeC q b ∧ NeC x b ∧ StC q H l (p : Nat) φ ∧ Kp5C cK cG cL cT cR H x) ∧
  ∀ H', ExB b H H' → Bk b H' → Q (.bl true) H'
abbrev s_law_refusals : Stmt := (top 70)
abbrev N_law_refusals : List Str := ["_law_script", "_law_box_here", "_law_keeper", "_law_stand_here", "_law_made", "_law_word_here", "_law_wide", "_law_odd", "_law_none", "_law_low", "_law_long", "_law_short"]
theorem sc_law_refusals : FnScope N_law_refusals ["_law_script", "_law_box_here", "_law_keeper", "_law_stand_here", "_law_made"] (defScope s_law_refusals) := ⟨rfl, rfl, rfl, by decide +kernel, rfl, by decide +kernel, by decide +kernel⟩
theorem cl_law_refusals (T : Bl mg) (Z : EcF P K mg c_StoreError c_InvalidInput c_NoPlace) (R : RdF K mg c_Round) (W_Keeper : Gx.ClsF K mg c_Keeper "Keeper" []) (M_Keeper : Gx.MkZ K c_Keeper) (I_Keeper_Keeper : PySem.W.kitOne K (.ref c_Keeper) (.ref c_Keeper) = some true) (W_Greedy : Gx.ClsF K mg c_Greedy "Greedy" []) (M_Greedy : Gx.MkZ K c_Greedy) (I_Greedy_Keeper : PySem.W.kitOne K (.ref c_Greedy) (.ref c_Keeper) = some true) (W_Lazy : Gx.ClsF K mg c_Lazy "Lazy" ["_mark"]) (I_Lazy_Keeper : PySem.W.kitOne K (.ref c_Lazy) (.ref c_Keeper) = some true) (W_Thrifty : Gx.ClsF K mg c_Thrifty "Thrifty" ["_limit"]) (I_Thrifty_Keeper : PySem.W.kitOne K (.ref c_Thrifty) (.ref c_Keeper) = some true) (W_RuleKeeper : Gx.ClsF K mg c_RuleKeeper "RuleKeeper" ["_rules"]) (I_RuleKeeper_Keeper : PySem.W.kitOne K (.ref c_RuleKeeper) (.ref c_Keeper) = some true) (D : DfG K mg "_law_refusals" s_law_refusals [] []) (C_law_refused : ClG CX0 P w K mg base 9 "_law_refused" s_law_refused ["_law_keeper", "_law_word_here", "_law_wide", "_law_made", "_law_beat", "_law_due_here"] [] [] (spRfd c_Keeper c_Greedy c_Lazy c_Thrifty c_RuleKeeper)) (C_law_take : ClG CX0 P w K mg base 3 "_law_take" s_law_take ["_law_script", "_law_box_here", "_law_many"] [] [] (spTk5 K)) : ClG CX0 P w K mg base 11 "_law_refusals" s_law_refusals ["_law_script", "_law_box_here", "_law_keeper", "_law_stand_here", "_law_made"] [] [] (spRfs c_Keeper c_Greedy c_Lazy c_Thrifty c_RuleKeeper c_Round K) := by
  have nd := sc_law_refusals.nd
  refine D.okP sc_law_refusals (fun vs H Q E h => ?_) (fun f cdv A outer s H vs Q E hr h => ?_)
  · obtain ⟨s, b, x, q, a, l, p, φ, zs, rfl, _⟩ := h
    rfl
  · obtain ⟨s, b, x, q, a, l, p, φ, zs, rfl, ⟨hs, hb, n1, n2, hq, hk⟩, k⟩ := h
    have hu := hu64 hr
    refine ⟨_, (pss_cons (ps_set (i := 5) nd rfl (Or.inl rfl) (pe_ix (ixSeqK (K := K) (by rfl)) (pv 3) pe_int (fun _ _ => rfl)))
    (pss_cons (ps_set (i := 6) nd rfl (Or.inl rfl) (pe_ix (ixSeqK (K := K) (by rfl)) (pv 3) pe_int (fun _ _ => rfl)))
    (pss_cons (ps_set (i := 7) nd rfl (Or.inl rfl) (pe_lst (pa_cons pe_str (pa_cons pe_str (pa_cons pe_str (pa_cons pe_str (pa_cons pe_str (pa_cons pe_str (pa_cons pe_str (pa_cons (pe_op (opAddK (K := K) (by rfl)) pe_str (pv 5)) (pa_cons (pe_op (opAddK (K := K) (by rfl)) (pv 5) pe_str) (pa_cons (pe_op (opAddK (K := K) (by rfl)) (pv 5) pe_str) (pa_cons (pe_op (opAddK (K := K) (by rfl)) pe_str (pv 5)) (pa_cons pe_str (pa_cons pe_str (pa_cons pe_str pa_nil))))))))))))))))
    (pss_cons (ps_set (i := 7) nd rfl (Or.inl rfl) (pe_ix (ixSeqK (K := K) (by rfl)) (pv 7) (pe_g C_law_take (by exact hr.mono (by decide)) (E := fun _ => E0) (fun σ => passC0 σ) (fun _ _ _ _ _ _ us hl => match us, hl with | [_, _, _], _ => rfl) (pa_cons (pv 0) (pa_cons (pv 1) (pa_cons (pe_callB (callLenK (K := K) (by rfl)) (by rfl) T.len (by decide +kernel) (pa_cons (pv 7) pa_nil)) pa_nil)))) (fun _ _ => rfl)))
    (pss_cons (ps_set (i := 8) nd rfl (Or.inl rfl) (pe_op opSub pe_int (pe_g C_law_take (by exact hr.mono (by decide)) (E := fun _ => E0) (fun σ => passC0 σ) (fun _ _ _ _ _ _ us hl => match us, hl with | [_, _, _], _ => rfl) (pa_cons (pv 0) (pa_cons (pv 1) (pa_cons (pe_ix (ixSeqK (K := K) (by rfl)) (pe_lst (pa_cons pe_int (pa_cons (pe_op opPow pe_int pe_int) pa_nil))) (pe_g C_law_take (by exact hr.mono (by decide)) (E := fun _ => E0) (fun σ => passC0 σ) (fun _ _ _ _ _ _ us hl => match us, hl with | [_, _, _], _ => rfl) (pa_cons (pv 0) (pa_cons (pv 1) (pa_cons pe_int pa_nil)))) (fun _ _ => rfl)) pa_nil))))))
    (pss_cons (ps_set (i := 9) nd rfl (Or.inl rfl) (pe_op opSub (pe_un un_neg pe_int) (pe_g C_law_take (by exact hr.mono (by decide)) (E := fun _ => E0) (fun σ => passC0 σ) (fun _ _ _ _ _ _ us hl => match us, hl with | [_, _, _], _ => rfl) (pa_cons (pv 0) (pa_cons (pv 1) (pa_cons (pe_ix (ixSeqK (K := K) (by rfl)) (pe_lst (pa_cons pe_int (pa_cons (pe_op opPow pe_int pe_int) pa_nil))) (pe_g C_law_take (by exact hr.mono (by decide)) (E := fun _ => E0) (fun σ => passC0 σ) (fun _ _ _ _ _ _ us hl => match us, hl with | [_, _, _], _ => rfl) (pa_cons (pv 0) (pa_cons (pv 1) (pa_cons pe_int pa_nil)))) (fun _ _ => rfl)) pa_nil))))))
    (pss_cons (ps_set (i := 10) nd rfl (Or.inl rfl) pe_str)
    (pss_cons (ps_if (pt_cmpR opGt (pe_callB (callLenK (K := K) (by rfl)) (by rfl) T.len (by decide +kernel) (pa_cons (pv 5) pa_nil)) pe_int (nomark _))
      (pss_one (ps_set (i := 10) nd rfl (Or.inl rfl) (pv 5)))
      pss_nil)
    (pss_cons (ps_set (i := 11) nd rfl (Or.inl rfl) (pe_op (opAddK (K := K) (by rfl)) pe_int (pe_g C_law_take (by exact hr.mono (by decide)) (E := fun _ => E0) (fun σ => passC0 σ) (fun _ _ _ _ _ _ us hl => match us, hl with | [_, _, _], _ => rfl) (pa_cons (pv 0) (pa_cons (pv 1) (pa_cons (pe_op opSub (pe_callB (callLenK (K := K) (by rfl)) (by rfl) T.len (by decide +kernel) (pa_cons (pv 10) pa_nil)) pe_int) pa_nil))))))
    (pss_cons (ps_if (pt_not (pt_val (pe_g C_law_refused (by exact hr.mono (by decide)) (E := fun _ => E0) (fun σ => passC0 σ) (fun _ _ _ _ _ _ us hl => match us, hl with | [_, _, _, _, _, _], _ => rfl) (pa_cons (pv 2) (pa_cons (pv 7) (pa_cons (pv 8) (pa_cons (pv 4) (pa_cons (pv 9) (pa_cons pe_str pa_nil)))))))))
      (pss_one (ps_ret pe_bl))
      pss_nil)
    (pss_cons (ps_if (pt_not (pt_val (pe_g C_law_refused (by exact hr.mono (by decide)) (E := fun _ => E0) (fun σ => passC0 σ) (fun _ _ _ _ _ _ us hl => match us, hl with | [_, _, _, _, _, _], _ => rfl) (pa_cons (pv 2) (pa_cons (pv 7) (pa_cons pe_int (pa_cons (pv 4) (pa_cons (pe_ix (ixSeqK (K := K) (by rfl)) (pv 3) pe_int (fun _ _ => rfl)) (pa_cons pe_str pa_nil)))))))))
      (pss_one (ps_ret pe_bl))
      pss_nil)
    (pss_cons (ps_if (pt_not (pt_val (pe_g C_law_refused (by exact hr.mono (by decide)) (E := fun _ => E0) (fun σ => passC0 σ) (fun _ _ _ _ _ _ us hl => match us, hl with | [_, _, _, _, _, _], _ => rfl) (pa_cons (pv 2) (pa_cons (pv 5) (pa_cons (pv 8) (pa_cons (pv 4) (pa_cons (pv 9) (pa_cons pe_str pa_nil)))))))))
      (pss_one (ps_ret pe_bl))
      pss_nil)
    (pss_cons (ps_if (pt_not (pt_val (pe_g C_law_refused (by exact hr.mono (by decide)) (E := fun _ => E0) (fun σ => passC0 σ) (fun _ _ _ _ _ _ us hl => match us, hl with | [_, _, _, _, _, _], _ => rfl) (pa_cons (pv 2) (pa_cons (pv 5) (pa_cons (pv 8) (pa_cons (pv 4) (pa_cons (pe_ix (ixSeqK (K := K) (by rfl)) (pv 3) pe_int (fun _ _ => rfl)) (pa_cons pe_str pa_nil)))))))))
      (pss_one (ps_ret pe_bl))
      pss_nil)
    (pss_cons (ps_if (pt_not (pt_val (pe_g C_law_refused (by exact hr.mono (by decide)) (E := fun _ => E0) (fun σ => passC0 σ) (fun _ _ _ _ _ _ us hl => match us, hl with | [_, _, _, _, _, _], _ => rfl) (pa_cons (pv 2) (pa_cons (pv 10) (pa_cons (pv 11) (pa_cons (pv 4) (pa_cons (pv 9) (pa_cons pe_str pa_nil)))))))))
      (pss_one (ps_ret pe_bl))
      pss_nil)
    (pss_cons (ps_if (pt_not (pt_val (pe_g C_law_refused (by exact hr.mono (by decide)) (E := fun _ => E0) (fun σ => passC0 σ) (fun _ _ _ _ _ _ us hl => match us, hl with | [_, _, _, _, _, _], _ => rfl) (pa_cons (pv 2) (pa_cons (pv 10) (pa_cons (pv 11) (pa_cons (pv 4) (pa_cons (pe_ix (ixSeqK (K := K) (by rfl)) (pv 3) pe_int (fun _ _ => rfl)) (pa_cons pe_str pa_nil)))))))))
      (pss_one (ps_ret pe_bl))
      pss_nil)
    (pss_one (ps_ret (pe_g C_law_refused (by exact hr.mono (by decide)) (E := fun _ => E0) (fun σ => passC0 σ) (fun _ _ _ _ _ _ us hl => match us, hl with | [_, _, _, _, _, _], _ => rfl) (pa_cons (pv 2) (pa_cons (pv 5) (pa_cons (pv 6) (pa_cons (pv 4) (pa_cons (pv 9) (pa_cons pe_str pa_nil)))))))))))))))))))))))), ?_⟩
    try dsimp only [L2.cxOf, L2.Cx.nox]
    simp only [L2.start, N_law_refusals, List.map_cons, List.map_nil, List.length_cons, List.length_nil, Nat.reduceAdd, Nat.reduceSub, List.replicate_succ, List.replicate_zero, List.cons_append, List.nil_append]

    have hqa : At H q _ := ⟨hq.ex.1⟩
    have bq := hq.ex.2
    have hw := bq.1
    have hl := hw.1
    have htl := Gx.tx_len l
    walk_at "go"
    refine Gx.g_addS (by rw [htl, show ("2" : Str).length = 1 from by decide +kernel]; omega) ?_
    walk_at "go"
    refine Gx.g_addS (by rw [htl, show (" " : Str).length = 1 from by decide +kernel]; omega) ?_
    walk_at "go"
    refine Gx.g_addS (by rw [htl, show ("-" : Str).length = 1 from by decide +kernel]; omega) ?_
    walk_at "go"
    refine ⟨_, _, _, _, rfl, ⟨by infer_instance, by infer_instance, by simp, by simp⟩, ?_⟩
    intro d G g0 g1 ed hBd
    walk_at "go"
    refine g_ixAll g0 g1 fun v hv => ?_
    have hv : v ∈ ([tx [false], tx [false, true], "1 ", " 1", "12", "a", "1\n", tx ([false] ++ l), tx l ++ "2", tx l ++ " ", "-" ++ tx l, "1 1", "1a1", "102011"] : List Str).map V.str := hv
    obtain ⟨z, hz, rfl⟩ := List.mem_map.mp hv
    obtain ⟨hz1, hz2⟩ := odd_all l (by omega) z hz
    walk_at "go"
    refine ix_lit (fun x => 3 ≤ x ∧ x ≤ 10 ^ 30) (by omega) (by simp; omega) (by simp) fun tp htp => ?_
    walk_at "go"
    refine ix_lit (fun x => 3 ≤ x ∧ x ≤ 10 ^ 30) (by omega) (by simp; omega) (by simp) fun tq htq => ?_
    walk_at "go"
    rename_i dn Gn d0 d1 en hBn pr Gr nr er hpr dk Gk k0 k1 ek hBk dm Gm d2 d3 em hBm
    refine ite_join (fun σ' H' => ∃ L : List Bool, σ' = [some (.ref s), some (.ref b), some (.ref x), some (.ref q), some (.ref a), some (.str (tx l)), some (.int (p : Nat)), some (.str z), some (.int (0 - dn)), some (.int (-1 - dm)), some (.str (tx L)), none] ∧ H' = Gm ∧ Wd L ∧ 2 ≤ L.length ∧ L.length ≤ 64) (fun N hk => ?_) ?_
    · refine Gx.g_ite (fun hI => ?_) (fun hI => ?_)
      · walk_at "go"
        exact hk _ _ ⟨l, rfl, rfl, hw, by omega, by omega⟩
      · walk_at "go"
        exact hk _ _ ⟨[true, true], by rw [show tx [true, true] = ("11" : Str) from by decide +kernel], rfl, ⟨by decide, by decide⟩, by decide, by decide⟩
    rintro σ' H' ⟨L, rfl, rfl, L0, L1, L2⟩
    have hw2 := hw.2
    have L02 := L0.2
    walk_at "go"
    exact k _ Gx.rel inferInstance

local macro_rules | `(tactic| walk_at "call") => `(tactic| first
  | ((with_reducible show spRin _ _ _ _ _); refine ⟨_, _, rfl, by infer_instance, ?_⟩; intro q_ r_ H_ e_ hq_ hI_)
  | ((with_reducible show spRlb _ _ _ _ _); refine ⟨_, _, _, rfl, ⟨by infer_instance, by infer_instance⟩, ?_⟩)
  | ((with_reducible show spTin _ _ _ _ _); refine ⟨_, _, _, rfl, ⟨by infer_instance, by omega⟩, ?_⟩; intro H_ e_ hI_)
  | ((with_reducible show spRfs _ _ _ _ _ _ _ _ _ _ _); refine ⟨_, _, _, _, _, _, _, _, _, rfl, ⟨by infer_instance, by infer_instance, by infer_instance, by infer_instance, by infer_instance, by first | exact ⟨.inl inferInstance⟩ | exact ⟨.inr (.inl inferInstance)⟩ | exact ⟨.inr (.inr (.inl ⟨_, inferInstance⟩))⟩ | exact ⟨.inr (.inr (.inr (.inl ⟨_, inferInstance⟩)))⟩ | exact ⟨.inr (.inr (.inr (.inr ⟨_, inferInstance⟩)))⟩⟩, ?_⟩; intro H_ e_ hB_))
def spAll (C : Addr) (K : PySem.W.Frag) : Sp := fun vs H Q _ => ∃ (s b mk st pp a q1 q2 : Addr) (m0 m1 m2 : Int) (l1 l2 : List Bool) (p1 p2 : Nat) (φ1 φ2 : Int) (bs zs : List Int), vs = [.ref s, .ref b, .ref mk, .ref st, .ref pp, .ref a] ∧
  (ScN K H s b (zs.map V.int) ∧ Bk b H ∧ NeC mk b ∧ NeC st b ∧ NeC q1 b ∧ NeC q2 b ∧ NeC pp b ∧ At H mk (.lst [.int m0, .int m1, .int m2]) ∧ At H st (.lst [.ref q1, .ref q2]) ∧ StC q1 H l1 (p1 : Nat) φ1 ∧ StC q2 H l2 (p2 : Nat) φ2 ∧ At H pp (.lst (bs.map V.int)) ∧ RdC C H a bs ∧ RB bs ∧ 0 ≤ m0 ∧ m0 < 2 ^ 100 ∧ 0 ≤ m1 ∧ m1 < 2 ^ 100 ∧ 0 ≤ m2 ∧ m2 < 2 ^ 100) ∧
  ∀ H', ExB b H H' → Bk b H' → Q (.bl true) H'
abbrev s_law_all_refuse : Stmt := (top 71)
abbrev N_law_all_refuse : List Str := ["_law_script", "_law_box_here", "_law_marks_here", "_law_stands", "_law_pays_here", "_law_made", "_law_greedy", "_law_ruled", "_law_lazy", "_law_keeper"]
theorem sc_law_all_refuse : FnScope N_law_all_refuse ["_law_script", "_law_box_here", "_law_marks_here", "_law_stands", "_law_pays_here", "_law_made"] (defScope s_law_all_refuse) := ⟨rfl, rfl, rfl, by decide +kernel, rfl, by decide +kernel, by decide +kernel⟩
theorem cl_law_all_refuse (T : Bl mg) (Z : EcF P K mg c_StoreError c_InvalidInput c_NoPlace) (R : RdF K mg c_Round) (W_Keeper : Gx.ClsF K mg c_Keeper "Keeper" []) (M_Keeper : Gx.MkZ K c_Keeper) (I_Keeper_Keeper : PySem.W.kitOne K (.ref c_Keeper) (.ref c_Keeper) = some true) (W_Greedy : Gx.ClsF K mg c_Greedy "Greedy" []) (M_Greedy : Gx.MkZ K c_Greedy) (I_Greedy_Keeper : PySem.W.kitOne K (.ref c_Greedy) (.ref c_Keeper) = some true) (W_Lazy : Gx.ClsF K mg c_Lazy "Lazy" ["_mark"]) (I_Lazy_Keeper : PySem.W.kitOne K (.ref c_Lazy) (.ref c_Keeper) = some true) (W_Thrifty : Gx.ClsF K mg c_Thrifty "Thrifty" ["_limit"]) (I_Thrifty_Keeper : PySem.W.kitOne K (.ref c_Thrifty) (.ref c_Keeper) = some true) (W_RuleKeeper : Gx.ClsF K mg c_RuleKeeper "RuleKeeper" ["_rules"]) (I_RuleKeeper_Keeper : PySem.W.kitOne K (.ref c_RuleKeeper) (.ref c_Keeper) = some true) (D : DfG K mg "_law_all_refuse" s_law_all_refuse [] []) (C_law_looks : ClG CX0 P w K mg base 11 "_law_looks" s_law_looks ["_law_keeper", "_law_plan", "_law_stands", "_law_pays_here", "_law_made"] [] [] (spLks c_Round c_Keeper c_Greedy c_Lazy)) (C_Thrifty___init__ : Gx.ClC CX0 P w K mg base 5 c_Thrifty "Thrifty.__init__" s_Thrifty___init__ ["self", "limit"] [] [] (spTin c_Thrifty)) (C_law_refusals : ClG CX0 P w K mg base 11 "_law_refusals" s_law_refusals ["_law_script", "_law_box_here", "_law_keeper", "_law_stand_here", "_law_made"] [] [] (spRfs c_Keeper c_Greedy c_Lazy c_Thrifty c_RuleKeeper c_Round K)) (C_RuleKeeper_label : ClM CX0 P w K mg base 3 c_RuleKeeper "label" "RuleKeeper.label" s_RuleKeeper_label ["self"] [] [] (spRlb c_RuleKeeper)) (C_Lazy___init__ : Gx.ClC CX0 P w K mg base 5 c_Lazy "Lazy.__init__" s_Lazy___init__ ["self", "mark"] [] [] (spLin c_Lazy)) (C_RuleKeeper___init__ : Gx.ClC CX0 P w K mg base 9 c_RuleKeeper "RuleKeeper.__init__" s_RuleKeeper___init__ ["self", "text"] [] [] (spRin c_RuleKeeper)) : ClG CX0 P w K mg base 13 "_law_all_refuse" s_law_all_refuse ["_law_script", "_law_box_here", "_law_marks_here", "_law_stands", "_law_pays_here", "_law_made"] [] [] (spAll c_Round K) := by
  have nd := sc_law_all_refuse.nd
  refine D.okP sc_law_all_refuse (fun vs H Q E h => ?_) (fun f cdv A outer s H vs Q E hr h => ?_)
  · obtain ⟨s, b, mk, st, pp, a, q1, q2, m0, m1, m2, l1, l2, p1, p2, φ1, φ2, bs, zs, rfl, _⟩ := h
    rfl
  · obtain ⟨s, b, mk, st, pp, a, q1, q2, m0, m1, m2, l1, l2, p1, p2, φ1, φ2, bs, zs, rfl, ⟨hs, hb, n1, n2, n3, n4, n5, hmk, hst, hq1, hq2, hpp, ha, hB, u0, u1, v0, v1, w0, w1⟩, k⟩ := h
    have hu := hu64 hr
    refine ⟨_, (pss_cons (ps_set (i := 6) nd rfl (Or.inl rfl) (pe_mkZ M_Greedy (by rfl) W_Greedy.g))
    (pss_cons (ps_set (i := 7) nd rfl (Or.inl rfl) (pe_mk C_RuleKeeper___init__ (by exact hr.mono (by decide)) (by rfl) W_RuleKeeper.g pass0 (fun _ _ _ _ _ _ us hl => match us, hl with | [_, _], _ => rfl) (pa_cons pe_str pa_nil)))
    (pss_cons (ps_set (i := 8) nd rfl (Or.inl rfl) (pe_mk C_Lazy___init__ (by exact hr.mono (by decide)) (by rfl) W_Lazy.g pass0 (fun _ _ _ _ _ _ us hl => match us, hl with | [_, _], _ => rfl) (pa_cons (pe_ix (ixSeqK (K := K) (by rfl)) (pv 2) pe_int (fun _ _ => rfl)) pa_nil)))
    (pss_cons (ps_if (pt_cmpR (opNeK (K := K) (by rfl) (by exact hu)) (pe_m0 C_RuleKeeper_label W_RuleKeeper.c (by exact hr.mono (by decide)) pass0 (fun _ _ _ _ _ _ us hl => match us, hl with | [_], _ => rfl) (pv 7)) pe_str (nomark _))
      (pss_one (ps_ret pe_bl))
      pss_nil)
    (pss_cons (ps_for PassesOwn.never rfl (pi_listK (K := K) (by rfl) (pe_lst (pa_cons (pe_mkZ M_Keeper (by rfl) W_Keeper.g) (pa_cons (pv 6) (pa_cons (pv 8) (pa_cons (pe_mk C_Thrifty___init__ (by exact hr.mono (by decide)) (by rfl) W_Thrifty.g pass0 (fun _ _ _ _ _ _ us hl => match us, hl with | [_, _], _ => rfl) (pa_cons pe_int pa_nil)) (pa_cons (pv 7) pa_nil))))))) (pg_name (i := 9) nd rfl (Or.inl rfl))
      (pss_one (ps_if (PW.pt (pw_or (pt_not (pt_val (pe_callB (callIsiK (K := K) (by rfl)) (by rfl) T.isinstance (by decide +kernel) (pa_cons (pv 9) (pa_cons (pe_glob (v := .ref c_Keeper) (u := .ref c_Keeper) (by rfl) W_Keeper.g rfl) pa_nil))))) (pw_or1 (pt_not (pt_val (pe_g C_law_refusals (by exact hr.mono (by decide)) (E := fun _ => E0) (fun σ => passC0 σ) (fun _ _ _ _ _ _ us hl => match us, hl with | [_, _, _, _, _], _ => rfl) (pa_cons (pv 0) (pa_cons (pv 1) (pa_cons (pv 9) (pa_cons (pe_ix (ixSeqK (K := K) (by rfl)) (pv 3) pe_int (fun _ _ => rfl)) (pa_cons (pv 5) pa_nil)))))))))))
      (pss_one (ps_ret pe_bl))
      pss_nil)))
    (pss_cons (ps_if (pt_not (pt_val (pe_g C_law_looks (by exact hr.mono (by decide)) (E := fun _ => E0) (fun σ => passC0 σ) (fun _ _ _ _ _ _ us hl => match us, hl with | [_, _, _, _, _], _ => rfl) (pa_cons (pv 6) (pa_cons (pe_lst (pa_cons pe_str (pa_cons pe_int pa_nil))) (pa_cons (pv 3) (pa_cons (pv 4) (pa_cons (pv 5) pa_nil))))))))
      (pss_one (ps_ret pe_bl))
      pss_nil)
    (pss_one (ps_ret (pe_g C_law_looks (by exact hr.mono (by decide)) (E := fun _ => E0) (fun σ => passC0 σ) (fun _ _ _ _ _ _ us hl => match us, hl with | [_, _, _, _, _], _ => rfl) (pa_cons (pv 8) (pa_cons (pe_lst (pa_cons pe_str (pa_cons (pe_ix (ixSeqK (K := K) (by rfl)) (pv 2) pe_int (fun _ _ => rfl)) pa_nil))) (pa_cons (pv 3) (pa_cons (pv 4) (pa_cons (pv 5) pa_nil)))))))))))))), ?_⟩
    try dsimp only [L2.cxOf, L2.Cx.nox]
    simp only [L2.start, N_law_all_refuse, List.map_cons, List.map_nil, List.length_cons, List.length_nil, Nat.reduceAdd, Nat.reduceSub, List.replicate_succ, List.replicate_zero, List.cons_append, List.nil_append]

    walk_at "go"
    rename_i xg dg G1 ng eg hg xr dr G2 nr er hr2 qr rr G3 er3 hqr hIr xl dl G4 nl el hl G5 el5 hIl xk dk G6 nk ek hk xt dt G7 nt et ht G8 et8 hIt pl_ G9 np ep hp
    have hs1 : ScN K G1 s b (zs.map V.int) := inferInstance
    have hx2 : ScN K G2 s xr (zs.map V.int) := scn_of hs1.sqc nr er
    have hs3 : ScN K G3 s b (zs.map V.int) := inferInstance
    have hx4 : ScN K G4 s xl (zs.map V.int) := scn_of hs3.sqc nl el
    have hs5 : ScN K G5 s b (zs.map V.int) := inferInstance
    have hs6 : ScN K G6 s b (zs.map V.int) := inferInstance
    have hx7 : ScN K G7 s xt (zs.map V.int) := scn_of hs6.sqc nt et
    refine Gx.forL [b] (fun i σ' H' => Bk b H' ∧ ScN K H' s b (zs.map V.int) ∧ ∃ s9 : Option V, σ' = [some (.ref s), some (.ref b), some (.ref mk), some (.ref st), some (.ref pp), some (.ref a), some (.ref xg), some (.ref xr), some (.ref xl), s9]) ⟨by infer_instance, by infer_instance, _, rfl⟩ ?_ ?_
    · rintro i v σ' H' hv e ⟨hB', hS', s9, rfl⟩
      have hv := List.mem_of_getElem? hv
      simp only [List.mem_cons, List.mem_nil_iff, or_false] at hv
      rcases hv with rfl | rfl | rfl | rfl | rfl
      · walk_at "go"
        refine Gx.g_isC W_Keeper I_Keeper_Keeper ?_
        walk_at "go"
        exact Gx.li ⟨by infer_instance, by infer_instance, _, rfl⟩
      · walk_at "go"
        refine Gx.g_isC W_Greedy I_Greedy_Keeper ?_
        walk_at "go"
        exact Gx.li ⟨by infer_instance, by infer_instance, _, rfl⟩
      · walk_at "go"
        refine Gx.g_isC W_Lazy I_Lazy_Keeper ?_
        walk_at "go"
        exact Gx.li ⟨by infer_instance, by infer_instance, _, rfl⟩
      · walk_at "go"
        refine Gx.g_isC W_Thrifty I_Thrifty_Keeper ?_
        walk_at "go"
        exact Gx.li ⟨by infer_instance, by infer_instance, _, rfl⟩
      · walk_at "go"
        refine Gx.g_isC W_RuleKeeper I_RuleKeeper_Keeper ?_
        walk_at "go"
        exact Gx.li ⟨by infer_instance, by infer_instance, _, rfl⟩
    · rintro σ' H' e ⟨hB', hS', s9, rfl⟩
      walk_at "go"
      exact k _ Gx.rel inferInstance

local macro_rules | `(tactic| walk_at "call") => `(tactic| first
  | ((with_reducible show spBx5 _ _ _ _ _); refine ⟨_, _, _, rfl, ⟨by infer_instance, by omega, by omega, by omega⟩, ?_⟩; intro b_ H_ nb_ e_ hB_)
  | ((with_reducible show spPay _ _ _ _ _); refine ⟨_, _, _, rfl, ⟨by infer_instance, by infer_instance⟩, ?_⟩; intro p_ bs_ H_ np_ e_ hB_ hp_ hR_ hx_)
  | ((with_reducible show spLRd _ _ _ _ _ _); refine ⟨_, _, rfl, ⟨by infer_instance, by assumption⟩, ?_⟩; intro a_ H_ np_ e_ ha_)
  | ((with_reducible show spStd _ _ _ _ _); refine ⟨_, _, _, rfl, ⟨by infer_instance, by infer_instance⟩, ?_⟩; intro q_ l_ p_ f_ H_ nq_ e_ hB_ hq_ hw_)
  | ((with_reducible show spMks _ _ _ _ _); refine ⟨_, _, _, _, _, _, _, _, _, _, _, _, rfl, ⟨by infer_instance, by infer_instance, by infer_instance, stb_of, stb_of, by infer_instance, by infer_instance, by infer_instance⟩, ?_⟩; intro mp_ m0_ m1_ m2_ H_ nm_ e_ hm_ hv_)
  | ((with_reducible show spFam _ _ _ _ _); refine ⟨_, _, _, _, _, _, _, _, _, _, _, _, _, _, _, _, rfl, ⟨by infer_instance, by infer_instance, by infer_instance, by infer_instance, by infer_instance, by infer_instance, by assumption, by omega, by omega, by omega, by omega, by omega, by omega⟩, ?_⟩; intro H_ e_)
  | ((with_reducible show spBadN _ _ _ _ _ _); refine ⟨_, _, _, _, _, _, _, _, _, _, _, _, _, _, _, _, _, _, _, rfl, ⟨inferInstance, inferInstance, inferInstance, inferInstance, inferInstance, inferInstance, inferInstance, inferInstance, inferInstance, inferInstance, inferInstance, inferInstance, inferInstance, by assumption, by omega, by omega, by omega, by omega, by omega, by omega⟩, ?_⟩; intro H_ e_ hB_)
  | ((with_reducible show spAll _ _ _ _ _ _); refine ⟨_, _, _, _, _, _, _, _, _, _, _, _, _, _, _, _, _, _, _, rfl, ⟨inferInstance, inferInstance, inferInstance, inferInstance, inferInstance, inferInstance, inferInstance, inferInstance, inferInstance, inferInstance, inferInstance, inferInstance, inferInstance, by assumption, by omega, by omega, by omega, by omega, by omega, by omega⟩, ?_⟩; intro H_ e_ hB_)
  | ((with_reducible show spThf _ _ _ _ _ _); refine ⟨_, _, _, _, _, _, _, _, _, _, rfl, ⟨by infer_instance, by infer_instance, by infer_instance, by infer_instance, by infer_instance, by infer_instance, by infer_instance, by assumption⟩, ?_⟩; intro H_ e_ hB_))
def spLaw (K : PySem.W.Frag) : Sp := fun vs H Q _ => ∃ (a : Addr) (ns : List Int), vs = [.ref a] ∧ SqL K H a (ns.map V.int) ∧ ns.length ≤ 63 ∧ (∀ z ∈ ns, Builtin.Int.intBits z ≤ 1048576) ∧ ∀ H', Q (.bl true) H'
abbrev s_law : Stmt := (top 72)
abbrev N_law : List Str := ["_law_script", "_law_box_here", "_law_pays_here", "_law_made", "_law_stands", "_law_marks_here", "_law_stand_here"]
theorem sc_law : FnScope N_law ["_law_script"] (defScope s_law) := ⟨rfl, rfl, rfl, by decide +kernel, rfl, by decide +kernel, by decide +kernel⟩
theorem ok_law {f : Addr} {fd : FuncData} (T : Bl mg) (Z : EcF P K mg c_StoreError c_InvalidInput c_NoPlace) (R : RdF K mg c_Round) (W_Keeper : Gx.ClsF K mg c_Keeper "Keeper" []) (M_Keeper : Gx.MkZ K c_Keeper) (I_Keeper_Keeper : PySem.W.kitOne K (.ref c_Keeper) (.ref c_Keeper) = some true) (W_Greedy : Gx.ClsF K mg c_Greedy "Greedy" []) (M_Greedy : Gx.MkZ K c_Greedy) (I_Greedy_Keeper : PySem.W.kitOne K (.ref c_Greedy) (.ref c_Keeper) = some true) (W_Lazy : Gx.ClsF K mg c_Lazy "Lazy" ["_mark"]) (I_Lazy_Keeper : PySem.W.kitOne K (.ref c_Lazy) (.ref c_Keeper) = some true) (W_Thrifty : Gx.ClsF K mg c_Thrifty "Thrifty" ["_limit"]) (I_Thrifty_Keeper : PySem.W.kitOne K (.ref c_Thrifty) (.ref c_Keeper) = some true) (W_RuleKeeper : Gx.ClsF K mg c_RuleKeeper "RuleKeeper" ["_rules"]) (I_RuleKeeper_Keeper : PySem.W.kitOne K (.ref c_RuleKeeper) (.ref c_Keeper) = some true) (F : FunD K "law" "law" (defArgs s_law) (defBody s_law) (defScope s_law) [] [] f fd) (C_Round_budgets : ClP CX0 P w K mg base 3 c_Round "budgets" "Round.budgets" s_Round_budgets (spBud c_Round)) (C_law_all_refuse : ClG CX0 P w K mg base 13 "_law_all_refuse" s_law_all_refuse ["_law_script", "_law_box_here", "_law_marks_here", "_law_stands", "_law_pays_here", "_law_made"] [] [] (spAll c_Round K)) (C_law_box : ClG CX0 P w K mg base 3 "_law_box" s_law_box ["_law_script", "_law_at"] [] [] (spBx5 K)) (C_law_thrifty : ClG CX0 P w K mg base 21 "_law_thrifty" s_law_thrifty ["_law_script", "_law_box_here", "_law_stand_here", "_law_pays_here", "_law_made"] [] [] (spThf c_Round K)) (C_law_bad_numbers : ClG CX0 P w K mg base 13 "_law_bad_numbers" s_law_bad_numbers ["_law_script", "_law_box_here", "_law_marks_here", "_law_stands", "_law_pays_here", "_law_made"] [] [] (spBadN c_Round K)) (C_law_family : ClG CX0 P w K mg base 13 "_law_family" s_law_family ["_law_marks_here", "_law_stands", "_law_pays_here", "_law_made"] [] [] (spFam c_Round)) (C_law_marks : ClG CX0 P w K mg base 5 "_law_marks" s_law_marks ["_law_script", "_law_box_here", "_law_stands"] [] [] (spMks K)) (C_law_stand : ClG CX0 P w K mg base 7 "_law_stand" s_law_stand ["_law_script", "_law_box_here"] [] [] (spStd K)) (C_law_round : ClG CX0 P w K mg base 9 "_law_round" s_law_round ["_law_pays_here"] [] [] (spLRd c_Round K)) (C_law_pays : ClG CX0 P w K mg base 5 "_law_pays" s_law_pays ["_law_script", "_law_box_here"] [] [] (spPay K)) : FnOk P w K mg base CX0 23 f fd ["_law_script"] (spLaw K) := by
  have nd := sc_law.nd
  refine F.ok sc_law (fun vs H Q E h => ?_) (fun cdv A outer s H vs Q E hr h => ?_)
  · obtain ⟨s, ns, rfl, _⟩ := h
    rfl
  · obtain ⟨s, ns, rfl, hs, hl, hbits, k⟩ := h
    have hu := hu64 hr
    refine Gx.ex_nox ⟨_, (pss_cons (ps_set (i := 1) nd rfl (Or.inl rfl) (pe_g C_law_box (by exact hr.mono (by decide)) (E := fun _ => E0) (fun σ => passC0 σ) (fun _ _ _ _ _ _ us hl => match us, hl with | [_, _], _ => rfl) (pa_cons (pv 0) (pa_cons pe_int pa_nil))))
    (pss_cons (ps_set (i := 2) nd rfl (Or.inl rfl) (pe_g C_law_pays (by exact hr.mono (by decide)) (E := fun _ => E0) (fun σ => passC0 σ) (fun _ _ _ _ _ _ us hl => match us, hl with | [_, _], _ => rfl) (pa_cons (pv 0) (pa_cons (pe_g C_law_box (by exact hr.mono (by decide)) (E := fun _ => E0) (fun σ => passC0 σ) (fun _ _ _ _ _ _ us hl => match us, hl with | [_, _], _ => rfl) (pa_cons (pv 0) (pa_cons pe_int pa_nil))) pa_nil))))
    (pss_cons (ps_set (i := 3) nd rfl (Or.inl rfl) (pe_g C_law_round (by exact hr.mono (by decide)) (E := fun _ => E0) (fun σ => passC0 σ) (fun _ _ _ _ _ _ us hl => match us, hl with | [_], _ => rfl) (pa_cons (pv 2) pa_nil)))
    (pss_cons (ps_set (i := 4) nd rfl (Or.inl rfl) (pe_lst (pa_cons (pe_g C_law_stand (by exact hr.mono (by decide)) (E := fun _ => E0) (fun σ => passC0 σ) (fun _ _ _ _ _ _ us hl => match us, hl with | [_, _], _ => rfl) (pa_cons (pv 0) (pa_cons (pv 1) pa_nil))) pa_nil)))
    (pss_cons (ps_expr (pe_bmK (K := K) (by rfl) PySem.F.plainAttrs_list PySem.F.slot_list_append PySem.F.type_list_append mt_append (pv 4) (pa_cons (pe_g C_law_stand (by exact hr.mono (by decide)) (E := fun _ => E0) (fun σ => passC0 σ) (fun _ _ _ _ _ _ us hl => match us, hl with | [_, _], _ => rfl) (pa_cons (pv 0) (pa_cons (pv 1) pa_nil))) pa_nil)))
    (pss_cons (ps_set (i := 5) nd rfl (Or.inl rfl) (pe_g C_law_marks (by exact hr.mono (by decide)) (E := fun _ => E0) (fun σ => passC0 σ) (fun _ _ _ _ _ _ us hl => match us, hl with | [_, _, _], _ => rfl) (pa_cons (pv 0) (pa_cons (pe_g C_law_box (by exact hr.mono (by decide)) (E := fun _ => E0) (fun σ => passC0 σ) (fun _ _ _ _ _ _ us hl => match us, hl with | [_, _], _ => rfl) (pa_cons (pv 0) (pa_cons pe_int pa_nil))) (pa_cons (pv 4) pa_nil)))))
    (pss_cons (ps_if (pt_not (pt_val (pe_g C_law_family (by exact hr.mono (by decide)) (E := fun _ => E0) (fun σ => passC0 σ) (fun _ _ _ _ _ _ us hl => match us, hl with | [_, _, _, _], _ => rfl) (pa_cons (pv 5) (pa_cons (pv 4) (pa_cons (pv 2) (pa_cons (pv 3) pa_nil)))))))
      (pss_one (ps_ret pe_bl))
      pss_nil)
    (pss_cons (ps_set (i := 1) nd rfl (Or.inl rfl) (pe_g C_law_box (by exact hr.mono (by decide)) (E := fun _ => E0) (fun σ => passC0 σ) (fun _ _ _ _ _ _ us hl => match us, hl with | [_, _], _ => rfl) (pa_cons (pv 0) (pa_cons pe_int pa_nil))))
    (pss_cons (ps_if (pt_not (pt_val (pe_g C_law_bad_numbers (by exact hr.mono (by decide)) (E := fun _ => E0) (fun σ => passC0 σ) (fun _ _ _ _ _ _ us hl => match us, hl with | [_, _, _, _, _, _], _ => rfl) (pa_cons (pv 0) (pa_cons (pv 1) (pa_cons (pv 5) (pa_cons (pv 4) (pa_cons (pv 2) (pa_cons (pv 3) pa_nil)))))))))
      (pss_one (ps_ret pe_bl))
      pss_nil)
    (pss_cons (ps_for PassesOwn.never rfl (pi_listK (K := K) (by rfl) (pv 4)) (pg_name (i := 6) nd rfl (Or.inl rfl))
      (pss_one (ps_if (pt_not (pt_val (pe_g C_law_thrifty (by exact hr.mono (by decide)) (E := fun _ => E0) (fun σ => passC0 σ) (fun _ _ _ _ _ _ us hl => match us, hl with | [_, _, _, _, _], _ => rfl) (pa_cons (pv 0) (pa_cons (pv 1) (pa_cons (pv 6) (pa_cons (pv 2) (pa_cons (pv 3) pa_nil))))))))
      (pss_one (ps_ret pe_bl))
      pss_nil)))
    (pss_cons (ps_set (i := 1) nd rfl (Or.inl rfl) (pe_g C_law_box (by exact hr.mono (by decide)) (E := fun _ => E0) (fun σ => passC0 σ) (fun _ _ _ _ _ _ us hl => match us, hl with | [_, _], _ => rfl) (pa_cons (pv 0) (pa_cons pe_int pa_nil))))
    (pss_one (ps_ret (pe_and (pe_g C_law_all_refuse (by exact hr.mono (by decide)) (E := fun _ => E0) (fun σ => passC0 σ) (fun _ _ _ _ _ _ us hl => match us, hl with | [_, _, _, _, _, _], _ => rfl) (pa_cons (pv 0) (pa_cons (pv 1) (pa_cons (pv 5) (pa_cons (pv 4) (pa_cons (pv 2) (pa_cons (pv 3) pa_nil))))))) (pe_one (pe_cmpR (opEqK (K := K) (by rfl) (by exact hu)) (pe_p C_Round_budgets R.c (by exact hr.mono (by decide)) pass0 (fun _ _ _ _ _ _ us hl => match us, hl with | [_], _ => rfl) (pv 3)) (pv 2) (nomark _))))))))))))))))), ?_⟩
    try dsimp only [L2.cxOf, L2.Cx.nox]
    simp only [L2.start, N_law, List.map_cons, List.map_nil, List.length_cons, List.length_nil, Nat.reduceAdd, Nat.reduceSub, List.replicate_succ, List.replicate_zero, List.cons_append, List.nil_append]

    have hs : SqC K H s (ns.map V.int) := ⟨hs⟩
    walk_at "go"
    rename_i b1 H1 nb1 e1 hB1 b2 H2 nb2 e2 hB2
    have hsb1 : ScN K H1 s b1 (ns.map V.int) := scn_of hs nb1 e1
    have hsb2 : ScN K H2 s b2 (ns.map V.int) := scn_of hsb1.sqc nb2 e2
    walk_at "go"
    rename_i pp bs H3 np3 e3 hB3 hp3 hR hx a H4 na e4 ha q1 l1 P1 f1 H5 nq1 e5 hB5 hq1 hw1 st H6 nst e6 hst q2 l2 P2 f2 H7 nq2 e7 hB7 hq2 hw2 H8 e8 hst8
    obtain ⟨p1, rfl⟩ : ∃ n : Nat, P1 = (n : Int) := ⟨P1.toNat, by omega⟩
    obtain ⟨p2, rfl⟩ : ∃ n : Nat, P2 = (n : Int) := ⟨P2.toNat, by omega⟩
    have hQ1 : StC q1 H5 l1 (p1 : Nat) f1 := ⟨⟨hq1.eq, hw1⟩⟩
    have hQ2 : StC q2 H7 l2 (p2 : Nat) f2 := ⟨⟨hq2.eq, hw2⟩⟩
    have hsb5 : ScN K H5 s b1 (ns.map V.int) := inferInstance
    have hst6 : ScN K H6 s st (ns.map V.int) := scn_of hsb5.sqc nst e6
    have hsb8 : ScN K H8 s b1 (ns.map V.int) := inferInstance
    have hs8 := hsb8.sqc
    have hst8 : At H8 st (.lst [.ref q1, .ref q2]) := hst8
    walk_at "go"
    rename_i b3 H9 nb3 e9 hB9
    have hsb9 : ScN K H9 s b3 (ns.map V.int) := scn_of hs8 nb3 e9
    walk_at "go"
    rename_i mk m0 m1 m2 H10 nm e10 hm hv H11 e11
    have hsb10 : ScN K H10 s b3 (ns.map V.int) := inferInstance
    have hs11 : ScN K H11 s b3 (ns.map V.int) := inferInstance
    have hs11' := hs11.sqc
    walk_at "go"
    rename_i b4 H12 nb4 e12 hB12
    have hsb12 : ScN K H12 s b4 (ns.map V.int) := scn_of hs11' nb4 e12
    walk_at "go"
    rename_i H13 e13 hB13
    refine Gx.forL [b4] (fun i σ' H' => Bk b4 H' ∧ ScN K H' s b4 (ns.map V.int) ∧ ∃ s6 : Option V, σ' = [some (.ref s), some (.ref b4), some (.ref pp), some (.ref a), some (.ref st), some (.ref mk), s6]) ⟨by infer_instance, by infer_instance, _, rfl⟩ ?_ ?_
    · rintro i v σ' H' hv e ⟨hB', hS', s6, rfl⟩
      have hv := List.mem_of_getElem? hv
      simp only [List.mem_cons, List.mem_nil_iff, or_false] at hv
      rcases hv with rfl | rfl
      · walk_at "go"
        exact Gx.li ⟨by infer_instance, by infer_instance, _, rfl⟩
      · walk_at "go"
        exact Gx.li ⟨by infer_instance, by infer_instance, _, rfl⟩
    · rintro σ' H' e ⟨hB', hS', s6, rfl⟩
      have hs' := hS'.sqc
      walk_at "go"
      rename_i b5 H14 nb5 e14 hB14
      have hsb14 : ScN K H14 s b5 (ns.map V.int) := scn_of hs' nb5 e14
      walk_at "go"
      rw [decide_eq_true rfl]
      exact k _

end
theorem all_mk {l : PySem.W.OpenLaw} {w : World} {K : PySem.W.Frag} {h : Heap} {mg : Str → Option Value} {fa : Addr} {c_StoreError c_InvalidInput c_NoPlace : Addr} {c_Round : Addr} {c_Keeper : Addr} {c_Greedy : Addr} {c_Lazy : Addr} {c_Thrifty : Addr} {c_RuleKeeper : Addr} (X : K.In h) (G : h.Ns mainGlobals mg) (hfa : mg "law" = some (.ref fa)) (T : Bl mg) (Z : EcF l.prog K mg c_StoreError c_InvalidInput c_NoPlace) (R : RdF K mg c_Round) (W_Keeper : Gx.ClsF K mg c_Keeper "Keeper" []) (M_Keeper : Gx.MkZ K c_Keeper) (I_Keeper_Keeper : PySem.W.kitOne K (.ref c_Keeper) (.ref c_Keeper) = some true) (W_Greedy : Gx.ClsF K mg c_Greedy "Greedy" []) (M_Greedy : Gx.MkZ K c_Greedy) (I_Greedy_Keeper : PySem.W.kitOne K (.ref c_Greedy) (.ref c_Keeper) = some true) (W_Lazy : Gx.ClsF K mg c_Lazy "Lazy" ["_mark"]) (I_Lazy_Keeper : PySem.W.kitOne K (.ref c_Lazy) (.ref c_Keeper) = some true) (W_Thrifty : Gx.ClsF K mg c_Thrifty "Thrifty" ["_limit"]) (I_Thrifty_Keeper : PySem.W.kitOne K (.ref c_Thrifty) (.ref c_Keeper) = some true) (W_RuleKeeper : Gx.ClsF K mg c_RuleKeeper "RuleKeeper" ["_rules"]) (I_RuleKeeper_Keeper : PySem.W.kitOne K (.ref c_RuleKeeper) (.ref c_Keeper) = some true) (D_at_least : DfG K mg "at_least" s_at_least [] []) (D_whole_number : DfG K mg "whole_number" s_whole_number [] []) (D_Round___init__ : DfI K c_Round "Round.__init__" s_Round___init__) (D_Round__window : DfM K c_Round "_window" "Round._window" s_Round__window [] []) (D_Round_total : DfM K c_Round "total" "Round.total" s_Round_total [] []) (D_Round__windows : DfM K c_Round "_windows" "Round._windows" s_Round__windows [] []) (D_Round_least : DfM K c_Round "least" "Round.least" s_Round_least [] []) (D_Round_at : DfM K c_Round "at" "Round.at" s_Round_at [] []) (D_Round_budgets : DfP K c_Round "budgets" "Round.budgets" s_Round_budgets) (D_Round___add__ : DfM K c_Round "__add__" "Round.__add__" s_Round___add__ [] []) (D_at_most : DfG K mg "at_most" s_at_most [] []) (D_good_word : DfG K mg "good_word" s_good_word [] []) (D_ones : DfG K mg "_ones" s_ones [] []) (D_depth_list : DfG K mg "_depth_list" s_depth_list [] []) (D_living : DfG K mg "living" s_living [] []) (D_depths : DfG K mg "depths" s_depths [] []) (D_check_standing : DfG K mg "check_standing" s_check_standing [.int 0] []) (D_counted_places : DfG K mg "counted_places" s_counted_places [] []) (D_blocked_now : DfG K mg "blocked_now" s_blocked_now [] []) (D_short_now : DfG K mg "short_now" s_short_now [] []) (D_blocked_at : DfG K mg "blocked_at" s_blocked_at [.int 0] [("late", .bl false)]) (D_Round___len__ : DfM K c_Round "__len__" "Round.__len__" s_Round___len__ [] []) (D_short_at : DfG K mg "short_at" s_short_at [.int 0] [("late", .bl false)]) (D_critical_put : DfG K mg "critical_put" s_critical_put [] []) (D_life : DfG K mg "life" s_life [.int 0] [("late", .bl false)]) (D_safe : DfG K mg "safe" s_safe [.int 0] [("late", .bl false)]) (D_trimmed : DfG K mg "_trimmed" s_trimmed [] []) (D_carried : DfG K mg "_carried" s_carried [] []) (D_appended : DfG K mg "_appended" s_appended [] []) (D_carry : DfG K mg "carry" s_carry [] []) (D_append_record : DfG K mg "append_record" s_append_record [.str "1"] []) (D_at_least_X : DfG K mg "at_least" s_at_least_X [] []) (D_at_most_X : DfG K mg "at_most" s_at_most_X [] []) (D_good_word_X : DfG K mg "good_word" s_good_word_X [] []) (D_check_standing_X : DfG K mg "check_standing" s_check_standing_X [.int 0] []) (D_check_moment : DfG K mg "_check_moment" s_check_moment [] []) (D_most_allowed : DfG K mg "_most_allowed" s_most_allowed [] []) (D_Thrifty___init__ : Gx.DfC K c_Thrifty "Thrifty.__init__" s_Thrifty___init__ [] []) (D_Thrifty__leaves_safe : DfM K c_Thrifty "_leaves_safe" "Thrifty._leaves_safe" s_Thrifty__leaves_safe [] []) (D_Thrifty_choose : DfM K c_Thrifty "choose" "Thrifty.choose" s_Thrifty_choose [] []) (D_Keeper_choose : DfM K c_Keeper "choose" "Keeper.choose" s_Keeper_choose [] []) (D_Greedy_choose : DfM K c_Greedy "choose" "Greedy.choose" s_Greedy_choose [] []) (D_Lazy___init__ : Gx.DfC K c_Lazy "Lazy.__init__" s_Lazy___init__ [] []) (D_Lazy_set_mark : DfM K c_Lazy "set_mark" "Lazy.set_mark" s_Lazy_set_mark [] []) (D_Lazy_mark : DfP K c_Lazy "mark" "Lazy.mark" s_Lazy_mark) (D_Lazy_choose : DfM K c_Lazy "choose" "Lazy.choose" s_Lazy_choose [] []) (D_Keeper_label : DfM K c_Keeper "label" "Keeper.label" s_Keeper_label [] []) (D_Greedy_label : DfM K c_Greedy "label" "Greedy.label" s_Greedy_label [] []) (D_Lazy_label : DfM K c_Lazy "label" "Lazy.label" s_Lazy_label [] []) (D_Thrifty_label : DfM K c_Thrifty "label" "Thrifty.label" s_Thrifty_label [] []) (D_check_moment_X : DfG K mg "_check_moment" s_check_moment_X [] []) (D_Keeper_choose_X : DfM K c_Keeper "choose" "Keeper.choose" s_Keeper_choose_X [] []) (D_Greedy_choose_X : DfM K c_Greedy "choose" "Greedy.choose" s_Greedy_choose_X [] []) (D_Lazy_choose_X : DfM K c_Lazy "choose" "Lazy.choose" s_Lazy_choose_X [] []) (D_Thrifty_choose_X : DfM K c_Thrifty "choose" "Thrifty.choose" s_Thrifty_choose_X [] []) (D_RuleKeeper_choose_X : DfM K c_RuleKeeper "choose" "RuleKeeper.choose" s_RuleKeeper_choose_X [] []) (D_Lazy___init___X : Gx.DfC K c_Lazy "Lazy.__init__" s_Lazy___init___X [] []) (D_Lazy_set_mark_X : DfM K c_Lazy "set_mark" "Lazy.set_mark" s_Lazy_set_mark_X [] []) (D_Thrifty___init___X : Gx.DfC K c_Thrifty "Thrifty.__init__" s_Thrifty___init___X [] []) (D_read_number : DfG K mg "_read_number" s_read_number [] []) (D_read_condition : DfG K mg "_read_condition" s_read_condition [] []) (D_read_line : DfG K mg "_read_line" s_read_line [] []) (D_read_rules : DfG K mg "_read_rules" s_read_rules [] []) (D_RuleKeeper___init__ : Gx.DfC K c_RuleKeeper "RuleKeeper.__init__" s_RuleKeeper___init__ [] []) (D_RuleKeeper_label : DfM K c_RuleKeeper "label" "RuleKeeper.label" s_RuleKeeper_label [] []) (D_law_take : DfG K mg "_law_take" s_law_take [] []) (D_law_box : DfG K mg "_law_box" s_law_box [] []) (D_law_is_count : DfG K mg "_law_is_count" s_law_is_count [] []) (D_law_round : DfG K mg "_law_round" s_law_round [] []) (D_law_pays : DfG K mg "_law_pays" s_law_pays [] []) (D_law_word : DfG K mg "_law_word" s_law_word [] []) (D_law_stand : DfG K mg "_law_stand" s_law_stand [] []) (D_law_marks : DfG K mg "_law_marks" s_law_marks [] []) (D_law_due : DfG K mg "_law_due" s_law_due [] []) (D_law_looks : DfG K mg "_law_looks" s_law_looks [] []) (D_law_family : DfG K mg "_law_family" s_law_family [] []) (D_law_is_field : DfG K mg "_law_is_field" s_law_is_field [] []) (D_law_no_lazy : DfG K mg "_law_no_lazy" s_law_no_lazy [] []) (D_law_no_thrifty : DfG K mg "_law_no_thrifty" s_law_no_thrifty [] []) (D_law_no_mark : DfG K mg "_law_no_mark" s_law_no_mark [] []) (D_law_refused : DfG K mg "_law_refused" s_law_refused [] []) (D_law_bad_numbers : DfG K mg "_law_bad_numbers" s_law_bad_numbers [] []) (D_law_thrifty : DfG K mg "_law_thrifty" s_law_thrifty [] []) (D_law_refusals : DfG K mg "_law_refusals" s_law_refusals [] []) (D_law_all_refuse : DfG K mg "_law_all_refuse" s_law_all_refuse [] []) (D_law : DfG K mg "law" s_law [] []) :
    ∃ fd : FuncData, (∀ (s : Shared) (u : Value), BindsTo s fd ⟨[u], []⟩ [("_law_script", u)]) ∧ ∀ base : Heap, K.In base → base.Ns mainGlobals mg → FnOk l.prog w K mg base CX0 23 fa fd ["_law_script"] (spLaw K) := by
  obtain ⟨f, fd, h1, F⟩ := D_law.ex
  have e := hfa.symm.trans h1
  cases e
  refine ⟨fd, fun s u => F.bindsA (ps := ["_law_script"]) (fun _ _ _ _ _ _ us hl => match us, hl with | [_], _ => rfl) s [u] rfl, fun base _ _ => ?_⟩
  have C_at_least : ClG CX0 l.prog w K mg base 3 "at_least" s_at_least ["value", "least", "field"] [] [] spAtl := cl_at_least T R D_at_least 
  have C_whole_number : ClG CX0 l.prog w K mg base 3 "whole_number" s_whole_number ["value", "field"] [] [] spWhole := cl_whole_number T R D_whole_number 
  have C_Round___init__ : ClI CX0 l.prog w K mg base 5 c_Round := cl_Round___init__ T R D_Round___init__ C_at_least C_whole_number
  have C_Round__window : ClM CX0 l.prog w K mg base 3 c_Round "_window" "Round._window" s_Round__window ["self", "start", "count"] [] [] (spWin c_Round) := cl_Round__window T R D_Round__window 
  have C_Round_total : ClM CX0 l.prog w K mg base 5 c_Round "total" "Round.total" s_Round_total ["self", "start", "count"] [] [] (spWin c_Round) := cl_Round_total T R D_Round_total C_Round__window C_at_least
  have C_Round__windows : ClM CX0 l.prog w K mg base 5 c_Round "_windows" "Round._windows" s_Round__windows ["self", "count"] [] [] (spWins c_Round) := cl_Round__windows T R D_Round__windows C_Round__window
  have C_Round_least : ClM CX0 l.prog w K mg base 7 c_Round "least" "Round.least" s_Round_least ["self", "count"] [] [] (spLst c_Round) := cl_Round_least T R D_Round_least C_Round__windows C_at_least
  have C_Round_at : ClM CX0 l.prog w K mg base 5 c_Round "at" "Round.at" s_Round_at ["self", "t"] [] [] (spAt c_Round) := cl_Round_at T R D_Round_at C_at_least
  have C_Round_budgets : ClP CX0 l.prog w K mg base 3 c_Round "budgets" "Round.budgets" s_Round_budgets (spBud c_Round) := cl_Round_budgets T R D_Round_budgets 
  have C_Round___add__ : ClM CX0 l.prog w K mg base 7 c_Round "__add__" "Round.__add__" s_Round___add__ ["self", "other"] [] [] (spRadd c_Round) := cl_Round___add__ T R D_Round___add__ C_Round___init__
  have C_at_most : ClG CX0 l.prog w K mg base 3 "at_most" s_at_most ["value", "most", "field"] [] [] spAtMost := cl_at_most T R D_at_most 
  have C_good_word : ClG CX0 l.prog w K mg base 3 "good_word" s_good_word ["word", "field"] [] [] spGood := cl_good_word T R D_good_word 
  have C_ones : ClG CX0 l.prog w K mg base 3 "_ones" s_ones ["word"] [] [] spOnes := cl_ones T R D_ones 
  have C_depth_list : ClG CX0 l.prog w K mg base 3 "_depth_list" s_depth_list ["word"] [] [] spDeps := cl_depth_list T R D_depth_list 
  have C_living : ClG CX0 l.prog w K mg base 5 "living" s_living ["word"] [] [] spLiving := cl_living T R D_living C_ones C_good_word
  have C_depths : ClG CX0 l.prog w K mg base 5 "depths" s_depths ["word"] [] [] spDepths := cl_depths T R D_depths C_depth_list C_good_word
  have C_check_standing : ClG CX0 l.prog w K mg base 7 "check_standing" s_check_standing ["word", "places", "limit", "phase", "most"] [.int 0] [] spChk := cl_check_standing T R D_check_standing C_at_most C_living C_at_least C_good_word
  have C_counted_places : ClG CX0 l.prog w K mg base 3 "counted_places" s_counted_places ["places", "late"] [] [] spCnt := cl_counted_places T R D_counted_places 
  have C_blocked_now : ClG CX0 l.prog w K mg base 7 "blocked_now" s_blocked_now ["t", "spots", "counted", "limit", "budgets", "phase"] [] [] (spBlk c_Round K) := cl_blocked_now T R D_blocked_now C_Round_total
  have C_short_now : ClG CX0 l.prog w K mg base 7 "short_now" s_short_now ["t", "ones", "counted", "limit", "budgets", "phase"] [] [] (spSht c_Round) := cl_short_now T R D_short_now C_Round_total
  have C_blocked_at : ClG CX0 l.prog w K mg base 9 "blocked_at" s_blocked_at ["word", "places", "limit", "budgets", "phase", "late"] [.int 0] [("late", .bl false)] (spBlkAt c_Round) := cl_blocked_at T R D_blocked_at C_blocked_now C_depths C_counted_places C_check_standing
  have C_Round___len__ : ClM CX0 l.prog w K mg base 3 c_Round "__len__" "Round.__len__" s_Round___len__ ["self"] [] [] (Gx.spLen c_Round) := cl_Round___len__ T R D_Round___len__ 
  have C_short_at : ClG CX0 l.prog w K mg base 9 "short_at" s_short_at ["word", "places", "limit", "budgets", "phase", "late"] [.int 0] [("late", .bl false)] (spShtAt c_Round) := cl_short_at T R D_short_at C_Round___len__ C_short_now C_living C_counted_places C_check_standing
  have C_critical_put : ClG CX0 l.prog w K mg base 11 "critical_put" s_critical_put ["word", "places", "limit", "budgets", "phase", "late"] [] [] (spCrit c_Round) := cl_critical_put T R D_critical_put C_short_at C_blocked_at
  have C_life : ClG CX0 l.prog w K mg base 13 "life" s_life ["word", "places", "limit", "budgets", "phase", "late"] [.int 0] [("late", .bl false)] (spLife c_Round) := cl_life T R D_life C_critical_put C_check_standing
  have C_safe : ClG CX0 l.prog w K mg base 15 "safe" s_safe ["word", "places", "limit", "budgets", "phase", "late"] [.int 0] [("late", .bl false)] (spSafe c_Round) := cl_safe T R D_safe C_life
  have C_trimmed : ClG CX0 l.prog w K mg base 3 "_trimmed" s_trimmed ["text"] [] [] spTrim := cl_trimmed T Z R D_trimmed 
  have C_carried : ClG CX0 l.prog w K mg base 5 "_carried" s_carried ["word", "places"] [] [] spCar := cl_carried T Z R D_carried C_trimmed
  have C_appended : ClG (L2.CX l.prog w) l.prog w K mg base 5 "_appended" s_appended ["word", "places", "record"] [] [] (spApp c_NoPlace) := cl_appended T Z R D_appended C_trimmed
  have C_carry : ClG CX0 l.prog w K mg base 7 "carry" s_carry ["word", "places"] [] [] spCarry := cl_carry T Z R D_carry C_carried C_at_least C_good_word
  have C_append_record : ClG (L2.CX l.prog w) l.prog w K mg base 7 "append_record" s_append_record ["word", "places", "record"] [.str "1"] [] (spAppR c_NoPlace) := cl_append_record T Z R D_append_record C_appended C_at_least C_good_word
  have C_at_least_X : ClG (L2.CX l.prog w) l.prog w K mg base 3 "at_least" s_at_least_X ["value", "least", "field"] [] [] (spAtlX c_InvalidInput) := cl_at_least_X T Z R D_at_least_X 
  have C_at_most_X : ClG (L2.CX l.prog w) l.prog w K mg base 3 "at_most" s_at_most_X ["value", "most", "field"] [] [] (spAtmX c_InvalidInput) := cl_at_most_X T Z R D_at_most_X 
  have C_good_word_X : ClG (L2.CX l.prog w) l.prog w K mg base 3 "good_word" s_good_word_X ["word", "field"] [] [] (spGw c_InvalidInput) := cl_good_word_X T Z R D_good_word_X 
  have C_check_standing_X : ClG (L2.CX l.prog w) l.prog w K mg base 7 "check_standing" s_check_standing_X ["word", "places", "limit", "phase", "most"] [.int 0] [] (spChkX c_InvalidInput) := cl_check_standing_X T Z R D_check_standing_X C_at_most_X C_living C_at_least_X C_good_word_X
  have C_check_moment : ClG CX0 l.prog w K mg base 5 "_check_moment" s_check_moment ["word", "places", "phase"] [] [] spCkm := cl_check_moment T Z R W_Keeper M_Keeper I_Keeper_Keeper W_Greedy M_Greedy I_Greedy_Keeper W_Lazy I_Lazy_Keeper W_Thrifty I_Thrifty_Keeper W_RuleKeeper I_RuleKeeper_Keeper D_check_moment C_at_least C_good_word
  have C_most_allowed : ClG CX0 l.prog w K mg base 7 "_most_allowed" s_most_allowed ["word", "places", "budgets", "phase"] [] [] (spMal c_Round) := cl_most_allowed T Z R W_Keeper M_Keeper I_Keeper_Keeper W_Greedy M_Greedy I_Greedy_Keeper W_Lazy I_Lazy_Keeper W_Thrifty I_Thrifty_Keeper W_RuleKeeper I_RuleKeeper_Keeper D_most_allowed C_living C_Round_at
  have C_Thrifty___init__ : Gx.ClC CX0 l.prog w K mg base 5 c_Thrifty "Thrifty.__init__" s_Thrifty___init__ ["self", "limit"] [] [] (spTin c_Thrifty) := cl_Thrifty___init__ T Z R W_Keeper M_Keeper I_Keeper_Keeper W_Greedy M_Greedy I_Greedy_Keeper W_Lazy I_Lazy_Keeper W_Thrifty I_Thrifty_Keeper W_RuleKeeper I_RuleKeeper_Keeper D_Thrifty___init__ C_at_least
  have C_Thrifty__leaves_safe : ClM CX0 l.prog w K mg base 17 c_Thrifty "_leaves_safe" "Thrifty._leaves_safe" s_Thrifty__leaves_safe ["self", "word", "places", "budgets", "phase"] [] [] (spLsf c_Round c_Thrifty) := cl_Thrifty__leaves_safe T Z R W_Keeper M_Keeper I_Keeper_Keeper W_Greedy M_Greedy I_Greedy_Keeper W_Lazy I_Lazy_Keeper W_Thrifty I_Thrifty_Keeper W_RuleKeeper I_RuleKeeper_Keeper D_Thrifty__leaves_safe C_safe C_append_record C_living
  have C_Thrifty_choose : ClM CX0 l.prog w K mg base 19 c_Thrifty "choose" "Thrifty.choose" s_Thrifty_choose ["self", "word", "places", "budgets", "phase"] [] [] (spThc c_Round c_Thrifty) := cl_Thrifty_choose T Z R W_Keeper M_Keeper I_Keeper_Keeper W_Greedy M_Greedy I_Greedy_Keeper W_Lazy I_Lazy_Keeper W_Thrifty I_Thrifty_Keeper W_RuleKeeper I_RuleKeeper_Keeper D_Thrifty_choose C_carry C_Thrifty__leaves_safe C_Round___len__ C_most_allowed C_check_moment
  have C_Keeper_choose : ClM CX0 l.prog w K mg base 7 c_Keeper "choose" "Keeper.choose" s_Keeper_choose ["self", "word", "places", "budgets", "phase"] [] [] (spKch c_Round c_Keeper) := cl_Keeper_choose T Z R W_Keeper M_Keeper I_Keeper_Keeper W_Greedy M_Greedy I_Greedy_Keeper W_Lazy I_Lazy_Keeper W_Thrifty I_Thrifty_Keeper W_RuleKeeper I_RuleKeeper_Keeper D_Keeper_choose C_check_moment
  have C_Greedy_choose : ClM CX0 l.prog w K mg base 9 c_Greedy "choose" "Greedy.choose" s_Greedy_choose ["self", "word", "places", "budgets", "phase"] [] [] (spGch c_Round c_Greedy) := cl_Greedy_choose T Z R W_Keeper M_Keeper I_Keeper_Keeper W_Greedy M_Greedy I_Greedy_Keeper W_Lazy I_Lazy_Keeper W_Thrifty I_Thrifty_Keeper W_RuleKeeper I_RuleKeeper_Keeper D_Greedy_choose C_most_allowed C_check_moment
  have C_Lazy___init__ : Gx.ClC CX0 l.prog w K mg base 5 c_Lazy "Lazy.__init__" s_Lazy___init__ ["self", "mark"] [] [] (spLin c_Lazy) := cl_Lazy___init__ T Z R W_Keeper M_Keeper I_Keeper_Keeper W_Greedy M_Greedy I_Greedy_Keeper W_Lazy I_Lazy_Keeper W_Thrifty I_Thrifty_Keeper W_RuleKeeper I_RuleKeeper_Keeper D_Lazy___init__ C_at_least
  have C_Lazy_set_mark : ClM CX0 l.prog w K mg base 5 c_Lazy "set_mark" "Lazy.set_mark" s_Lazy_set_mark ["self", "mark"] [] [] (spLsm c_Lazy) := cl_Lazy_set_mark T Z R W_Keeper M_Keeper I_Keeper_Keeper W_Greedy M_Greedy I_Greedy_Keeper W_Lazy I_Lazy_Keeper W_Thrifty I_Thrifty_Keeper W_RuleKeeper I_RuleKeeper_Keeper D_Lazy_set_mark C_at_least
  have C_Lazy_mark : ClP CX0 l.prog w K mg base 3 c_Lazy "mark" "Lazy.mark" s_Lazy_mark (spLmk c_Lazy) := cl_Lazy_mark T Z R W_Keeper M_Keeper I_Keeper_Keeper W_Greedy M_Greedy I_Greedy_Keeper W_Lazy I_Lazy_Keeper W_Thrifty I_Thrifty_Keeper W_RuleKeeper I_RuleKeeper_Keeper D_Lazy_mark 
  have C_Lazy_choose : ClM CX0 l.prog w K mg base 9 c_Lazy "choose" "Lazy.choose" s_Lazy_choose ["self", "word", "places", "budgets", "phase"] [] [] (spLch c_Round c_Lazy) := cl_Lazy_choose T Z R W_Keeper M_Keeper I_Keeper_Keeper W_Greedy M_Greedy I_Greedy_Keeper W_Lazy I_Lazy_Keeper W_Thrifty I_Thrifty_Keeper W_RuleKeeper I_RuleKeeper_Keeper D_Lazy_choose C_most_allowed C_check_moment
  have C_Keeper_label : ClM CX0 l.prog w K mg base 3 c_Keeper "label" "Keeper.label" s_Keeper_label ["self"] [] [] (spLabZ c_Keeper "rest") := cl_Keeper_label T Z R W_Keeper M_Keeper I_Keeper_Keeper W_Greedy M_Greedy I_Greedy_Keeper W_Lazy I_Lazy_Keeper W_Thrifty I_Thrifty_Keeper W_RuleKeeper I_RuleKeeper_Keeper D_Keeper_label 
  have C_Greedy_label : ClM CX0 l.prog w K mg base 3 c_Greedy "label" "Greedy.label" s_Greedy_label ["self"] [] [] (spLabZ c_Greedy "greedy") := cl_Greedy_label T Z R W_Keeper M_Keeper I_Keeper_Keeper W_Greedy M_Greedy I_Greedy_Keeper W_Lazy I_Lazy_Keeper W_Thrifty I_Thrifty_Keeper W_RuleKeeper I_RuleKeeper_Keeper D_Greedy_label 
  have C_Lazy_label : ClM CX0 l.prog w K mg base 3 c_Lazy "label" "Lazy.label" s_Lazy_label ["self"] [] [] (spLabI c_Lazy "_mark" "lazy ") := cl_Lazy_label T Z R W_Keeper M_Keeper I_Keeper_Keeper W_Greedy M_Greedy I_Greedy_Keeper W_Lazy I_Lazy_Keeper W_Thrifty I_Thrifty_Keeper W_RuleKeeper I_RuleKeeper_Keeper D_Lazy_label 
  have C_Thrifty_label : ClM CX0 l.prog w K mg base 3 c_Thrifty "label" "Thrifty.label" s_Thrifty_label ["self"] [] [] (spLabI c_Thrifty "_limit" "thrifty ") := cl_Thrifty_label T Z R W_Keeper M_Keeper I_Keeper_Keeper W_Greedy M_Greedy I_Greedy_Keeper W_Lazy I_Lazy_Keeper W_Thrifty I_Thrifty_Keeper W_RuleKeeper I_RuleKeeper_Keeper D_Thrifty_label 
  have C_check_moment_X : ClG (L2.CX l.prog w) l.prog w K mg base 5 "_check_moment" s_check_moment_X ["word", "places", "phase"] [] [] (spCmX c_InvalidInput) := cl_check_moment_X T Z R W_Keeper M_Keeper I_Keeper_Keeper W_Greedy M_Greedy I_Greedy_Keeper W_Lazy I_Lazy_Keeper W_Thrifty I_Thrifty_Keeper W_RuleKeeper I_RuleKeeper_Keeper D_check_moment_X C_at_least_X C_good_word_X
  have C_Keeper_choose_X : ClM (L2.CX l.prog w) l.prog w K mg base 7 c_Keeper "choose" "Keeper.choose" s_Keeper_choose_X ["self", "word", "places", "budgets", "phase"] [] [] (spChX c_InvalidInput) := cl_Keeper_choose_X T Z R W_Keeper M_Keeper I_Keeper_Keeper W_Greedy M_Greedy I_Greedy_Keeper W_Lazy I_Lazy_Keeper W_Thrifty I_Thrifty_Keeper W_RuleKeeper I_RuleKeeper_Keeper D_Keeper_choose_X C_check_moment_X
  have C_Greedy_choose_X : ClM (L2.CX l.prog w) l.prog w K mg base 7 c_Greedy "choose" "Greedy.choose" s_Greedy_choose_X ["self", "word", "places", "budgets", "phase"] [] [] (spChX c_InvalidInput) := cl_Greedy_choose_X T Z R W_Keeper M_Keeper I_Keeper_Keeper W_Greedy M_Greedy I_Greedy_Keeper W_Lazy I_Lazy_Keeper W_Thrifty I_Thrifty_Keeper W_RuleKeeper I_RuleKeeper_Keeper D_Greedy_choose_X C_check_moment_X
  have C_Lazy_choose_X : ClM (L2.CX l.prog w) l.prog w K mg base 7 c_Lazy "choose" "Lazy.choose" s_Lazy_choose_X ["self", "word", "places", "budgets", "phase"] [] [] (spChX c_InvalidInput) := cl_Lazy_choose_X T Z R W_Keeper M_Keeper I_Keeper_Keeper W_Greedy M_Greedy I_Greedy_Keeper W_Lazy I_Lazy_Keeper W_Thrifty I_Thrifty_Keeper W_RuleKeeper I_RuleKeeper_Keeper D_Lazy_choose_X C_check_moment_X
  have C_Thrifty_choose_X : ClM (L2.CX l.prog w) l.prog w K mg base 7 c_Thrifty "choose" "Thrifty.choose" s_Thrifty_choose_X ["self", "word", "places", "budgets", "phase"] [] [] (spChX c_InvalidInput) := cl_Thrifty_choose_X T Z R W_Keeper M_Keeper I_Keeper_Keeper W_Greedy M_Greedy I_Greedy_Keeper W_Lazy I_Lazy_Keeper W_Thrifty I_Thrifty_Keeper W_RuleKeeper I_RuleKeeper_Keeper D_Thrifty_choose_X C_check_moment_X
  have C_RuleKeeper_choose_X : ClM (L2.CX l.prog w) l.prog w K mg base 7 c_RuleKeeper "choose" "RuleKeeper.choose" s_RuleKeeper_choose_X ["self", "word", "places", "budgets", "phase"] [] [] (spChX c_InvalidInput) := cl_RuleKeeper_choose_X T Z R W_Keeper M_Keeper I_Keeper_Keeper W_Greedy M_Greedy I_Greedy_Keeper W_Lazy I_Lazy_Keeper W_Thrifty I_Thrifty_Keeper W_RuleKeeper I_RuleKeeper_Keeper D_RuleKeeper_choose_X C_check_moment_X
  have C_Lazy___init___X : Gx.ClC (L2.CX l.prog w) l.prog w K mg base 5 c_Lazy "Lazy.__init__" s_Lazy___init___X ["self", "mark"] [] [] (spFiX c_InvalidInput "mark" 0) := cl_Lazy___init___X T Z R W_Keeper M_Keeper I_Keeper_Keeper W_Greedy M_Greedy I_Greedy_Keeper W_Lazy I_Lazy_Keeper W_Thrifty I_Thrifty_Keeper W_RuleKeeper I_RuleKeeper_Keeper D_Lazy___init___X C_at_least_X
  have C_Lazy_set_mark_X : ClM (L2.CX l.prog w) l.prog w K mg base 5 c_Lazy "set_mark" "Lazy.set_mark" s_Lazy_set_mark_X ["self", "mark"] [] [] (spFiX c_InvalidInput "mark" 0) := cl_Lazy_set_mark_X T Z R W_Keeper M_Keeper I_Keeper_Keeper W_Greedy M_Greedy I_Greedy_Keeper W_Lazy I_Lazy_Keeper W_Thrifty I_Thrifty_Keeper W_RuleKeeper I_RuleKeeper_Keeper D_Lazy_set_mark_X C_at_least_X
  have C_Thrifty___init___X : Gx.ClC (L2.CX l.prog w) l.prog w K mg base 5 c_Thrifty "Thrifty.__init__" s_Thrifty___init___X ["self", "limit"] [] [] (spFiX c_InvalidInput "limit" 1) := cl_Thrifty___init___X T Z R W_Keeper M_Keeper I_Keeper_Keeper W_Greedy M_Greedy I_Greedy_Keeper W_Lazy I_Lazy_Keeper W_Thrifty I_Thrifty_Keeper W_RuleKeeper I_RuleKeeper_Keeper D_Thrifty___init___X C_at_least_X
  have C_read_number : ClG CX0 l.prog w K mg base 3 "_read_number" s_read_number ["word"] [] [] Gx.spNo := cl_read_number T Z R W_Keeper M_Keeper I_Keeper_Keeper W_Greedy M_Greedy I_Greedy_Keeper W_Lazy I_Lazy_Keeper W_Thrifty I_Thrifty_Keeper W_RuleKeeper I_RuleKeeper_Keeper D_read_number 
  have C_read_condition : ClG CX0 l.prog w K mg base 3 "_read_condition" s_read_condition ["name", "sign", "bound"] [] [] Gx.spNo := cl_read_condition T Z R W_Keeper M_Keeper I_Keeper_Keeper W_Greedy M_Greedy I_Greedy_Keeper W_Lazy I_Lazy_Keeper W_Thrifty I_Thrifty_Keeper W_RuleKeeper I_RuleKeeper_Keeper D_read_condition 
  have C_read_line : ClG CX0 l.prog w K mg base 5 "_read_line" s_read_line ["line"] [] [] spRdl := cl_read_line T Z R W_Keeper M_Keeper I_Keeper_Keeper W_Greedy M_Greedy I_Greedy_Keeper W_Lazy I_Lazy_Keeper W_Thrifty I_Thrifty_Keeper W_RuleKeeper I_RuleKeeper_Keeper D_read_line C_read_condition C_read_number
  have C_read_rules : ClG CX0 l.prog w K mg base 7 "_read_rules" s_read_rules ["text"] [] [] spRds := cl_read_rules T Z R W_Keeper M_Keeper I_Keeper_Keeper W_Greedy M_Greedy I_Greedy_Keeper W_Lazy I_Lazy_Keeper W_Thrifty I_Thrifty_Keeper W_RuleKeeper I_RuleKeeper_Keeper D_read_rules C_read_line
  have C_RuleKeeper___init__ : Gx.ClC CX0 l.prog w K mg base 9 c_RuleKeeper "RuleKeeper.__init__" s_RuleKeeper___init__ ["self", "text"] [] [] (spRin c_RuleKeeper) := cl_RuleKeeper___init__ T Z R W_Keeper M_Keeper I_Keeper_Keeper W_Greedy M_Greedy I_Greedy_Keeper W_Lazy I_Lazy_Keeper W_Thrifty I_Thrifty_Keeper W_RuleKeeper I_RuleKeeper_Keeper D_RuleKeeper___init__ C_read_rules
  have C_RuleKeeper_label : ClM CX0 l.prog w K mg base 3 c_RuleKeeper "label" "RuleKeeper.label" s_RuleKeeper_label ["self"] [] [] (spRlb c_RuleKeeper) := cl_RuleKeeper_label T Z R W_Keeper M_Keeper I_Keeper_Keeper W_Greedy M_Greedy I_Greedy_Keeper W_Lazy I_Lazy_Keeper W_Thrifty I_Thrifty_Keeper W_RuleKeeper I_RuleKeeper_Keeper D_RuleKeeper_label 
  have C_law_take : ClG CX0 l.prog w K mg base 3 "_law_take" s_law_take ["_law_script", "_law_box_here", "_law_many"] [] [] (spTk5 K) := cl_law_take T Z R W_Keeper M_Keeper I_Keeper_Keeper W_Greedy M_Greedy I_Greedy_Keeper W_Lazy I_Lazy_Keeper W_Thrifty I_Thrifty_Keeper W_RuleKeeper I_RuleKeeper_Keeper D_law_take 
  have C_law_box : ClG CX0 l.prog w K mg base 3 "_law_box" s_law_box ["_law_script", "_law_at"] [] [] (spBx5 K) := cl_law_box T Z R W_Keeper M_Keeper I_Keeper_Keeper W_Greedy M_Greedy I_Greedy_Keeper W_Lazy I_Lazy_Keeper W_Thrifty I_Thrifty_Keeper W_RuleKeeper I_RuleKeeper_Keeper D_law_box 
  have C_law_is_count : ClG CX0 l.prog w K mg base 3 "_law_is_count" s_law_is_count ["_law_thing"] [] [] spIct := cl_law_is_count T Z R W_Keeper M_Keeper I_Keeper_Keeper W_Greedy M_Greedy I_Greedy_Keeper W_Lazy I_Lazy_Keeper W_Thrifty I_Thrifty_Keeper W_RuleKeeper I_RuleKeeper_Keeper D_law_is_count 
  have C_law_round : ClG CX0 l.prog w K mg base 9 "_law_round" s_law_round ["_law_pays_here"] [] [] (spLRd c_Round K) := cl_law_round T Z R W_Keeper M_Keeper I_Keeper_Keeper W_Greedy M_Greedy I_Greedy_Keeper W_Lazy I_Lazy_Keeper W_Thrifty I_Thrifty_Keeper W_RuleKeeper I_RuleKeeper_Keeper D_law_round C_Round___add__ C_Round___init__
  have C_law_pays : ClG CX0 l.prog w K mg base 5 "_law_pays" s_law_pays ["_law_script", "_law_box_here"] [] [] (spPay K) := cl_law_pays T Z R W_Keeper M_Keeper I_Keeper_Keeper W_Greedy M_Greedy I_Greedy_Keeper W_Lazy I_Lazy_Keeper W_Thrifty I_Thrifty_Keeper W_RuleKeeper I_RuleKeeper_Keeper D_law_pays C_law_take
  have C_law_word : ClG CX0 l.prog w K mg base 5 "_law_word" s_law_word ["_law_script", "_law_box_here", "_law_wide"] [] [] (spLwd K) := cl_law_word T Z R W_Keeper M_Keeper I_Keeper_Keeper W_Greedy M_Greedy I_Greedy_Keeper W_Lazy I_Lazy_Keeper W_Thrifty I_Thrifty_Keeper W_RuleKeeper I_RuleKeeper_Keeper D_law_word C_law_take
  have C_law_stand : ClG CX0 l.prog w K mg base 7 "_law_stand" s_law_stand ["_law_script", "_law_box_here"] [] [] (spStd K) := cl_law_stand T Z R W_Keeper M_Keeper I_Keeper_Keeper W_Greedy M_Greedy I_Greedy_Keeper W_Lazy I_Lazy_Keeper W_Thrifty I_Thrifty_Keeper W_RuleKeeper I_RuleKeeper_Keeper D_law_stand C_law_word C_law_take
  have C_law_marks : ClG CX0 l.prog w K mg base 5 "_law_marks" s_law_marks ["_law_script", "_law_box_here", "_law_stands"] [] [] (spMks K) := cl_law_marks T Z R W_Keeper M_Keeper I_Keeper_Keeper W_Greedy M_Greedy I_Greedy_Keeper W_Lazy I_Lazy_Keeper W_Thrifty I_Thrifty_Keeper W_RuleKeeper I_RuleKeeper_Keeper D_law_marks C_law_take
  have C_law_due : ClG CX0 l.prog w K mg base 3 "_law_due" s_law_due ["_law_plan", "_law_stand_here", "_law_pays_here"] [] [] spDue := cl_law_due T Z R W_Keeper M_Keeper I_Keeper_Keeper W_Greedy M_Greedy I_Greedy_Keeper W_Lazy I_Lazy_Keeper W_Thrifty I_Thrifty_Keeper W_RuleKeeper I_RuleKeeper_Keeper D_law_due 
  have C_law_looks : ClG CX0 l.prog w K mg base 11 "_law_looks" s_law_looks ["_law_keeper", "_law_plan", "_law_stands", "_law_pays_here", "_law_made"] [] [] (spLks c_Round c_Keeper c_Greedy c_Lazy) := cl_law_looks T Z R W_Keeper M_Keeper I_Keeper_Keeper W_Greedy M_Greedy I_Greedy_Keeper W_Lazy I_Lazy_Keeper W_Thrifty I_Thrifty_Keeper W_RuleKeeper I_RuleKeeper_Keeper D_law_looks C_Lazy_label C_Greedy_label C_Keeper_label C_Lazy_mark C_law_is_count C_law_due C_Lazy_choose C_Greedy_choose C_Keeper_choose
  have C_law_family : ClG CX0 l.prog w K mg base 13 "_law_family" s_law_family ["_law_marks_here", "_law_stands", "_law_pays_here", "_law_made"] [] [] (spFam c_Round) := cl_law_family T Z R W_Keeper M_Keeper I_Keeper_Keeper W_Greedy M_Greedy I_Greedy_Keeper W_Lazy I_Lazy_Keeper W_Thrifty I_Thrifty_Keeper W_RuleKeeper I_RuleKeeper_Keeper D_law_family C_law_looks C_Lazy_set_mark C_Lazy___init__
  have C_law_is_field : ClS l.prog w K mg base 3 "_law_is_field" ["_law_raised", "_law_due_here"] (spIsF c_InvalidInput) := cl_law_is_field T Z R W_Keeper M_Keeper I_Keeper_Keeper W_Greedy M_Greedy I_Greedy_Keeper W_Lazy I_Lazy_Keeper W_Thrifty I_Thrifty_Keeper W_RuleKeeper I_RuleKeeper_Keeper D_law_is_field 
  have C_law_no_lazy : ClG CX0 l.prog w K mg base 7 "_law_no_lazy" s_law_no_lazy ["_law_number"] [] [] (spNoI 0) := cl_law_no_lazy T Z R W_Keeper M_Keeper I_Keeper_Keeper W_Greedy M_Greedy I_Greedy_Keeper W_Lazy I_Lazy_Keeper W_Thrifty I_Thrifty_Keeper W_RuleKeeper I_RuleKeeper_Keeper D_law_no_lazy C_Lazy___init___X C_law_is_field
  have C_law_no_thrifty : ClG CX0 l.prog w K mg base 7 "_law_no_thrifty" s_law_no_thrifty ["_law_number"] [] [] (spNoI 1) := cl_law_no_thrifty T Z R W_Keeper M_Keeper I_Keeper_Keeper W_Greedy M_Greedy I_Greedy_Keeper W_Lazy I_Lazy_Keeper W_Thrifty I_Thrifty_Keeper W_RuleKeeper I_RuleKeeper_Keeper D_law_no_thrifty C_Thrifty___init___X C_law_is_field
  have C_law_no_mark : ClG CX0 l.prog w K mg base 7 "_law_no_mark" s_law_no_mark ["_law_lazy", "_law_number"] [] [] (spNoM c_Lazy) := cl_law_no_mark T Z R W_Keeper M_Keeper I_Keeper_Keeper W_Greedy M_Greedy I_Greedy_Keeper W_Lazy I_Lazy_Keeper W_Thrifty I_Thrifty_Keeper W_RuleKeeper I_RuleKeeper_Keeper D_law_no_mark C_Lazy_set_mark_X C_law_is_field
  have C_law_refused : ClG CX0 l.prog w K mg base 9 "_law_refused" s_law_refused ["_law_keeper", "_law_word_here", "_law_wide", "_law_made", "_law_beat", "_law_due_here"] [] [] (spRfd c_Keeper c_Greedy c_Lazy c_Thrifty c_RuleKeeper) := cl_law_refused T Z R W_Keeper M_Keeper I_Keeper_Keeper W_Greedy M_Greedy I_Greedy_Keeper W_Lazy I_Lazy_Keeper W_Thrifty I_Thrifty_Keeper W_RuleKeeper I_RuleKeeper_Keeper D_law_refused C_RuleKeeper_choose_X C_Thrifty_choose_X C_Lazy_choose_X C_Greedy_choose_X C_Keeper_choose_X C_law_is_field
  have C_law_bad_numbers : ClG CX0 l.prog w K mg base 13 "_law_bad_numbers" s_law_bad_numbers ["_law_script", "_law_box_here", "_law_marks_here", "_law_stands", "_law_pays_here", "_law_made"] [] [] (spBadN c_Round K) := cl_law_bad_numbers T Z R W_Keeper M_Keeper I_Keeper_Keeper W_Greedy M_Greedy I_Greedy_Keeper W_Lazy I_Lazy_Keeper W_Thrifty I_Thrifty_Keeper W_RuleKeeper I_RuleKeeper_Keeper D_law_bad_numbers C_Thrifty___init__ C_Thrifty_label C_law_no_thrifty C_law_looks C_law_no_mark C_Lazy_set_mark C_law_no_lazy C_Lazy___init__ C_law_take
  have C_law_thrifty : ClG CX0 l.prog w K mg base 21 "_law_thrifty" s_law_thrifty ["_law_script", "_law_box_here", "_law_stand_here", "_law_pays_here", "_law_made"] [] [] (spThf c_Round K) := cl_law_thrifty T Z R W_Keeper M_Keeper I_Keeper_Keeper W_Greedy M_Greedy I_Greedy_Keeper W_Lazy I_Lazy_Keeper W_Thrifty I_Thrifty_Keeper W_RuleKeeper I_RuleKeeper_Keeper D_law_thrifty C_law_due C_law_is_count C_Thrifty_label C_Thrifty_choose C_Thrifty___init__ C_law_take
  have C_law_refusals : ClG CX0 l.prog w K mg base 11 "_law_refusals" s_law_refusals ["_law_script", "_law_box_here", "_law_keeper", "_law_stand_here", "_law_made"] [] [] (spRfs c_Keeper c_Greedy c_Lazy c_Thrifty c_RuleKeeper c_Round K) := cl_law_refusals T Z R W_Keeper M_Keeper I_Keeper_Keeper W_Greedy M_Greedy I_Greedy_Keeper W_Lazy I_Lazy_Keeper W_Thrifty I_Thrifty_Keeper W_RuleKeeper I_RuleKeeper_Keeper D_law_refusals C_law_refused C_law_take
  have C_law_all_refuse : ClG CX0 l.prog w K mg base 13 "_law_all_refuse" s_law_all_refuse ["_law_script", "_law_box_here", "_law_marks_here", "_law_stands", "_law_pays_here", "_law_made"] [] [] (spAll c_Round K) := cl_law_all_refuse T Z R W_Keeper M_Keeper I_Keeper_Keeper W_Greedy M_Greedy I_Greedy_Keeper W_Lazy I_Lazy_Keeper W_Thrifty I_Thrifty_Keeper W_RuleKeeper I_RuleKeeper_Keeper D_law_all_refuse C_law_looks C_Thrifty___init__ C_law_refusals C_RuleKeeper_label C_Lazy___init__ C_RuleKeeper___init__
  exact ok_law T Z R W_Keeper M_Keeper I_Keeper_Keeper W_Greedy M_Greedy I_Greedy_Keeper W_Lazy I_Lazy_Keeper W_Thrifty I_Thrifty_Keeper W_RuleKeeper I_RuleKeeper_Keeper F C_Round_budgets C_law_all_refuse C_law_box C_law_thrifty C_law_bad_numbers C_law_family C_law_marks C_law_stand C_law_round C_law_pays
theorem walk {l : PySem.W.OpenLaw} {q : Program} {loose : List Str} {XP : (Str → Option Value) → Heap → Prop} {YP : World → Heap → Prop} {d : DefRec} {K : Params → PySem.W.Frag} (hn : l.most = some 63) (hdf : d.params.defaults = [])
    (hY : ∀ (w : World) (h : Heap), YP w h → (K w.params).In h)
    (F : ∀ (w : World) (mg : Str → Option Value) (fa : Addr) (h : Heap), (K w.params).In h → h.Ns mainGlobals mg → mg d.name = some (.ref fa) →
      ∃ fd : FuncData, (∀ (s : Shared) (u : Value), BindsTo s fd ⟨[u], []⟩ [("_law_script", u)]) ∧ ∀ base : Heap, (K w.params).In base → base.Ns mainGlobals mg → FnOk l.prog w (K w.params) mg base CX0 23 fa fd ["_law_script"] (spLaw (K w.params))) :
    PySem.W.WalkO q loose XP YP l.row.toRowW d [] (fun f vs => PySem.call f vs) :=
  L2.walk_ofB (n := 63) (k := 23) (x := "_law_script") (CX := fun _ => CX0) (sp := fun w => spLaw (K w.params)) hn (by decide) hdf ⟨rfl, by decide, by decide⟩ hY F (fun _ _ a ns hl hb _ hS => ⟨a, ns, rfl, hS, hl, hb, fun _ => rfl⟩) fun _ _ _ _ _ z => z
end Toy
open PySem PySem.W PyProof.Rows in
set_option maxRecDepth 100000 in
set_option maxHeartbeats 0 in
theorem PySem.Challenge.cw_carrylog_k54_choose_family_holds : PySem.Challenge.rw_carrylog_k54_choose_family.Holds := by
  w_on; o_law; k_head; (case hw => w_witness2)
  k_fill
  refine Toy.walk (l := PySem.Challenge.rw_carrylog_k54_choose_family) rfl rfl (fun w h Y => PySem.W.kIn_of Y) ?F
  case F =>
    intro w mg fa h KX G hmg
    refine' Toy.all_mk KX G hmg ?T ?Z ?R ?W_Keeper ?M_Keeper ?I_Keeper_Keeper ?W_Greedy ?M_Greedy ?I_Greedy_Keeper ?W_Lazy ?I_Lazy_Keeper ?W_Thrifty ?I_Thrifty_Keeper ?W_RuleKeeper ?I_RuleKeeper_Keeper ?d0 ?d1 ?d2 ?d3 ?d4 ?d5 ?d6 ?d7 ?d8 ?d9 ?d10 ?d11 ?d12 ?d13 ?d14 ?d15 ?d16 ?d17 ?d18 ?d19 ?d20 ?d21 ?d22 ?d23 ?d24 ?d25 ?d26 ?d27 ?d28 ?d29 ?d30 ?d31 ?d32 ?d33 ?d34 ?d35 ?d36 ?d37 ?d38 ?d39 ?d40 ?d41 ?d42 ?d43 ?d44 ?d45 ?d46 ?d47 ?d48 ?d49 ?d50 ?d51 ?d52 ?d53 ?d54 ?d55 ?d56 ?d57 ?d58 ?d59 ?d60 ?d61 ?d62 ?d63 ?d64 ?d65 ?d66 ?d67 ?d68 ?d69 ?d70 ?d71 ?d72 ?d73 ?d74 ?d75 ?d76 ?d77 ?d78 ?d79 ?d80 ?d81 ?d82 ?d83 ?d84 ?d85
    case T =>
      constructor
      all_goals (refine PySem.W.mg_none_of KX G ?_; k_is)
    (case R => (refine' Gx.rdf_mk KX G ?zza ?zzpg ?zzhd ?zzpo ?zzsa ?zznb ?zzrd ?zzga ?zzmo ?zzsf ?zzt1 ?zzt2 ?zzt3 ?zzt4; (case zza => k_is); (case zzsf => k_is); (case zzt1 => k_is); (case zzt2 => k_is); (case zzt3 => k_is); (case zzt4 => k_is); (case zzpg => k_is); (case zzhd => k_is); (case zzpo => k_is); (case zzsa => k_is); (case zznb => k_is); (case zzmo => k_is); (case zzrd => k_is); (case zzga => k_is)))
    (case W_Keeper => (refine' Gx.clsf_mk KX G ?zza ?zzpg ?zzhd ?zzpo ?zzsa ?zznf ?zzt1 ?zzt2 ?zzt3 ?zzt4; (case zza => k_is); (case zzt1 => k_is); (case zzt2 => k_is); (case zzt3 => k_is); (case zzt4 => k_is); (case zzpg => k_is); (case zzhd => k_is); (case zzpo => k_is); (case zzsa => k_is); (case zznf => (refine List.forall_mem_nil _ <;> k_is))))
    (case M_Keeper => (refine' ⟨?zza, ?zzb, ?zzc⟩; (case zza => k_is); (case zzb => k_is); (case zzc => k_is)))
    (case I_Keeper_Keeper => exact Gx.kit_same)
    (case W_Greedy => (refine' Gx.clsf_mk KX G ?zza ?zzpg ?zzhd ?zzpo ?zzsa ?zznf ?zzt1 ?zzt2 ?zzt3 ?zzt4; (case zza => k_is); (case zzt1 => k_is); (case zzt2 => k_is); (case zzt3 => k_is); (case zzt4 => k_is); (case zzpg => k_is); (case zzhd => k_is); (case zzpo => k_is); (case zzsa => k_is); (case zznf => (refine List.forall_mem_nil _ <;> k_is))))
    (case M_Greedy => (refine' ⟨?zza, ?zzb, ?zzc⟩; (case zza => k_is); (case zzb => k_is); (case zzc => k_is)))
    (case I_Greedy_Keeper => (refine' Gx.kit_ne ?zza ?zzb ?zzc ?zzd; (case zza => exact rfl); (case zzb => k_is); (case zzc => k_is); (case zzd => k_is)))
    (case W_Lazy => (refine' Gx.clsf_mk KX G ?zza ?zzpg ?zzhd ?zzpo ?zzsa ?zznf ?zzt1 ?zzt2 ?zzt3 ?zzt4; (case zza => k_is); (case zzt1 => k_is); (case zzt2 => k_is); (case zzt3 => k_is); (case zzt4 => k_is); (case zzpg => k_is); (case zzhd => k_is); (case zzpo => k_is); (case zzsa => k_is); (case zznf => (refine List.forall_mem_cons.mpr ⟨?_, List.forall_mem_nil _⟩ <;> k_is))))
    (case I_Lazy_Keeper => (refine' Gx.kit_ne ?zza ?zzb ?zzc ?zzd; (case zza => exact rfl); (case zzb => k_is); (case zzc => k_is); (case zzd => k_is)))
    (case W_Thrifty => (refine' Gx.clsf_mk KX G ?zza ?zzpg ?zzhd ?zzpo ?zzsa ?zznf ?zzt1 ?zzt2 ?zzt3 ?zzt4; (case zza => k_is); (case zzt1 => k_is); (case zzt2 => k_is); (case zzt3 => k_is); (case zzt4 => k_is); (case zzpg => k_is); (case zzhd => k_is); (case zzpo => k_is); (case zzsa => k_is); (case zznf => (refine List.forall_mem_cons.mpr ⟨?_, List.forall_mem_nil _⟩ <;> k_is))))
    (case I_Thrifty_Keeper => (refine' Gx.kit_ne ?zza ?zzb ?zzc ?zzd; (case zza => exact rfl); (case zzb => k_is); (case zzc => k_is); (case zzd => k_is)))
    (case W_RuleKeeper => (refine' Gx.clsf_mk KX G ?zza ?zzpg ?zzhd ?zzpo ?zzsa ?zznf ?zzt1 ?zzt2 ?zzt3 ?zzt4; (case zza => k_is); (case zzt1 => k_is); (case zzt2 => k_is); (case zzt3 => k_is); (case zzt4 => k_is); (case zzpg => k_is); (case zzhd => k_is); (case zzpo => k_is); (case zzsa => k_is); (case zznf => (refine List.forall_mem_cons.mpr ⟨?_, List.forall_mem_nil _⟩ <;> k_is))))
    (case I_RuleKeeper_Keeper => (refine' Gx.kit_ne ?zza ?zzb ?zzc ?zzd; (case zza => exact rfl); (case zzb => k_is); (case zzc => k_is); (case zzd => k_is)))
    (case d0 => (refine' Gx.dfg_mk KX G ?zza ?zzl ?zzc ?zzk ?zzd ?zzq; (case zza => k_is); (case zzl => k_is); (case zzc => k_is); (case zzk => k_is); (case zzd => exact .inl ⟨rfl, rfl⟩); (case zzq => exact .inl rfl)))
    (case d1 => (refine' Gx.dfg_mk KX G ?zza ?zzl ?zzc ?zzk ?zzd ?zzq; (case zza => k_is); (case zzl => k_is); (case zzc => k_is); (case zzk => k_is); (case zzd => exact .inl ⟨rfl, rfl⟩); (case zzq => exact .inl rfl)))
    (case d2 => (refine' Gx.dfi_mk ?zzmk ?zza ?zzb ?zzk ?zzl ?zzc; (case zzmk => k_is); (case zza => k_is); (case zzb => k_is); (case zzk => k_is); (case zzl => k_is); (case zzc => k_is)))
    (case d3 => (refine' Gx.dfm_mk ?zza ?zzb ?zzk ?zzl ?zzc ?zzd ?zzq; (case zza => k_is); (case zzb => k_is); (case zzk => k_is); (case zzl => k_is); (case zzc => k_is); (case zzd => exact .inl ⟨rfl, rfl⟩); (case zzq => exact .inl rfl)))
    (case d4 => (refine' Gx.dfm_mk ?zza ?zzb ?zzk ?zzl ?zzc ?zzd ?zzq; (case zza => k_is); (case zzb => k_is); (case zzk => k_is); (case zzl => k_is); (case zzc => k_is); (case zzd => exact .inl ⟨rfl, rfl⟩); (case zzq => exact .inl rfl)))
    (case d5 => (refine' Gx.dfm_mk ?zza ?zzb ?zzk ?zzl ?zzc ?zzd ?zzq; (case zza => k_is); (case zzb => k_is); (case zzk => k_is); (case zzl => k_is); (case zzc => k_is); (case zzd => exact .inl ⟨rfl, rfl⟩); (case zzq => exact .inl rfl)))
    (case d6 => (refine' Gx.dfm_mk ?zza ?zzb ?zzk ?zzl ?zzc ?zzd ?zzq; (case zza => k_is); (case zzb => k_is); (case zzk => k_is); (case zzl => k_is); (case zzc => k_is); (case zzd => exact .inl ⟨rfl, rfl⟩); (case zzq => exact .inl rfl)))
    (case d7 => (refine' Gx.dfm_mk ?zza ?zzb ?zzk ?zzl ?zzc ?zzd ?zzq; (case zza => k_is); (case zzb => k_is); (case zzk => k_is); (case zzl => k_is); (case zzc => k_is); (case zzd => exact .inl ⟨rfl, rfl⟩); (case zzq => exact .inl rfl)))
    (case d8 => (refine' Gx.dfp_mk ?zza ?zzb ?zzt ?zzr ?zzl ?zzc ?zzk; (case zza => k_is); (case zzb => k_is); (case zzt => k_is); (case zzr => k_is); (case zzl => k_is); (case zzc => k_is); (case zzk => k_is)))
    (case d9 => (refine' Gx.dfm_mk ?zza ?zzb ?zzk ?zzl ?zzc ?zzd ?zzq; (case zza => k_is); (case zzb => k_is); (case zzk => k_is); (case zzl => k_is); (case zzc => k_is); (case zzd => exact .inl ⟨rfl, rfl⟩); (case zzq => exact .inl rfl)))
    (case d10 => (refine' Gx.dfg_mk KX G ?zza ?zzl ?zzc ?zzk ?zzd ?zzq; (case zza => k_is); (case zzl => k_is); (case zzc => k_is); (case zzk => k_is); (case zzd => exact .inl ⟨rfl, rfl⟩); (case zzq => exact .inl rfl)))
    (case d11 => (refine' Gx.dfg_mk KX G ?zza ?zzl ?zzc ?zzk ?zzd ?zzq; (case zza => k_is); (case zzl => k_is); (case zzc => k_is); (case zzk => k_is); (case zzd => exact .inl ⟨rfl, rfl⟩); (case zzq => exact .inl rfl)))
    (case d12 => (refine' Gx.dfg_mk KX G ?zza ?zzl ?zzc ?zzk ?zzd ?zzq; (case zza => k_is); (case zzl => k_is); (case zzc => k_is); (case zzk => k_is); (case zzd => exact .inl ⟨rfl, rfl⟩); (case zzq => exact .inl rfl)))
    (case d13 => (refine' Gx.dfg_mk KX G ?zza ?zzl ?zzc ?zzk ?zzd ?zzq; (case zza => k_is); (case zzl => k_is); (case zzc => k_is); (case zzk => k_is); (case zzd => exact .inl ⟨rfl, rfl⟩); (case zzq => exact .inl rfl)))
    (case d14 => (refine' Gx.dfg_mk KX G ?zza ?zzl ?zzc ?zzk ?zzd ?zzq; (case zza => k_is); (case zzl => k_is); (case zzc => k_is); (case zzk => k_is); (case zzd => exact .inl ⟨rfl, rfl⟩); (case zzq => exact .inl rfl)))
    (case d15 => (refine' Gx.dfg_mk KX G ?zza ?zzl ?zzc ?zzk ?zzd ?zzq; (case zza => k_is); (case zzl => k_is); (case zzc => k_is); (case zzk => k_is); (case zzd => exact .inl ⟨rfl, rfl⟩); (case zzq => exact .inl rfl)))
    (case d16 => (refine' Gx.dfg_mk KX G ?zza ?zzl ?zzc ?zzk ?zzd ?zzq; (case zza => k_is); (case zzl => k_is); (case zzc => k_is); (case zzk => k_is); (case zzd => (refine' Gx.dfl1 ?zzla ?zzlv0; (case zzla => k_is); (case zzlv0 => exact ⟨_, rfl⟩))); (case zzq => exact .inl rfl)))
    (case d17 => (refine' Gx.dfg_mk KX G ?zza ?zzl ?zzc ?zzk ?zzd ?zzq; (case zza => k_is); (case zzl => k_is); (case zzc => k_is); (case zzk => k_is); (case zzd => exact .inl ⟨rfl, rfl⟩); (case zzq => exact .inl rfl)))
    (case d18 => (refine' Gx.dfg_mk KX G ?zza ?zzl ?zzc ?zzk ?zzd ?zzq; (case zza => k_is); (case zzl => k_is); (case zzc => k_is); (case zzk => k_is); (case zzd => exact .inl ⟨rfl, rfl⟩); (case zzq => exact .inl rfl)))
    (case d19 => (refine' Gx.dfg_mk KX G ?zza ?zzl ?zzc ?zzk ?zzd ?zzq; (case zza => k_is); (case zzl => k_is); (case zzc => k_is); (case zzk => k_is); (case zzd => exact .inl ⟨rfl, rfl⟩); (case zzq => exact .inl rfl)))
    (case d20 => (refine' Gx.dfg_mk KX G ?zza ?zzl ?zzc ?zzk ?zzd ?zzq; (case zza => k_is); (case zzl => k_is); (case zzc => k_is); (case zzk => k_is); (case zzd => (refine' Gx.dfl1 ?zzla ?zzlv0; (case zzla => k_is); (case zzlv0 => exact ⟨_, rfl⟩))); (case zzq => (refine .inr ⟨_, rfl, ?_⟩; intro q hq; rcases List.mem_cons.mp hq with rfl | hq; exact ⟨_, by k_is, rfl⟩; cases hq))))
    (case d21 => (refine' Gx.dfm_mk ?zza ?zzb ?zzk ?zzl ?zzc ?zzd ?zzq; (case zza => k_is); (case zzb => k_is); (case zzk => k_is); (case zzl => k_is); (case zzc => k_is); (case zzd => exact .inl ⟨rfl, rfl⟩); (case zzq => exact .inl rfl)))
    (case d22 => (refine' Gx.dfg_mk KX G ?zza ?zzl ?zzc ?zzk ?zzd ?zzq; (case zza => k_is); (case zzl => k_is); (case zzc => k_is); (case zzk => k_is); (case zzd => (refine' Gx.dfl1 ?zzla ?zzlv0; (case zzla => k_is); (case zzlv0 => exact ⟨_, rfl⟩))); (case zzq => (refine .inr ⟨_, rfl, ?_⟩; intro q hq; rcases List.mem_cons.mp hq with rfl | hq; exact ⟨_, by k_is, rfl⟩; cases hq))))
    (case d23 => (refine' Gx.dfg_mk KX G ?zza ?zzl ?zzc ?zzk ?zzd ?zzq; (case zza => k_is); (case zzl => k_is); (case zzc => k_is); (case zzk => k_is); (case zzd => exact .inl ⟨rfl, rfl⟩); (case zzq => exact .inl rfl)))
    (case d24 => (refine' Gx.dfg_mk KX G ?zza ?zzl ?zzc ?zzk ?zzd ?zzq; (case zza => k_is); (case zzl => k_is); (case zzc => k_is); (case zzk => k_is); (case zzd => (refine' Gx.dfl1 ?zzla ?zzlv0; (case zzla => k_is); (case zzlv0 => exact ⟨_, rfl⟩))); (case zzq => (refine .inr ⟨_, rfl, ?_⟩; intro q hq; rcases List.mem_cons.mp hq with rfl | hq; exact ⟨_, by k_is, rfl⟩; cases hq))))
    (case d25 => (refine' Gx.dfg_mk KX G ?zza ?zzl ?zzc ?zzk ?zzd ?zzq; (case zza => k_is); (case zzl => k_is); (case zzc => k_is); (case zzk => k_is); (case zzd => (refine' Gx.dfl1 ?zzla ?zzlv0; (case zzla => k_is); (case zzlv0 => exact ⟨_, rfl⟩))); (case zzq => (refine .inr ⟨_, rfl, ?_⟩; intro q hq; rcases List.mem_cons.mp hq with rfl | hq; exact ⟨_, by k_is, rfl⟩; cases hq))))
    (case d26 => (refine' Gx.dfg_mk KX G ?zza ?zzl ?zzc ?zzk ?zzd ?zzq; (case zza => k_is); (case zzl => k_is); (case zzc => k_is); (case zzk => k_is); (case zzd => exact .inl ⟨rfl, rfl⟩); (case zzq => exact .inl rfl)))
    (case d27 => (refine' Gx.dfg_mk KX G ?zza ?zzl ?zzc ?zzk ?zzd ?zzq; (case zza => k_is); (case zzl => k_is); (case zzc => k_is); (case zzk => k_is); (case zzd => exact .inl ⟨rfl, rfl⟩); (case zzq => exact .inl rfl)))
    (case d28 => (refine' Gx.dfg_mk KX G ?zza ?zzl ?zzc ?zzk ?zzd ?zzq; (case zza => k_is); (case zzl => k_is); (case zzc => k_is); (case zzk => k_is); (case zzd => exact .inl ⟨rfl, rfl⟩); (case zzq => exact .inl rfl)))
    (case d29 => (refine' Gx.dfg_mk KX G ?zza ?zzl ?zzc ?zzk ?zzd ?zzq; (case zza => k_is); (case zzl => k_is); (case zzc => k_is); (case zzk => k_is); (case zzd => exact .inl ⟨rfl, rfl⟩); (case zzq => exact .inl rfl)))
    (case d30 => (refine' Gx.dfg_mk KX G ?zza ?zzl ?zzc ?zzk ?zzd ?zzq; (case zza => k_is); (case zzl => k_is); (case zzc => k_is); (case zzk => k_is); (case zzd => (refine' Gx.dfl1 ?zzla ?zzlv0; (case zzla => k_is); (case zzlv0 => exact ⟨_, rfl⟩))); (case zzq => exact .inl rfl)))
    (case d31 => (refine' Gx.dfg_mk KX G ?zza ?zzl ?zzc ?zzk ?zzd ?zzq; (case zza => k_is); (case zzl => k_is); (case zzc => k_is); (case zzk => k_is); (case zzd => exact .inl ⟨rfl, rfl⟩); (case zzq => exact .inl rfl)))
    (case d32 => (refine' Gx.dfg_mk KX G ?zza ?zzl ?zzc ?zzk ?zzd ?zzq; (case zza => k_is); (case zzl => k_is); (case zzc => k_is); (case zzk => k_is); (case zzd => exact .inl ⟨rfl, rfl⟩); (case zzq => exact .inl rfl)))
    (case d33 => (refine' Gx.dfg_mk KX G ?zza ?zzl ?zzc ?zzk ?zzd ?zzq; (case zza => k_is); (case zzl => k_is); (case zzc => k_is); (case zzk => k_is); (case zzd => exact .inl ⟨rfl, rfl⟩); (case zzq => exact .inl rfl)))
    (case d34 => (refine' Gx.dfg_mk KX G ?zza ?zzl ?zzc ?zzk ?zzd ?zzq; (case zza => k_is); (case zzl => k_is); (case zzc => k_is); (case zzk => k_is); (case zzd => (refine' Gx.dfl1 ?zzla ?zzlv0; (case zzla => k_is); (case zzlv0 => exact ⟨_, rfl⟩))); (case zzq => exact .inl rfl)))
    (case d35 => (refine' Gx.dfg_mk KX G ?zza ?zzl ?zzc ?zzk ?zzd ?zzq; (case zza => k_is); (case zzl => k_is); (case zzc => k_is); (case zzk => k_is); (case zzd => exact .inl ⟨rfl, rfl⟩); (case zzq => exact .inl rfl)))
    (case d36 => (refine' Gx.dfg_mk KX G ?zza ?zzl ?zzc ?zzk ?zzd ?zzq; (case zza => k_is); (case zzl => k_is); (case zzc => k_is); (case zzk => k_is); (case zzd => exact .inl ⟨rfl, rfl⟩); (case zzq => exact .inl rfl)))
    (case d37 => (refine' Gx.dfc_mk ?zzmk ?zza ?zzb ?zzk ?zzk2 ?zzl ?zzc ?zzd ?zzq; (case zzmk => k_is); (case zza => k_is); (case zzb => k_is); (case zzk => k_is); (case zzk2 => k_is); (case zzl => k_is); (case zzc => k_is); (case zzd => exact .inl ⟨rfl, rfl⟩); (case zzq => exact .inl rfl)))
    (case d38 => (refine' Gx.dfm_mk ?zza ?zzb ?zzk ?zzl ?zzc ?zzd ?zzq; (case zza => k_is); (case zzb => k_is); (case zzk => k_is); (case zzl => k_is); (case zzc => k_is); (case zzd => exact .inl ⟨rfl, rfl⟩); (case zzq => exact .inl rfl)))
    (case d39 => (refine' Gx.dfm_mk ?zza ?zzb ?zzk ?zzl ?zzc ?zzd ?zzq; (case zza => k_is); (case zzb => k_is); (case zzk => k_is); (case zzl => k_is); (case zzc => k_is); (case zzd => exact .inl ⟨rfl, rfl⟩); (case zzq => exact .inl rfl)))
    (case d40 => (refine' Gx.dfm_mk ?zza ?zzb ?zzk ?zzl ?zzc ?zzd ?zzq; (case zza => k_is); (case zzb => k_is); (case zzk => k_is); (case zzl => k_is); (case zzc => k_is); (case zzd => exact .inl ⟨rfl, rfl⟩); (case zzq => exact .inl rfl)))
    (case d41 => (refine' Gx.dfm_mk ?zza ?zzb ?zzk ?zzl ?zzc ?zzd ?zzq; (case zza => k_is); (case zzb => k_is); (case zzk => k_is); (case zzl => k_is); (case zzc => k_is); (case zzd => exact .inl ⟨rfl, rfl⟩); (case zzq => exact .inl rfl)))
    (case d42 => (refine' Gx.dfc_mk ?zzmk ?zza ?zzb ?zzk ?zzk2 ?zzl ?zzc ?zzd ?zzq; (case zzmk => k_is); (case zza => k_is); (case zzb => k_is); (case zzk => k_is); (case zzk2 => k_is); (case zzl => k_is); (case zzc => k_is); (case zzd => exact .inl ⟨rfl, rfl⟩); (case zzq => exact .inl rfl)))
    (case d43 => (refine' Gx.dfm_mk ?zza ?zzb ?zzk ?zzl ?zzc ?zzd ?zzq; (case zza => k_is); (case zzb => k_is); (case zzk => k_is); (case zzl => k_is); (case zzc => k_is); (case zzd => exact .inl ⟨rfl, rfl⟩); (case zzq => exact .inl rfl)))
    (case d44 => (refine' Gx.dfp_mk ?zza ?zzb ?zzt ?zzr ?zzl ?zzc ?zzk; (case zza => k_is); (case zzb => k_is); (case zzt => k_is); (case zzr => k_is); (case zzl => k_is); (case zzc => k_is); (case zzk => k_is)))
    (case d45 => (refine' Gx.dfm_mk ?zza ?zzb ?zzk ?zzl ?zzc ?zzd ?zzq; (case zza => k_is); (case zzb => k_is); (case zzk => k_is); (case zzl => k_is); (case zzc => k_is); (case zzd => exact .inl ⟨rfl, rfl⟩); (case zzq => exact .inl rfl)))
    (case d46 => (refine' Gx.dfm_mk ?zza ?zzb ?zzk ?zzl ?zzc ?zzd ?zzq; (case zza => k_is); (case zzb => k_is); (case zzk => k_is); (case zzl => k_is); (case zzc => k_is); (case zzd => exact .inl ⟨rfl, rfl⟩); (case zzq => exact .inl rfl)))
    (case d47 => (refine' Gx.dfm_mk ?zza ?zzb ?zzk ?zzl ?zzc ?zzd ?zzq; (case zza => k_is); (case zzb => k_is); (case zzk => k_is); (case zzl => k_is); (case zzc => k_is); (case zzd => exact .inl ⟨rfl, rfl⟩); (case zzq => exact .inl rfl)))
    (case d48 => (refine' Gx.dfm_mk ?zza ?zzb ?zzk ?zzl ?zzc ?zzd ?zzq; (case zza => k_is); (case zzb => k_is); (case zzk => k_is); (case zzl => k_is); (case zzc => k_is); (case zzd => exact .inl ⟨rfl, rfl⟩); (case zzq => exact .inl rfl)))
    (case d49 => (refine' Gx.dfm_mk ?zza ?zzb ?zzk ?zzl ?zzc ?zzd ?zzq; (case zza => k_is); (case zzb => k_is); (case zzk => k_is); (case zzl => k_is); (case zzc => k_is); (case zzd => exact .inl ⟨rfl, rfl⟩); (case zzq => exact .inl rfl)))
    (case d50 => (refine' Gx.dfg_mk KX G ?zza ?zzl ?zzc ?zzk ?zzd ?zzq; (case zza => k_is); (case zzl => k_is); (case zzc => k_is); (case zzk => k_is); (case zzd => exact .inl ⟨rfl, rfl⟩); (case zzq => exact .inl rfl)))
    (case d51 => (refine' Gx.dfm_mk ?zza ?zzb ?zzk ?zzl ?zzc ?zzd ?zzq; (case zza => k_is); (case zzb => k_is); (case zzk => k_is); (case zzl => k_is); (case zzc => k_is); (case zzd => exact .inl ⟨rfl, rfl⟩); (case zzq => exact .inl rfl)))
    (case d52 => (refine' Gx.dfm_mk ?zza ?zzb ?zzk ?zzl ?zzc ?zzd ?zzq; (case zza => k_is); (case zzb => k_is); (case zzk => k_is); (case zzl => k_is); (case zzc => k_is); (case zzd => exact .inl ⟨rfl, rfl⟩); (case zzq => exact .inl rfl)))
    (case d53 => (refine' Gx.dfm_mk ?zza ?zzb ?zzk ?zzl ?zzc ?zzd ?zzq; (case zza => k_is); (case zzb => k_is); (case zzk => k_is); (case zzl => k_is); (case zzc => k_is); (case zzd => exact .inl ⟨rfl, rfl⟩); (case zzq => exact .inl rfl)))
    (case d54 => (refine' Gx.dfm_mk ?zza ?zzb ?zzk ?zzl ?zzc ?zzd ?zzq; (case zza => k_is); (case zzb => k_is); (case zzk => k_is); (case zzl => k_is); (case zzc => k_is); (case zzd => exact .inl ⟨rfl, rfl⟩); (case zzq => exact .inl rfl)))
    (case d55 => (refine' Gx.dfm_mk ?zza ?zzb ?zzk ?zzl ?zzc ?zzd ?zzq; (case zza => k_is); (case zzb => k_is); (case zzk => k_is); (case zzl => k_is); (case zzc => k_is); (case zzd => exact .inl ⟨rfl, rfl⟩); (case zzq => exact .inl rfl)))
    (case d56 => (refine' Gx.dfc_mk ?zzmk ?zza ?zzb ?zzk ?zzk2 ?zzl ?zzc ?zzd ?zzq; (case zzmk => k_is); (case zza => k_is); (case zzb => k_is); (case zzk => k_is); (case zzk2 => k_is); (case zzl => k_is); (case zzc => k_is); (case zzd => exact .inl ⟨rfl, rfl⟩); (case zzq => exact .inl rfl)))
    (case d57 => (refine' Gx.dfm_mk ?zza ?zzb ?zzk ?zzl ?zzc ?zzd ?zzq; (case zza => k_is); (case zzb => k_is); (case zzk => k_is); (case zzl => k_is); (case zzc => k_is); (case zzd => exact .inl ⟨rfl, rfl⟩); (case zzq => exact .inl rfl)))
    (case d58 => (refine' Gx.dfc_mk ?zzmk ?zza ?zzb ?zzk ?zzk2 ?zzl ?zzc ?zzd ?zzq; (case zzmk => k_is); (case zza => k_is); (case zzb => k_is); (case zzk => k_is); (case zzk2 => k_is); (case zzl => k_is); (case zzc => k_is); (case zzd => exact .inl ⟨rfl, rfl⟩); (case zzq => exact .inl rfl)))
    (case d59 => (refine' Gx.dfg_mk KX G ?zza ?zzl ?zzc ?zzk ?zzd ?zzq; (case zza => k_is); (case zzl => k_is); (case zzc => k_is); (case zzk => k_is); (case zzd => exact .inl ⟨rfl, rfl⟩); (case zzq => exact .inl rfl)))
    (case d60 => (refine' Gx.dfg_mk KX G ?zza ?zzl ?zzc ?zzk ?zzd ?zzq; (case zza => k_is); (case zzl => k_is); (case zzc => k_is); (case zzk => k_is); (case zzd => exact .inl ⟨rfl, rfl⟩); (case zzq => exact .inl rfl)))
    (case d61 => (refine' Gx.dfg_mk KX G ?zza ?zzl ?zzc ?zzk ?zzd ?zzq; (case zza => k_is); (case zzl => k_is); (case zzc => k_is); (case zzk => k_is); (case zzd => exact .inl ⟨rfl, rfl⟩); (case zzq => exact .inl rfl)))
    (case d62 => (refine' Gx.dfg_mk KX G ?zza ?zzl ?zzc ?zzk ?zzd ?zzq; (case zza => k_is); (case zzl => k_is); (case zzc => k_is); (case zzk => k_is); (case zzd => exact .inl ⟨rfl, rfl⟩); (case zzq => exact .inl rfl)))
    (case d63 => (refine' Gx.dfc_mk ?zzmk ?zza ?zzb ?zzk ?zzk2 ?zzl ?zzc ?zzd ?zzq; (case zzmk => k_is); (case zza => k_is); (case zzb => k_is); (case zzk => k_is); (case zzk2 => k_is); (case zzl => k_is); (case zzc => k_is); (case zzd => exact .inl ⟨rfl, rfl⟩); (case zzq => exact .inl rfl)))
    (case d64 => (refine' Gx.dfm_mk ?zza ?zzb ?zzk ?zzl ?zzc ?zzd ?zzq; (case zza => k_is); (case zzb => k_is); (case zzk => k_is); (case zzl => k_is); (case zzc => k_is); (case zzd => exact .inl ⟨rfl, rfl⟩); (case zzq => exact .inl rfl)))
    (case d65 => (refine' Gx.dfg_mk KX G ?zza ?zzl ?zzc ?zzk ?zzd ?zzq; (case zza => k_is); (case zzl => k_is); (case zzc => k_is); (case zzk => k_is); (case zzd => exact .inl ⟨rfl, rfl⟩); (case zzq => exact .inl rfl)))
    (case d66 => (refine' Gx.dfg_mk KX G ?zza ?zzl ?zzc ?zzk ?zzd ?zzq; (case zza => k_is); (case zzl => k_is); (case zzc => k_is); (case zzk => k_is); (case zzd => exact .inl ⟨rfl, rfl⟩); (case zzq => exact .inl rfl)))
    (case d67 => (refine' Gx.dfg_mk KX G ?zza ?zzl ?zzc ?zzk ?zzd ?zzq; (case zza => k_is); (case zzl => k_is); (case zzc => k_is); (case zzk => k_is); (case zzd => exact .inl ⟨rfl, rfl⟩); (case zzq => exact .inl rfl)))
    (case d68 => (refine' Gx.dfg_mk KX G ?zza ?zzl ?zzc ?zzk ?zzd ?zzq; (case zza => k_is); (case zzl => k_is); (case zzc => k_is); (case zzk => k_is); (case zzd => exact .inl ⟨rfl, rfl⟩); (case zzq => exact .inl rfl)))
    (case d69 => (refine' Gx.dfg_mk KX G ?zza ?zzl ?zzc ?zzk ?zzd ?zzq; (case zza => k_is); (case zzl => k_is); (case zzc => k_is); (case zzk => k_is); (case zzd => exact .inl ⟨rfl, rfl⟩); (case zzq => exact .inl rfl)))
    (case d70 => (refine' Gx.dfg_mk KX G ?zza ?zzl ?zzc ?zzk ?zzd ?zzq; (case zza => k_is); (case zzl => k_is); (case zzc => k_is); (case zzk => k_is); (case zzd => exact .inl ⟨rfl, rfl⟩); (case zzq => exact .inl rfl)))
    (case d71 => (refine' Gx.dfg_mk KX G ?zza ?zzl ?zzc ?zzk ?zzd ?zzq; (case zza => k_is); (case zzl => k_is); (case zzc => k_is); (case zzk => k_is); (case zzd => exact .inl ⟨rfl, rfl⟩); (case zzq => exact .inl rfl)))
    (case d72 => (refine' Gx.dfg_mk KX G ?zza ?zzl ?zzc ?zzk ?zzd ?zzq; (case zza => k_is); (case zzl => k_is); (case zzc => k_is); (case zzk => k_is); (case zzd => exact .inl ⟨rfl, rfl⟩); (case zzq => exact .inl rfl)))
    (case d73 => (refine' Gx.dfg_mk KX G ?zza ?zzl ?zzc ?zzk ?zzd ?zzq; (case zza => k_is); (case zzl => k_is); (case zzc => k_is); (case zzk => k_is); (case zzd => exact .inl ⟨rfl, rfl⟩); (case zzq => exact .inl rfl)))
    (case d74 => (refine' Gx.dfg_mk KX G ?zza ?zzl ?zzc ?zzk ?zzd ?zzq; (case zza => k_is); (case zzl => k_is); (case zzc => k_is); (case zzk => k_is); (case zzd => exact .inl ⟨rfl, rfl⟩); (case zzq => exact .inl rfl)))
    (case d75 => (refine' Gx.dfg_mk KX G ?zza ?zzl ?zzc ?zzk ?zzd ?zzq; (case zza => k_is); (case zzl => k_is); (case zzc => k_is); (case zzk => k_is); (case zzd => exact .inl ⟨rfl, rfl⟩); (case zzq => exact .inl rfl)))
    (case d76 => (refine' Gx.dfg_mk KX G ?zza ?zzl ?zzc ?zzk ?zzd ?zzq; (case zza => k_is); (case zzl => k_is); (case zzc => k_is); (case zzk => k_is); (case zzd => exact .inl ⟨rfl, rfl⟩); (case zzq => exact .inl rfl)))
    (case d77 => (refine' Gx.dfg_mk KX G ?zza ?zzl ?zzc ?zzk ?zzd ?zzq; (case zza => k_is); (case zzl => k_is); (case zzc => k_is); (case zzk => k_is); (case zzd => exact .inl ⟨rfl, rfl⟩); (case zzq => exact .inl rfl)))
    (case d78 => (refine' Gx.dfg_mk KX G ?zza ?zzl ?zzc ?zzk ?zzd ?zzq; (case zza => k_is); (case zzl => k_is); (case zzc => k_is); (case zzk => k_is); (case zzd => exact .inl ⟨rfl, rfl⟩); (case zzq => exact .inl rfl)))
    (case d79 => (refine' Gx.dfg_mk KX G ?zza ?zzl ?zzc ?zzk ?zzd ?zzq; (case zza => k_is); (case zzl => k_is); (case zzc => k_is); (case zzk => k_is); (case zzd => exact .inl ⟨rfl, rfl⟩); (case zzq => exact .inl rfl)))
    (case d80 => (refine' Gx.dfg_mk KX G ?zza ?zzl ?zzc ?zzk ?zzd ?zzq; (case zza => k_is); (case zzl => k_is); (case zzc => k_is); (case zzk => k_is); (case zzd => exact .inl ⟨rfl, rfl⟩); (case zzq => exact .inl rfl)))
    (case d81 => (refine' Gx.dfg_mk KX G ?zza ?zzl ?zzc ?zzk ?zzd ?zzq; (case zza => k_is); (case zzl => k_is); (case zzc => k_is); (case zzk => k_is); (case zzd => exact .inl ⟨rfl, rfl⟩); (case zzq => exact .inl rfl)))
    (case d82 => (refine' Gx.dfg_mk KX G ?zza ?zzl ?zzc ?zzk ?zzd ?zzq; (case zza => k_is); (case zzl => k_is); (case zzc => k_is); (case zzk => k_is); (case zzd => exact .inl ⟨rfl, rfl⟩); (case zzq => exact .inl rfl)))
    (case d83 => (refine' Gx.dfg_mk KX G ?zza ?zzl ?zzc ?zzk ?zzd ?zzq; (case zza => k_is); (case zzl => k_is); (case zzc => k_is); (case zzk => k_is); (case zzd => exact .inl ⟨rfl, rfl⟩); (case zzq => exact .inl rfl)))
    (case d84 => (refine' Gx.dfg_mk KX G ?zza ?zzl ?zzc ?zzk ?zzd ?zzq; (case zza => k_is); (case zzl => k_is); (case zzc => k_is); (case zzk => k_is); (case zzd => exact .inl ⟨rfl, rfl⟩); (case zzq => exact .inl rfl)))
    (case d85 => (refine' Gx.dfg_mk KX G ?zza ?zzl ?zzc ?zzk ?zzd ?zzq; (case zza => k_is); (case zzl => k_is); (case zzc => k_is); (case zzk => k_is); (case zzd => exact .inl ⟨rfl, rfl⟩); (case zzq => exact .inl rfl)))
    case Z =>
      refine' ⟨?g_StoreError, ?g_InvalidInput, ?g_NoPlace, ?d_InvalidInput, ?xf_InvalidInput, ?xc_InvalidInput, ?em_InvalidInput_StoreError, ?kt_InvalidInput_StoreError, ?em_InvalidInput_InvalidInput, ?kt_InvalidInput_InvalidInput, ?em_InvalidInput_NoPlace, ?kt_InvalidInput_NoPlace, ?em_InvalidInput_ValueError, ?kt_InvalidInput_ValueError, ?ns_InvalidInput, ?d_NoPlace, ?xf_NoPlace, ?xc_NoPlace, ?em_NoPlace_StoreError, ?kt_NoPlace_StoreError, ?em_NoPlace_InvalidInput, ?kt_NoPlace_InvalidInput, ?em_NoPlace_NoPlace, ?kt_NoPlace_NoPlace, ?em_NoPlace_ValueError, ?kt_NoPlace_ValueError, ?ns_NoPlace⟩
      case g_StoreError => exact PySem.W.mg_of KX G (by k_is)
      case g_InvalidInput => exact PySem.W.mg_of KX G (by k_is)
      case g_NoPlace => exact PySem.W.mg_of KX G (by k_is)
      case d_InvalidInput => (refine' Gx.exd_mk (sx := "StoreError") KX G ?zzaS ?zza ?zzxL ?zzhbm ?zzsa ?zzexC ?zztyC ?zzkC ?zzmro ?zzh1 ?zzh2 ?zzhm ?zzhf ?zzsub' ?zzhn ?zzfl ?zzi1 ?zzi2 ?zzlf ?zzcf ?zzlc ?zzhv ?zzhfile ?zzlcc ?zzns ?zztop ?zzop; (case zzaS => k_is); (case zza => k_is); (case zzxL => k_is); (case zzsa => k_is); (case zzexC => k_is); (case zztyC => k_is); (case zzkC => k_is); (case zzmro => k_is); (case zzh1 => k_is); (case zzh2 => k_is); (case zzhbm => decide +kernel); (case zzhm => exact rfl); (case zzhf => k_is); (case zzhn => exact rfl); (case zzsub' => k_is); (case zzfl => k_is); (case zzi1 => k_is); (case zzi2 => k_is); (case zzlf => k_is); (case zzcf => k_is); (case zzlc => k_is); (case zzlcc => k_is); (case zzns => k_is); (case zzop => k_is); (case zzhv => exact rfl); (case zzhfile => exact rfl); (case zztop => exact rfl))
      case xf_InvalidInput => (constructor <;> k_is)
      case xc_InvalidInput => (constructor <;> k_is)
      case em_InvalidInput_StoreError => (refine' Gx.exm_of ?zza ?zzb ?zzc ?zzd; (case zza => k_is); (case zzb => k_is); (case zzc => k_is); (case zzd => k_is))
      case kt_InvalidInput_StoreError => (refine' Gx.kit_ne ?zza ?zzb ?zzc ?zzd; (case zza => exact rfl); (case zzb => k_is); (case zzc => k_is); (case zzd => k_is))
      case em_InvalidInput_InvalidInput => (refine' Gx.exm_of ?zza ?zzb ?zzc ?zzd; (case zza => k_is); (case zzb => k_is); (case zzc => k_is); (case zzd => k_is))
      case kt_InvalidInput_InvalidInput => exact Gx.kit_same
      case em_InvalidInput_NoPlace => (refine' Gx.exm_of ?zza ?zzb ?zzc ?zzd; (case zza => k_is); (case zzb => k_is); (case zzc => k_is); (case zzd => k_is))
      case kt_InvalidInput_NoPlace => (refine' Gx.kit_ne ?zza ?zzb ?zzc ?zzd; (case zza => exact rfl); (case zzb => k_is); (case zzc => k_is); (case zzd => k_is))
      case em_InvalidInput_ValueError => (refine' Gx.exm_tyB ?zza ?zzb ?zzd; (case zza => decide +kernel); (case zzb => k_is); (case zzd => k_is))
      case kt_InvalidInput_ValueError => (refine' Gx.kit_tyB ?zza ?zzd; (case zza => decide +kernel); (case zzd => k_is))
      case ns_InvalidInput => k_is
      case d_NoPlace => (refine' Gx.exd_mk (sx := "StoreError") KX G ?zzaS ?zza ?zzxL ?zzhbm ?zzsa ?zzexC ?zztyC ?zzkC ?zzmro ?zzh1 ?zzh2 ?zzhm ?zzhf ?zzsub' ?zzhn ?zzfl ?zzi1 ?zzi2 ?zzlf ?zzcf ?zzlc ?zzhv ?zzhfile ?zzlcc ?zzns ?zztop ?zzop; (case zzaS => k_is); (case zza => k_is); (case zzxL => k_is); (case zzsa => k_is); (case zzexC => k_is); (case zztyC => k_is); (case zzkC => k_is); (case zzmro => k_is); (case zzh1 => k_is); (case zzh2 => k_is); (case zzhbm => decide +kernel); (case zzhm => exact rfl); (case zzhf => k_is); (case zzhn => exact rfl); (case zzsub' => k_is); (case zzfl => k_is); (case zzi1 => k_is); (case zzi2 => k_is); (case zzlf => k_is); (case zzcf => k_is); (case zzlc => k_is); (case zzlcc => k_is); (case zzns => k_is); (case zzop => k_is); (case zzhv => exact rfl); (case zzhfile => exact rfl); (case zztop => exact rfl))
      case xf_NoPlace => (constructor <;> k_is)
      case xc_NoPlace => (constructor <;> k_is)
      case em_NoPlace_StoreError => (refine' Gx.exm_of ?zza ?zzb ?zzc ?zzd; (case zza => k_is); (case zzb => k_is); (case zzc => k_is); (case zzd => k_is))
      case kt_NoPlace_StoreError => (refine' Gx.kit_ne ?zza ?zzb ?zzc ?zzd; (case zza => exact rfl); (case zzb => k_is); (case zzc => k_is); (case zzd => k_is))
      case em_NoPlace_InvalidInput => (refine' Gx.exm_of ?zza ?zzb ?zzc ?zzd; (case zza => k_is); (case zzb => k_is); (case zzc => k_is); (case zzd => k_is))
      case kt_NoPlace_InvalidInput => (refine' Gx.kit_ne ?zza ?zzb ?zzc ?zzd; (case zza => exact rfl); (case zzb => k_is); (case zzc => k_is); (case zzd => k_is))
      case em_NoPlace_NoPlace => (refine' Gx.exm_of ?zza ?zzb ?zzc ?zzd; (case zza => k_is); (case zzb => k_is); (case zzc => k_is); (case zzd => k_is))
      case kt_NoPlace_NoPlace => exact Gx.kit_same
      case em_NoPlace_ValueError => (refine' Gx.exm_tyB ?zza ?zzb ?zzd; (case zza => decide +kernel); (case zzb => k_is); (case zzd => k_is))
      case kt_NoPlace_ValueError => (refine' Gx.kit_tyB ?zza ?zzd; (case zza => decide +kernel); (case zzd => k_is))
      case ns_NoPlace => k_is
#print axioms PySem.Challenge.cw_carrylog_k54_choose_family_holds

