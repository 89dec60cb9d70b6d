import PyProof.Rows.All
import Wide.All
import OpenK.AllK
import Wide.FinOn
import HandS.ForMost
import HandS.Wide
import HandS.WideBits
import HandS.IsInst
import HandS.StrMore
import HandS.TupAny
import HandS.EndBits
import PyProof.StrOps2
import HandS.Style
import HandS.Iter
import HandS.Comp
import HandS.Zip
import HandS.Codes
import KE.GoesMore
import PyProof.EnumMake
import PyProof.Draws
import HandS.Defaults
import HandS.MakeKwOnly
import HandS.ExcInit
import HandS.ExcSuper
import HandS.NestedK
import HandS.ClsMeth
import KE.KSuper
import KE.KExcSuper
import HandS.FStr
import HandS.WordsExc
import HandS.ExcIs
import HandS.ExcField
import HandS.HotCalls
import KE.KExcIs
import KE.KIsAll
import HandS.ExcInitHot
import HandS.TryOnly
import HandS.Star
import HandS.Property
import KE.KTupSum
import HandS.Gcd
import Flt.RightSqrt
import HandS.Replace
import PyProof.Rows.StrStrike
import HandS.ReplaceDef
import HandS.ReplaceLit
import PySem.Challenge.RW_carrylog_k11_word_refusals
set_option Elab.async false
set_option linter.all false
set_option maxRecDepth 100000
set_option maxHeartbeats 2000000
/-! Gx: short words over the hand layer: callable defs by name (Df, Cl), operators by the values' kinds, steps of a reading (g_..), heaps that only grow (Ex, ExB). -/
namespace Gx
open PySem PySem.Spec PyProof.Rows L2

/-- n times the text z -/
def repS (z : Str) (n : Nat) : Str := ⟨((List.replicate n z.cps.toList).flatten).toArray⟩
theorem foldl_app (l : List (Array Nat)) : ∀ a : Array Nat, (l.foldl (· ++ ·) a).toList = a.toList ++ (l.map Array.toList).flatten := by
  induction l with
  | nil => intro a; simp
  | cons x r ih => intro a; rw [List.foldl_cons, ih]; simp
theorem repS_fold (z : Str) (n : Nat) : (⟨(List.replicate n z.cps).foldl (· ++ ·) #[]⟩ : Str) = repS z n := by
  unfold repS
  congr 1
  apply Array.toList_inj.mp
  rw [foldl_app]
  simp
theorem repS_one (z : Str) : repS z 1 = z := by
  unfold repS
  simp
theorem repS_nil (z : Str) (n : Nat) (h : z.length = 0) : repS z n = z := by
  obtain ⟨a⟩ := z
  have h' : a = #[] := Array.size_eq_zero_iff.mp h
  subst h'
  unfold repS
  simp
theorem repS_zero (z : Str) : repS z 0 = Str.empty := by
  unfold repS
  simp
  rfl
theorem repS_length (z : Str) (n : Nat) : (repS z n).length = z.length * n := by
  unfold repS Str.length
  simp [Nat.mul_comm]
section
variable {P : Program} {w : World} {K : PySem.W.Frag} {mg : Str → Option Value} {base : Heap}
/-- the def x of the text st as the top left it -/
structure Df (K : PySem.W.Frag) (mg : Str → Option Value) (x : Str) (st : Stmt) (ps : List Str) : Prop where
  ex : ∃ (f : Addr) (fd : FuncData), mg x = some (.ref f) ∧ Fun K x x st f fd ∧ ∀ us : List Value, us.length = ps.length → bindArgs fd ⟨us, []⟩ = pure (ps.zip us)
/-- the def x may be called -/
structure Cl (P : Program) (w : World) (K : PySem.W.Frag) (mg : Str → Option Value) (base : Heap) (k : Nat) (x : Str) (ps : List Str) (sp : Sp) : Prop where
  ex : ∃ (f : Addr) (fd : FuncData), mg x = some (.ref f) ∧ PySem.W.keepIn K (.ref f) = true ∧ (∀ us : List Value, us.length = ps.length → bindArgs fd ⟨us, []⟩ = pure (ps.zip us)) ∧ FnOk P w K mg base CX0 k f fd ps sp
theorem df_mk {h : Heap} {x : Str} {st : Stmt} {ps : List Str} {f : Addr} {oc : Value} {od an : Option Addr} {osl : Array (Option Value)} {kV doc pm cdv ct : Value} (X : K.In h) (G : h.Ns mainGlobals mg)
    (a : PySem.W.nsIn K mainGlobals x = some (some (.ref f))) (l : K.lookup f = some ⟨oc, od, .func (PySem.W.fnOf x x (defArgs st) (defBody st) (defScope st) .none kV doc pm an cdv ct), osl⟩)
    (c : PySem.W.codeIn K cdv x = true) (k : PySem.W.keepIn K (.ref f) = true)
    (b : ∀ us : List Value, us.length = ps.length → bindArgs (PySem.W.fnOf x x (defArgs st) (defBody st) (defScope st) .none kV doc pm an cdv ct) ⟨us, []⟩ = pure (ps.zip us)) : Df K mg x st ps :=
  ⟨f, _, PySem.W.mg_of X G a, fun_mk l c k, b⟩
theorem Df.ok {x : Str} {st : Stmt} {N ps : List Str} {k : Nat} {sp : Sp} (D : Df K mg x st ps) (S : FnScope N ps (defScope st)) (len : ∀ vs H Q E, sp vs H Q E → vs.length = ps.length)
    (hbody : ∀ (f : Addr) (cdv : Value) (A : Around) (outer : List Env) (s : Shared) (H : Hp) (vs : List V) (Q : VK) (E : XK), Room k (A.deeper (envOfC x (defScope st) s.heap.objs.size f cdv)) → sp vs H Q E →
      ∃ t, PSs (cxOf CX0 P w K mg base N x (defScope st) f cdv A outer s H E).nox (defBody st) t ∧ t { nx := fun _ H' => Q .non H', rt := Q } (start N vs) H) : Cl P w K mg base (k + 1) x ps sp := by
  obtain ⟨f, fd, h1, h2, h3⟩ := D.ex
  exact ⟨f, fd, h1, h2.kp, h3, h2.ok S len fun cdv A outer s H vs Q E hr h => hbody f cdv A outer s H vs Q E hr h⟩
theorem Cl.mono {x : Str} {ps : List Str} {j k : Nat} {sp : Sp} (C : Cl P w K mg base j x ps sp) (h : j ≤ k) : Cl P w K mg base k x ps sp := by
  obtain ⟨f, fd, h1, h2, h3, h4⟩ := C.ex
  exact ⟨f, fd, h1, h2, h3, h4.mono h⟩
end

section
variable {X : Cx} {x : Str} {p pos : Pos} {e a b : Expr} {es : List Expr} {t : TA} {ta tb : TE} {k : Nat} {ps : List Str} {sp : Sp}
theorem pe_cl (C : Cl X.prog X.w X.K X.mg X.base k x ps sp) (hr : Room k X.A) (ha : PA X (e :: es) t) (hg : Gl X x := by rfl) (hdb : (x == ("__debug__" : Str)) = false := by decide)
    (he : starEach (e :: es) X.env = (false, eval e X.env) :: starEach es X.env := by rfl) (hpl : (backTo pos (starEach es X.env)).any (·.1) = false := by rfl) :
    PE X (.Call (.Name x p) (e :: es) [] pos) (tCall sp [] E0 t) := by
  obtain ⟨f, fd, h1, h2, h3, h4⟩ := C.ex
  exact pe_call h4 hr hg h1 h2 (Binds.all h3) .nil pass0 ha hdb he hpl
theorem pe_cl0 (C : Cl X.prog X.w X.K X.mg X.base k x ps sp) (hr : Room k X.A) (hg : Gl X x := by rfl) (hdb : (x == ("__debug__" : Str)) = false := by decide) :
    PE X (.Call (.Name x p) [] [] pos) (tCall sp [] E0 tNil) := by
  obtain ⟨f, fd, h1, h2, h3, h4⟩ := C.ex
  exact pe_call0 h4 hr hg h1 h2 (Binds.all h3) .nil pass0 hdb
end


/-! ### keyword-only parameters -/
section
variable {P : Program} {w : World} {K : PySem.W.Frag} {mg : Str → Option Value} {base : Heap}
structure DfK (K : PySem.W.Frag) (mg : Str → Option Value) (x : Str) (st : Stmt) (kws : List (Str × V)) : Prop where
  ex : ∃ (f : Addr) (fd : FuncData), mg x = some (.ref f) ∧ FunD K x x (defArgs st) (defBody st) (defScope st) [] kws f fd
structure ClK (P : Program) (w : World) (K : PySem.W.Frag) (mg : Str → Option Value) (base : Heap) (k : Nat) (x : Str) (st : Stmt) (ps : List Str) (kws : List (Str × V)) (sp : Sp) : Prop where
  ex : ∃ (f : Addr) (fd : FuncData), mg x = some (.ref f) ∧ FunD K x x (defArgs st) (defBody st) (defScope st) [] kws f fd ∧ FnOk P w K mg base CX0 k f fd ps sp
theorem dfk_mk {h : Heap} {x : Str} {st : Stmt} {f D : Addr} {oc : Value} {od an : Option Addr} {osl : Array (Option Value)} {doc pm cdv ct : Value} {kws : List (Str × V)} (X : K.In h) (G : h.Ns mainGlobals mg)
    (a : PySem.W.nsIn K mainGlobals x = some (some (.ref f))) (l : K.lookup f = some ⟨oc, od, .func (PySem.W.fnOf x x (defArgs st) (defBody st) (defScope st) .none (.ref D) doc pm an cdv ct), osl⟩)
    (c : PySem.W.codeIn K cdv x = true) (k : PySem.W.keepIn K (.ref f) = true) (d : ∀ q ∈ kws, ∃ u, PySem.W.nsIn K D q.1 = some (some u) ∧ RelV q.2 u) : DfK K mg x st kws :=
  ⟨f, _, PySem.W.mg_of X G a, ⟨⟨oc, od, .none, .ref D, doc, pm, an, cdv, ct, osl, rfl, l, c, .inl ⟨rfl, rfl⟩, .inr ⟨D, rfl, d⟩⟩, k⟩⟩
theorem DfK.ok {x : Str} {st : Stmt} {N ps : List Str} {kws : List (Str × V)} {k : Nat} {sp : Sp} (D : DfK K mg x st kws) (S : FnScope N ps (defScope st)) (len : ∀ vs H Q E, sp vs H Q E → vs.length = ps.length)
    (hbody : ∀ (f : Addr) (cdv : Value) (A : Around) (outer : List Env) (s : Shared) (H : Hp) (vs : List V) (Q : VK) (E : XK), Room k (A.deeper (envOfC x (defScope st) s.heap.objs.size f cdv)) → sp vs H Q E →
      ∃ t, PSs (cxOf CX0 P w K mg base N x (defScope st) f cdv A outer s H E).nox (defBody st) t ∧ t { nx := fun _ H' => Q .non H', rt := Q } (start N vs) H) : ClK P w K mg base (k + 1) x st ps kws sp := by
  obtain ⟨f, fd, h1, h2⟩ := D.ex
  exact ⟨f, fd, h1, h2, h2.ok S len fun cdv A outer s H vs Q E hr h => by
    obtain ⟨t, a, b⟩ := hbody f cdv A outer s H vs Q E hr h
    exact ⟨t, a.nox, b⟩⟩
end
section
variable {X : Cx} {x : Str} {p pos : Pos} {e : Expr} {es : List Expr} {kw : List Keyword} {t tk : TA} {k : Nat} {ps : List Str} {sp : Sp} {st : Stmt} {kws : List (Str × V)}
theorem pe_clk0 (C : ClK X.prog X.w X.K X.mg X.base k x st ps kws sp) (hr : Room k X.A) (n : Nat) (hk : kws ≠ []) (hn : n + kws.length = ps.length)
    (h : ∀ (D : Addr) (doc pm : Value) (an : Option Addr) (cdv ct : Value) (us ks : List Value), us.length = n → ks.length = kws.length →
      KwChain D ((kws.map (·.1)).zip ks) (bindArgs (PySem.W.fnOf x x (defArgs st) (defBody st) (defScope st) .none (.ref D) doc pm an cdv ct) ⟨us, []⟩) (ps.zip (us ++ ks)))
    (ha : PA X (e :: es) t) (hg : Gl X x := by rfl) (hdb : (x == ("__debug__" : Str)) = false := by decide)
    (he : starEach (e :: es) X.env = (false, eval e X.env) :: starEach es X.env := by rfl) (hpl : (backTo pos (starEach es X.env)).any (·.1) = false := by rfl) :
    PE X (.Call (.Name x p) (e :: es) [] pos) (tCall sp (kws.map (·.2)) E0 t) := by
  obtain ⟨f, fd, h1, h2, h4⟩ := C.ex
  obtain ⟨ds, r, b⟩ := h2.binds0 n hk hn h
  exact pe_call h4 hr hg h1 h2.kp b r pass0 ha hdb he hpl
theorem pe_clk (C : ClK X.prog X.w X.K X.mg X.base k x st ps kws sp) (hr : Room k X.A) (n : Nat) (ks : List Str) (ms : List (Str × V)) (g : {α : Type} → List α → List α → List α → List α) (hk : kws ≠ []) (hms : ∀ q ∈ ms, q ∈ kws)
    (hrel : ∀ {vs mz zs : List V} {us mv ws : List Value}, Vals vs us → Vals mz mv → Vals zs ws → Vals (g vs mz zs) (g us mv ws))
    (h : ∀ (D : Addr) (doc pm : Value) (an : Option Addr) (cdv ct : Value) (us mv ws : List Value), us.length = n → mv.length = ms.length → ws.length = ks.length →
      KwChain D ((ms.map (·.1)).zip mv) (bindArgs (PySem.W.fnOf x x (defArgs st) (defBody st) (defScope st) .none (.ref D) doc pm an cdv ct) ⟨us, ks.zip ws⟩) (ps.zip (g us mv ws)))
    (ha : PA X (e :: es) t) (hkw : PK X kw tk) (hg : Gl X x := by rfl) (hall : (backToKw pos (keywordEach kw X.env)).all (·.1.isSome) = true := by rfl) (hks : (backToKw pos (keywordEach kw X.env)).filterMap (·.1) = ks := by rfl)
    (hdb : (x == ("__debug__" : Str)) = false := by decide) (he : starEach (e :: es) X.env = (false, eval e X.env) :: starEach es X.env := by rfl)
    (hpl : ((backTo pos (starEach (e :: es) X.env)).any (·.1) || (backToKw pos (keywordEach kw X.env)).any (·.1.isNone)) = false := by rfl) :
    PE X (.Call (.Name x p) (e :: es) kw pos) (tCallN n ks.length sp (fun vs zs => g vs (ms.map (·.2)) zs) E0 t tk) := by
  obtain ⟨f, fd, h1, h2, h4⟩ := C.ex
  obtain ⟨mv, b⟩ := h2.kbinds0 n ks ms g hk hms hrel h
  exact pe_callN h4 hr hg h1 h2.kp b pass0 ha hkw hall hks hdb he hpl
end

/-! ### operators by the kinds of the values -/
section
variable {X : Cx}
def rRepS : R2 := fun x y H Q => ∃ (z : Str) (n : Int), x = .str z ∧ y = .int n ∧ (n < 2 ^ 40 ∧ -(2 ^ 40) ≤ n ∧ z.length * n.toNat ≤ 100000) ∧ Q (.str (repS z n.toNat)) H
theorem op_repS : OpR X (binaryOp .Mult) rRepS := by
  intro pins s σ H x y v u Q I rx ry h
  obtain ⟨z, n, rfl, rfl, ⟨h1, h2, h3⟩, q⟩ := h
  obtain ⟨t, rfl⟩ := rx
  obtain ⟨t', rfl⟩ := ry
  have hs : sizeLine = 16777216 := sizeLine_eq
  have hz : Builtin.Str.tooLong (z.length * n.toNat) = false := by
    unfold Builtin.Str.tooLong
    exact decide_eq_false (by omega)
  refine PySem.P.mul_str ?_ (fun h4 h5 => ?_) (fun _ _ => hz) ?_
  · rw [decide_eq_false (by omega), decide_eq_false (by omega)]; rfl
  · intro h6
    have h7 : 0 < n := by omega
    have h8 : ((z.length : Int)) * n ≤ 100000 := by
      have : ((z.length * n.toNat : Nat) : Int) ≤ 100000 := by omega
      rw [Int.natCast_mul, Int.toNat_of_nonneg (by omega)] at this
      exact this
    have h9 : ((2 ^ 63 - 1 : Int) / n + 1) ≤ (z.length : Int) := by omega
    have ha : ((2 ^ 63 - 1 : Int) / n + 1) * n ≤ (z.length : Int) * n := Int.mul_le_mul_of_nonneg_right h9 (by omega)
    have hb : (2 ^ 63 - 1 : Int) < ((2 ^ 63 - 1 : Int) / n + 1) * n := Int.lt_ediv_add_one_mul_self _ h7
    omega
  · by_cases h4 : n < 1
    · rw [if_pos h4]
      refine ⟨by decide, .str Str.empty, H, I.tok _, ⟨_, rfl⟩, ?_⟩
      have e : n.toNat = 0 := by omega
      rw [e, repS_zero] at q
      exact q
    · rw [if_neg h4]
      by_cases h5 : (n == 1 || z.length == 0) = true
      · rw [if_pos h5]
        refine ⟨.str z, H, I, ⟨_, rfl⟩, ?_⟩
        have e : repS z n.toNat = z := by
          rw [Bool.or_eq_true] at h5
          rcases h5 with h5 | h5
          · have e : n.toNat = 1 := by
              have := beq_iff_eq.mp h5
              omega
            rw [e, repS_one]
          · exact repS_nil _ _ (beq_iff_eq.mp h5)
        rw [e] at q
        exact q
      · rw [if_neg h5, repS_fold]
        refine ⟨by rw [repS_length]; omega, .str _, H, I.tok _, ⟨_, rfl⟩, q⟩
end
def rAdd (K : PySem.W.Frag) : R2 := fun x y H Q => rI0 (fun i j => .int (i + j)) x y H Q ∨ (∃ i j, x = .str i ∧ y = .str j ∧ i.length + j.length ≤ sizeLine ∧ Q (.str (i ++ j)) H) ∨ rCat x y H Q ∨ rCatA K x y H Q
def rMul (K : PySem.W.Frag) : R2 := fun x y H Q => rI CMul (fun i j => .int (i * j)) x y H Q ∨ rI CMulX (fun i j => .int (i * j)) x y H Q ∨ rRepS x y H Q ∨ rRep x y H Q
def rSub : R2 := rI0 fun i j => .int (i - j)
def rMod : R2 := rI (fun _ j => 0 < j) fun i j => .int (i % j)
def rDiv : R2 := rI CDivW fun i j => .int (i / j)
def rPow : R2 := rI CPow fun i j => .int (i ^ j.toNat)
def rEqX (K : PySem.W.Frag) : R2 := fun x y H Q => rEq x y H Q ∨ rEqD K x y H Q
def rNeX (K : PySem.W.Frag) : R2 := fun x y H Q => rNe x y H Q ∨ rNeD K x y H Q
def rLt : R2 := rI0 fun i j => .bl (decide (i < j))
def rLe : R2 := rI0 fun i j => .bl (decide (i ≤ j))
def rGt : R2 := rI0 fun i j => .bl (decide (j < i))
def rGe : R2 := rI0 fun i j => .bl (decide (j ≤ i))
def rIsN : R2 := fun x y H Q => y = .non ∧ Q (.bl (decide (x = .non))) H
def rNotN : R2 := fun x y H Q => y = .non ∧ Q (.bl (!decide (x = .non))) H
section
variable {X : Cx}
theorem opAdd : OpR X (binaryOp .Add) (rAdd X.K) := op_add.or (op_add_str.or (op_cat.or op_catA))
theorem opMul : OpR X (binaryOp .Mult) (rMul X.K) := op_mul.or (op_mulX.or (op_repS.or op_rep))
theorem opSub : OpR X (binaryOp .Sub) rSub := op_sub
theorem opMod : OpR X (binaryOp .Mod) rMod := op_mod
theorem opDiv : OpR X (binaryOp .FloorDiv) rDiv := op_fdivW
theorem opPow : OpR X (binaryOp .Pow) rPow := op_pow
theorem opEq (hu : X.A.units + 64 < cLine) : OpR X (compareOp .Eq) (rEqX X.K) := op_eq.or (op_eqD hu)
theorem opNe (hu : X.A.units + 64 < cLine) : OpR X (compareOp .NotEq) (rNeX X.K) := op_ne.or (op_neD hu)
theorem opLt : OpR X (compareOp .Lt) rLt := op_lt
theorem opLe : OpR X (compareOp .LtE) rLe := op_le
theorem opGt : OpR X (compareOp .Gt) rGt := op_gt
theorem opGe : OpR X (compareOp .GtE) rGe := op_ge
theorem opIsN : OpR X (compareOp .Is) rIsN := op_isN
theorem opNotN : OpR X (compareOp .IsNot) rNotN := op_notN
def rInt : List V → Hp → VK → Prop := fun xs H Q => (∃ i, xs = [.int i] ∧ Q (.int i) H) ∨ ∃ k, xs = [.bl k] ∧ Q (.int (if k then 1 else 0)) H
def rAbs : List V → Hp → VK → Prop := fun xs H Q => ∃ i, xs = [.int i] ∧ Q (.int (if i < 0 then -i else i)) H
def rMax2 : List V → Hp → VK → Prop := fun xs H Q => ∃ i j, xs = [.int i, .int j] ∧ Q (.int (if j > i then j else i)) H
def rMin2 : List V → Hp → VK → Prop := fun xs H Q => ∃ i j, xs = [.int i, .int j] ∧ Q (.int (if j < i then j else i)) H
def rLen (K : PySem.W.Frag) : List V → Hp → VK → Prop := fun xs H Q => ∃ x n, xs = [x] ∧ LenV K x H n ∧ Q (.int n) H
def rListOf (K : PySem.W.Frag) : List V → Hp → VK → Prop := fun xs H Q => ∃ p ys, xs = [.ref p] ∧ (SqL K H p ys ∨ SqT K H p ys) ∧ ∀ l, H l = none → Q (.ref l) (upd H l (.lst ys))
def rStr : List V → Hp → VK → Prop := fun xs H Q => ∃ i, xs = [.int i] ∧ i.natAbs.log2 < 1920 ∧ Q (.str (toString i)) H
theorem callStr : CallR X (.type "str") rStr := call_str_int
theorem callInt : CallR X (.type "int") rInt := call_int1
theorem callAbs : CallR X (.builtin "abs") rAbs := call_abs
theorem callMax2 (hc : X.calm = true) : CallR X (.builtin "max") rMax2 := call_max2 hc
theorem callMin2 (hc : X.calm = true) : CallR X (.builtin "min") rMin2 := call_min2 hc
theorem callLen : CallR X (.builtin "len") (rLen X.K) := call_len
theorem callListOf : CallR X (.type "list") (rListOf X.K) := call_list_of
def rSlX (K : PySem.W.Frag) : V → Option Int → Option Int → Hp → VK → Prop := fun x lo hi H Q => rSlL K x lo hi H Q ∨ rSlS x lo hi H Q ∨ rSlA K x lo hi H Q
theorem slAny : SlR X (rSlX X.K) := sl_list.or (sl_str.or sl_tupA)
theorem hu64 {A : Around} {k : Nat} (hr : Room k A) : A.units + 64 < cLine := by
  have := hr.un
  omega
end

/-- the built-in names are not the module's own -/
structure Bl (mg : Str → Option Value) : Prop where
  abs : mg "abs" = none
  all : mg "all" = none
  any : mg "any" = none
  bool : mg "bool" = none
  dict : mg "dict" = none
  divmod : mg "divmod" = none
  enumerate : mg "enumerate" = none
  int : mg "int" = none
  isinstance : mg "isinstance" = none
  len : mg "len" = none
  list : mg "list" = none
  max : mg "max" = none
  min : mg "min" = none
  range : mg "range" = none
  repr : mg "repr" = none
  reversed : mg "reversed" = none
  sorted : mg "sorted" = none
  str : mg "str" = none
  sum : mg "sum" = none
  tuple : mg "tuple" = none
  zip : mg "zip" = none
  ValueError' : mg "ValueError" = none

/-! ### heaps -/
/-- what stood stands, but for what is in bs -/
def Imm (o : HO) : Prop := (∃ xs, o = .tup xs) ∨ (∃ a, o = .own a) ∨ ∃ C dx t, o = .ins C dx [("_budgets", .ref t)]
theorem Imm.lst {xs : List V} (h : Imm (.lst xs)) : False := by
  rcases h with ⟨_, h⟩ | ⟨_, h⟩ | ⟨_, _, _, h⟩ <;> cases h
class Chg (bs : outParam (List Addr)) (H : outParam Hp) (H' : Hp) : Prop where
  keep : ∀ a o, a ∉ bs → H a = some o → H' a = some o
  live : ∀ a, H' a = none → H a = none
  imm : ∀ a o, Imm o → H a = some o → H' a = some o
abbrev Ex (H : Hp) (H' : Hp) : Prop := Chg [] H H'
abbrev ExB (b : Addr) (H : Hp) (H' : Hp) : Prop := Chg [b] H H'
class Nw (H : outParam Hp) (p : Addr) : Prop where
  eq : H p = none
class At (H : Hp) (p : Addr) (o : outParam HO) : Prop where
  eq : H p = some o
class Live (H : Hp) (p : Addr) : Prop where
  ex : ∃ o, H p = some o
class NeC (p q : Addr) : Prop where
  ne : p ≠ q
class NotIn (p : Addr) (bs : List Addr) : Prop where
  out : p ∉ bs
class Anc (H H' : Hp) : Prop where
  none : ∀ a, H' a = none → H a = none
class Nu (H : Hp) (p : Addr) : Prop where
  eq : H p = none
class InNew (c : Addr) (bs : List Addr) (H : Hp) : Prop where
  or : c ∈ bs ∨ H c = none
class SubC (cs bs : List Addr) (H : Hp) : Prop where
  sub : ∀ c ∈ cs, c ∈ bs ∨ H c = none
class RelC (bs : List Addr) (H H' : Hp) : Prop where
  keep : ∀ a o, a ∉ bs → H a = some o → H' a = some o
  imm : ∀ a o, Imm o → H a = some o → H' a = some o
class SqC (K : PySem.W.Frag) (H : Hp) (p : Addr) (xs : outParam (List V)) : Prop where
  sq : SqL K H p xs
class StC (K : PySem.W.Frag) (H : Hp) (p : Addr) (xs : outParam (List V)) : Prop where
  st : SqT K H p xs
section
variable {H H' H1 H0 : Hp} {p q b c : Addr} {o : HO} {bs cs : List Addr} {K : PySem.W.Frag} {xs : List V}
instance : NotIn p [] := ⟨by simp⟩
instance [h : NeC p b] [k : NotIn p bs] : NotIn p (b :: bs) := ⟨by
  intro e
  rcases List.mem_cons.mp e with e | e
  · exact h.ne e
  · exact k.out e⟩
instance (priority := low) atStep [r : Chg cs H1 H] [n : NotIn p cs] [h : At H1 p o] : At H p o := ⟨r.keep p o n.out h.eq⟩
instance ancRefl : Anc H H := ⟨fun _ h => h⟩
instance (priority := low) ancStep [r : Chg cs H1 H'] [k : Anc H H1] : Anc H H' := ⟨fun a h => k.none a (r.live a h)⟩
instance nuOf [n : Nw H1 p] [k : Anc H H1] : Nu H p := ⟨k.none p n.eq⟩
instance liveAt [h : At H p o] : Live H p := ⟨⟨o, h.eq⟩⟩
instance (priority := low) liveStep [r : Chg cs H1 H] [h : Live H1 p] : Live H p := ⟨by
  cases e : H p with
  | none => obtain ⟨o, h⟩ := h.ex; rw [r.live p e] at h; cases h
  | some o => exact ⟨o, rfl⟩⟩
instance neNew [n : Nw H q] [h : Live H p] : NeC p q := ⟨by
  obtain ⟨o, h⟩ := h.ex
  intro e
  rw [e, n.eq] at h
  cases h⟩
instance neNew' [n : Nw H q] [h : Live H p] : NeC q p := ⟨(neNew (H := H)).ne.symm⟩
instance inHere : InNew c (c :: bs) H := ⟨.inl (List.mem_cons_self ..)⟩
instance (priority := low) inThere [h : InNew c bs H] : InNew c (b :: bs) H := ⟨h.or.imp (List.mem_cons_of_mem _) _root_.id⟩
instance inNew [h : Nu H c] : InNew c bs H := ⟨.inr h.eq⟩
instance : SubC [] bs H := ⟨by simp⟩
instance [h : InNew c bs H] [k : SubC cs bs H] : SubC (c :: cs) bs H := ⟨by
  intro d hd
  rcases List.mem_cons.mp hd with e | e
  · rw [e]; exact h.or
  · exact k.sub d e⟩
instance relRefl : RelC bs H H := ⟨fun _ _ _ h => h, fun _ _ _ h => h⟩
instance (priority := low) relStep [r : Chg cs H1 H'] [s : SubC cs bs H] [k : RelC bs H H1] : RelC bs H H' := ⟨fun a o n h => r.keep a o (fun hc => by
  rcases s.sub a hc with e | e
  · exact n e
  · rw [e] at h; cases h) (k.keep a o n h), fun a o i h => r.imm a o i (k.imm a o i h)⟩
theorem rel [r : RelC bs H H'] [k : Anc H H'] : Chg bs H H' := ⟨r.keep, k.none, r.imm⟩
theorem new [h : Nu H p] : Nw H p := ⟨h.eq⟩
theorem at_ [h : At H p o] : At H p o := h
theorem ne_ [h : NeC p q] : p ≠ q := h.ne
instance sqAt [h : At H p (.lst xs)] : SqC K H p xs := ⟨.inl (.inl h.eq)⟩
instance stAt [h : At H p (.tup xs)] : StC K H p xs := ⟨.inl (.inl h.eq)⟩
theorem Chg.rd {a : Addr} {u : HO} (e : Chg bs H H') (n : a ∉ bs) (h : Rd H a u) : Rd H' a u := by
  rcases h with h | ⟨o, h⟩
  · exact .inl (e.keep a _ n h)
  · exact .inr ⟨o, e.keep a _ n h⟩
theorem Chg.l {a : Addr} (e : Chg bs H H') (n : a ∉ bs) (h : SqL K H a xs) : SqL K H' a xs := by
  rcases h with h | h
  · exact .inl (e.rd n h)
  · exact .inr h
theorem Chg.t {a : Addr} (e : Chg bs H H') (n : a ∉ bs) (h : SqT K H a xs) : SqT K H' a xs := by
  rcases h with h | h
  · exact .inl (e.rd n h)
  · exact .inr h
instance (priority := low) sqStep [r : Chg cs H1 H] [n : NotIn p cs] [h : SqC K H1 p xs] : SqC K H p xs := ⟨r.l n.out h.sq⟩
instance (priority := low) stStep [r : Chg cs H1 H] [n : NotIn p cs] [h : StC K H1 p xs] : StC K H p xs := ⟨r.t n.out h.st⟩
theorem Chg.refl (bs : List Addr) (H : Hp) : Chg bs H H := ⟨fun _ _ _ h => h, fun _ h => h, fun _ _ _ h => h⟩
theorem Ex.refl (H : Hp) : Ex H H := Chg.refl _ H
theorem ExB.refl (b : Addr) (H : Hp) : ExB b H H := Chg.refl _ H
theorem Chg.trans {H1 H2 : Hp} (a : Chg bs H H1) (c : Chg bs H1 H2) : Chg bs H H2 := ⟨fun x o n h => c.keep x o n (a.keep x o n h), fun x h => a.live x (c.live x h), fun x o i h => c.imm x o i (a.imm x o i h)⟩
theorem Ex.l {a : Addr} (e : Ex H H') (h : SqL K H a xs) : SqL K H' a xs := Chg.l e (by simp) h
theorem Ex.t {a : Addr} (e : Ex H H') (h : SqT K H a xs) : SqT K H' a xs := Chg.t e (by simp) h
theorem ExB.l {a b : Addr} (e : ExB b H H') (n : a ≠ b) (h : SqL K H a xs) : SqL K H' a xs := Chg.l e (by simpa using n) h
theorem Ex.mk (h : H p = none) : Ex H (upd H p o) := ⟨fun a u _ e => by
  rw [upd_ne (ne_of_none e h)]
  exact e, fun a e => by
  by_cases z : a = p
  · rw [z]; exact h
  · rw [upd_ne z] at e; exact e, fun a u _ e => by
  rw [upd_ne (ne_of_none e h)]
  exact e⟩
theorem ExB.upd (h : H b = some (.lst xs)) : ExB b H (upd H b o) := ⟨fun a u n e => by
  rw [upd_ne (by simpa using n)]
  exact e, fun a e => by
  by_cases z : a = b
  · rw [z, upd_same] at e; cases e
  · rw [upd_ne z] at e; exact e, fun a u i e => by
  by_cases z : a = b
  · rw [z, h] at e
    cases e
    exact i.lst.elim
  · rw [upd_ne z]; exact e⟩
instance (priority := low) atTup [r : Chg cs H1 H] [h : At H1 p (.tup xs)] : At H p (.tup xs) := ⟨r.imm p _ (.inl ⟨xs, rfl⟩) h.eq⟩
/-- a Round of these budgets at a -/
class RdC (C : outParam Addr) (H : Hp) (a : Addr) (bs : outParam (List Int)) : Prop where
  ex : ∃ dx t, H a = some (.ins C dx [("_budgets", .ref t)]) ∧ H t = some (.tup (bs.map V.int))
instance (priority := low) rdStep {C a : Addr} {bs : List Int} [r : Chg cs H1 H] [h : RdC C H1 a bs] : RdC C H a bs := ⟨by
  obtain ⟨dx, t, h1, h2⟩ := h.ex
  exact ⟨dx, t, r.imm _ _ (.inr (.inr ⟨_, _, _, rfl⟩)) h1, r.imm _ _ (.inl ⟨_, rfl⟩) h2⟩⟩
theorem rd_live {C a : Addr} {bs : List Int} (h : RdC C H a bs) : Live H a := ⟨by
  obtain ⟨dx, t, h1, h2⟩ := h.ex
  exact ⟨_, h1⟩⟩
end

/-! ### steps of a reading -/
section
variable {K : PySem.W.Frag} {σ : L2.St} {H H1 H2 : Hp} {Q : VK} {QB : Bool → Hp → Prop} {QL : List V → Hp → Prop} {v x y : V} {i j : Nat} {te ta tb : TE} {tt tu : TT} {tl tr : TA} {r : R2} {D : Ends} {t u : TS} {b c : Bool} {sp : Sp} {dvs : List V} {E : XK}
theorem g_var (h : σ[i]? = some (some v)) (q : Q v H) : tVar i σ H Q := ⟨v, h, q⟩
theorem g_c (q : Q v H) : tC v σ H Q := q
theorem g_op (q : ta σ H fun x H1 => tb σ H1 fun y H2 => r x y H2 Q) : tOp r ta tb σ H Q := q
theorem g_un {r : V → Hp → VK → Prop} (q : ta σ H fun x H1 => r x H1 Q) : tUn r ta σ H Q := q
theorem g_test (q : te σ H fun x H' => ∃ k, x = .bl k ∧ QB k H') : tTest te σ H QB := q
theorem g_tB (q : te σ H fun x H' => ∃ k, x = .bl k ∧ QB k H') : tB te σ H QB := q
theorem g_not (q : tt σ H fun c H1 => QB (!c) H1) : tNot tt σ H QB := q
theorem g_and (q : tt σ H fun c H1 => if c = true then tu σ H1 QB else QB false H1) : tAnd tt tu σ H QB := q
theorem g_or (q : tt σ H fun c H1 => if c = true then QB true H1 else tu σ H1 QB) : tOr tt tu σ H QB := q
theorem g_notV (q : te σ H fun x H1 => ∃ c, x = .bl c ∧ Q (.bl (!c)) H1) : tNotV te σ H Q := q
theorem g_andV (q : ta σ H fun x H1 => ∃ c, x = .bl c ∧ if c = true then tb σ H1 Q else Q (.bl false) H1) : tAndV ta tb σ H Q := q
theorem g_orV (q : ta σ H fun x H1 => ∃ c, x = .bl c ∧ if c = true then Q (.bl true) H1 else tb σ H1 Q) : tOrV ta tb σ H Q := q
theorem g_if (q : tt σ H fun c H1 => if c = true then ta σ H1 Q else tb σ H1 Q) : tIf tt ta tb σ H Q := q
theorem g_ifs (q : tt σ H fun c H1 => if c = true then t D σ H1 else u D σ H1) : tIfS tt t u D σ H := q
theorem g_ex {R : Bool → Prop} (q : R b) : ∃ k, V.bl b = .bl k ∧ R k := ⟨b, rfl, q⟩
theorem g_seq (q : t { D with nx := u D } σ H) : tSeq t u D σ H := q
theorem g_seqM {a : L2.St → Hp → Prop} {rt : VK} {bk ct : L2.St → Hp → Prop} (q : t (Ends.mk (u (Ends.mk a rt bk ct)) rt bk ct) σ H) : tSeq t u (Ends.mk a rt bk ct) σ H := q
theorem g_asg (q : te σ H fun x H1 => D.nx (σ.set i (some x)) H1) : tAsg te (gName i) D σ H := q
theorem g_asgG {g : TG} (q : te σ H fun x H1 => g x σ H1 D.nx) : tAsg te g D σ H := q
theorem g_ret (q : te σ H D.rt) : tRet te D σ H := q
theorem g_drop (q : te σ H fun _ H1 => D.nx σ H1) : tDrop te D σ H := q
theorem g_next (q : D.nx σ H) : tNext D σ H := q
theorem g_nx {a : L2.St → Hp → Prop} {rt : VK} {bk ct : L2.St → Hp → Prop} (q : a σ H) : (Ends.mk a rt bk ct).nx σ H := q
theorem g_rt {a : L2.St → Hp → Prop} {rt : VK} {bk ct : L2.St → Hp → Prop} (q : rt v H) : (Ends.mk a rt bk ct).rt v H := q
theorem g_call (q : tl σ H fun vs H1 => sp (vs ++ dvs) H1 Q E) : tCall sp dvs E tl σ H Q := q
theorem g_cons (q : te σ H fun x H1 => tl σ H1 fun xs H2 => QL (x :: xs) H2) : tCons te tl σ H QL := q
theorem g_nil (q : QL [] H) : tNil σ H QL := q
theorem g_cb {r : List V → Hp → VK → Prop} (q : tl σ H fun vs H1 => r vs H1 Q) : tCB r tl σ H Q := q
theorem g_lst (q : tl σ H fun xs H1 => xs.length ≤ sizeLine ∧ ∀ p, H1 p = none → Q (.ref p) (upd H1 p (.lst xs))) : tLst tl σ H Q := q
theorem g_tup (q : tl σ H fun xs H1 => xs.length ≤ sizeLine ∧ ∀ p, H1 p = none → Q (.ref p) (upd H1 p (.tup xs))) : tTup tl σ H Q := q
theorem g_sz {n : Nat} {R : Prop} (h : n ≤ 100000) (q : R) : n ≤ sizeLine ∧ R := ⟨Nat.le_trans h (by decide), q⟩
theorem g_len {y : V} {n : Nat} (h : LenV K y H n) (q : Q (.int n) H) : rLen K [y] H Q := ⟨y, n, rfl, h, q⟩
theorem len_l {p : Addr} {xs : List V} [h : SqC K H p xs] : LenV K (.ref p) H xs.length := .inl ⟨xs, h.sq, rfl⟩
theorem len_t {p : Addr} {xs : List V} [h : StC K H p xs] : LenV K (.ref p) H xs.length := .inr ⟨xs, h.st, rfl⟩
theorem len_s {z : Str} (h : z.length ≤ 100000) : LenV K (.str z) H z.length := ⟨Nat.le_trans h (by decide), rfl⟩
theorem g_int {i : Int} (q : Q (.int i) H) : rInt [V.int i] H Q := .inl ⟨i, rfl, q⟩
theorem g_intB {k : Bool} (q : Q (.int (if k then 1 else 0)) H) : rInt [V.bl k] H Q := .inr ⟨k, rfl, q⟩
theorem g_abs {i : Int} (q : Q (.int (if i < 0 then -i else i)) H) : rAbs [V.int i] H Q := ⟨i, rfl, q⟩
theorem g_max2 {i j : Int} (q : Q (.int (if j > i then j else i)) H) : rMax2 [V.int i, .int j] H Q := ⟨i, j, rfl, q⟩
theorem g_min2 {i j : Int} (q : Q (.int (if j < i then j else i)) H) : rMin2 [V.int i, .int j] H Q := ⟨i, j, rfl, q⟩
theorem g_ixL {p : Addr} {xs : List V} {i : Int} [h : SqC K H p xs] (a : atI xs i = some v) (q : Q v H) : rIx K (.ref p) (.int i) H Q := .inl ⟨p, xs, i, v, rfl, rfl, h.sq, a, q⟩
theorem g_ixT {p : Addr} {xs : List V} {i : Int} [h : StC K H p xs] (a : atI xs i = some v) (q : Q v H) : rIx K (.ref p) (.int i) H Q := .inr (.inl ⟨p, xs, i, v, rfl, rfl, h.st, a, q⟩)
theorem g_ixI {p : Addr} {ns : List Int} {i : Int} [h : SqC K H p (ns.map V.int)] (h0 : 0 ≤ i) (h1 : i < (ns.length : Int)) (q : Q (.int (ns.getD i.toNat 0)) H) : rIx K (.ref p) (.int i) H Q := by
  refine g_ixL ?_ q
  obtain ⟨j, rfl⟩ : ∃ j : Nat, i = (j : Int) := ⟨i.toNat, by omega⟩
  refine atI_nat ?_
  have h2 : j < ns.length := by omega
  rw [List.getElem?_map, List.getElem?_eq_getElem h2, Option.map_some, Int.toNat_natCast, List.getD_eq_getElem?_getD, List.getElem?_eq_getElem h2, Option.getD_some]
theorem g_ixS {z : Str} {i : Int} {c : Nat} (h : z.length ≤ 100000) (a : atI z.cps.toList i = some c) (q : Q (.str ⟨#[c]⟩) H) : rIx K (.str z) (.int i) H Q := .inr (.inr ⟨z, i, c, rfl, rfl, Nat.le_trans h (by decide), a, q⟩)
theorem g_gsub {to ti : TE} {ts : TSet} {R : L2.St → Hp → Prop} (q : to σ H fun o H1 => ti σ H1 fun i H2 => ts o i v H2 fun H3 => R σ H3) : gSub to ti ts v σ H R := q
theorem g_set {p : Addr} {xs : List V} {k : Int} {j : Nat} {R : Hp → Prop} [h : At H p (.lst xs)] (hj : ixN xs.length k = some j) (q : ∀ H2, ExB p H H2 → At H2 p (.lst (xs.set j v)) → R H2) : rSetL (.ref p) (.int k) v H R :=
  ⟨p, xs, k, j, rfl, rfl, h.eq, hj, q _ (ExB.upd h.eq) ⟨upd_same⟩⟩
theorem g_sl {r : V → Option Int → Option Int → Hp → VK → Prop} {t1 t2 : TO} (q : te σ H fun x H1 => t1 σ H1 fun l H2 => t2 σ H2 fun u H3 => r x l u H3 Q) : tSl r te t1 t2 σ H Q := q
theorem g_noPart {R : Option Int → Hp → Prop} (q : R none H) : tNoPart σ H R := q
theorem g_part {R : Option Int → Hp → Prop} (q : te σ H fun x H1 => ∃ i, x = .int i ∧ R (some i) H1) : tPart te σ H R := q
theorem g_exI {i : Int} {R : Int → Prop} (q : R i) : ∃ k, V.int i = .int k ∧ R k := ⟨i, rfl, q⟩
theorem g_bm {T : String} {r : V → List V → Hp → VK → Prop} (q : te σ H fun x H1 => tyV K T x H1 ∧ tl σ H1 fun xs H2 => r x xs H2 Q) : tBM K T r te tl σ H Q := q
theorem g_bm0 {T : String} {r : V → List V → Hp → VK → Prop} (q : te σ H fun x H1 => tyV K T x H1 ∧ r x [] H1 Q) : tBM0 K T r te σ H Q := q
theorem g_tyL {p : Addr} {xs : List V} {R : Prop} [h : SqC K H p xs] (q : R) : tyV K "list" (.ref p) H ∧ R := ⟨.inl ⟨rfl, xs, h.sq⟩, q⟩
theorem g_tyS {z : Str} {R : Prop} (q : R) : tyV K "str" (.str z) H ∧ R := ⟨rfl, q⟩
theorem g_app {p : Addr} {xs : List V} [h : At H p (.lst xs)] (hz : xs.length < 100000) (q : ∀ H2, ExB p H H2 → At H2 p (.lst (xs ++ [v])) → Q .non H2) : rAppend (.ref p) [v] H Q :=
  ⟨p, xs, v, rfl, rfl, h.eq, Nat.lt_of_lt_of_le hz (by decide), q _ (ExB.upd h.eq) ⟨upd_same⟩⟩
theorem g_new {o : HO} {R : Addr → Hp → Prop} (q : ∀ p H2, Nw H p → Ex H H2 → At H2 p o → R p H2) : ∀ p, H p = none → R p (upd H p o) := fun p hp => q p _ ⟨hp⟩ (Ex.mk hp) ⟨upd_same⟩

theorem g_I0 {g : Int → Int → V} {i j : Int} (q : Q (g i j) H) : rI0 g (.int i) (.int j) H Q := ⟨i, j, rfl, rfl, q⟩
theorem g_add {i j : Int} (q : Q (.int (i + j)) H) : rAdd K (.int i) (.int j) H Q := .inl ⟨i, j, rfl, rfl, q⟩
theorem g_addS {a b : Str} (h : a.length + b.length ≤ 100000) (q : Q (.str (a ++ b)) H) : rAdd K (.str a) (.str b) H Q := .inr (.inl ⟨a, b, rfl, rfl, Nat.le_trans h (by decide), q⟩)
theorem g_mulL {i j : Int} (h : -(2 ^ 64) < i ∧ i < 2 ^ 64) (q : Q (.int (i * j)) H) : rMul K (.int i) (.int j) H Q := .inl ⟨i, j, rfl, rfl, .inl h, q⟩
theorem g_mulR {i j : Int} (h : -(2 ^ 64) < j ∧ j < 2 ^ 64) (q : Q (.int (i * j)) H) : rMul K (.int i) (.int j) H Q := .inl ⟨i, j, rfl, rfl, .inr h, q⟩
theorem g_mulX {i j : Int} (h : CMulX i j) (q : Q (.int (i * j)) H) : rMul K (.int i) (.int j) H Q := .inr (.inl ⟨i, j, rfl, rfl, h, q⟩)
theorem g_mulS {z : Str} {n : Int} (h : n < 2 ^ 40 ∧ -(2 ^ 40) ≤ n ∧ z.length * n.toNat ≤ 100000) (q : Q (.str (repS z n.toNat)) H) : rMul K (.str z) (.int n) H Q := .inr (.inr (.inl ⟨z, n, rfl, rfl, h, q⟩))
theorem g_sub {i j : Int} (q : Q (.int (i - j)) H) : rSub (.int i) (.int j) H Q := ⟨i, j, rfl, rfl, q⟩
theorem g_mod {i j : Int} (h : 0 < j) (q : Q (.int (i % j)) H) : rMod (.int i) (.int j) H Q := ⟨i, j, rfl, rfl, h, q⟩
theorem g_div {i j : Int} (h : CDivW i j) (q : Q (.int (i / j)) H) : rDiv (.int i) (.int j) H Q := ⟨i, j, rfl, rfl, h, q⟩
theorem cpow_ok {i j : Int} (h1 : 0 ≤ j) (h2 : j ≤ 1000000) (h3 : i.natAbs < 2 ^ 64) : CPow i j := ⟨h1, h2, h3⟩
theorem g_pow {i j k : Int} (h : CPow i j) (e : i ^ j.toNat = k) (q : Q (.int k) H) : rPow (.int i) (.int j) H Q := ⟨i, j, rfl, rfl, h, by show Q (.int (i ^ j.toNat)) H; rw [e]; exact q⟩
theorem g_lt {i j : Int} (q : Q (.bl (decide (i < j))) H) : rLt (.int i) (.int j) H Q := ⟨i, j, rfl, rfl, q⟩
theorem g_le {i j : Int} (q : Q (.bl (decide (i ≤ j))) H) : rLe (.int i) (.int j) H Q := ⟨i, j, rfl, rfl, q⟩
theorem g_gt {i j : Int} (q : Q (.bl (decide (j < i))) H) : rGt (.int i) (.int j) H Q := ⟨i, j, rfl, rfl, q⟩
theorem g_ge {i j : Int} (q : Q (.bl (decide (j ≤ i))) H) : rGe (.int i) (.int j) H Q := ⟨i, j, rfl, rfl, q⟩
theorem dI {i j : Int} : decide (V.int i = V.int j) = decide (i = j) := by
  by_cases h : i = j <;> simp [h]
theorem dB {i j : Bool} : decide (V.bl i = V.bl j) = (i == j) := dec_bl
theorem dS {i j : Str} : decide (V.str i = V.str j) = decide (i = j) := by
  by_cases h : i = j <;> simp [h]
theorem g_eq {i j : Int} (q : Q (.bl (decide (i = j))) H) : rEqX K (.int i) (.int j) H Q := .inl ⟨rfl, by rw [dI]; exact q⟩
theorem g_ne {i j : Int} (q : Q (.bl (!decide (i = j))) H) : rNeX K (.int i) (.int j) H Q := .inl ⟨rfl, by rw [dI]; exact q⟩
theorem g_eqB {i j : Bool} (q : Q (.bl (i == j)) H) : rEqX K (.bl i) (.bl j) H Q := .inl ⟨rfl, by rw [dB]; exact q⟩
theorem g_neB {i j : Bool} (q : Q (.bl (!(i == j))) H) : rNeX K (.bl i) (.bl j) H Q := .inl ⟨rfl, by rw [dB]; exact q⟩
theorem g_eqS {i j : Str} (q : Q (.bl (decide (i = j))) H) : rEqX K (.str i) (.str j) H Q := .inl ⟨rfl, by rw [dS]; exact q⟩
theorem g_neS {i j : Str} (q : Q (.bl (!decide (i = j))) H) : rNeX K (.str i) (.str j) H Q := .inl ⟨rfl, by rw [dS]; exact q⟩
theorem g_isN (q : Q (.bl (decide (x = .non))) H) : rIsN x .non H Q := ⟨rfl, q⟩
theorem g_notN (q : Q (.bl (!decide (x = .non))) H) : rNotN x .non H Q := ⟨rfl, q⟩

theorem g_ite {p : Prop} {_ : Decidable p} {A B : Prop} (h1 : p → A) (h2 : ¬ p → B) : if decide p = true then A else B := by
  by_cases h : p
  · rw [if_pos (decide_eq_true h)]; exact h1 h
  · rw [if_neg (by rw [decide_eq_false h]; exact Bool.false_ne_true)]; exact h2 h
theorem g_iteN {p : Prop} {_ : Decidable p} {A B : Prop} (h1 : ¬ p → A) (h2 : p → B) : if (!decide p) = true then A else B := by
  by_cases h : p
  · rw [if_neg (by rw [decide_eq_true h]; exact Bool.false_ne_true)]; exact h2 h
  · rw [if_pos (by rw [decide_eq_false h]; rfl)]; exact h1 h
theorem iteNT {A B : Prop} (h : A) : if (!false) = true then A else B := iteT h
theorem iteNF {A B : Prop} (h : B) : if (!true) = true then A else B := iteF h
theorem g_itB {A B : Prop} (h1 : b = true → A) (h2 : b = false → B) : if b = true then A else B := by
  cases b
  · rw [if_neg Bool.false_ne_true]; exact h2 rfl
  · rw [if_pos rfl]; exact h1 rfl
theorem g_itNB {A B : Prop} (h1 : b = false → A) (h2 : b = true → B) : if (!b) = true then A else B := by
  cases b
  · exact iteT (h1 rfl)
  · exact iteF (h2 rfl)
end


/-! ### steps found by their head -/
/-- G follows from G' -/
class Step (G : Prop) (G' : outParam Prop) : Prop where
  run : G' → G
class Look (σ : L2.St) (i : Nat) (v : outParam V) : Prop where
  at_ : σ[i]? = some (some v)
instance {v : V} {σ : L2.St} : Look (some v :: σ) 0 v := ⟨rfl⟩
instance {a : Option V} {σ : L2.St} {i : Nat} {v : V} [h : Look σ i v] : Look (a :: σ) (i + 1) v := ⟨by simpa using h.at_⟩
class SetL (σ : L2.St) (i : Nat) (x : Option V) (τ : outParam L2.St) : Prop where
  eq : σ.set i x = τ
instance {a x : Option V} {σ : L2.St} : SetL (a :: σ) 0 x (x :: σ) := ⟨rfl⟩
instance {a x : Option V} {σ τ : L2.St} {i : Nat} [h : SetL σ i x τ] : SetL (a :: σ) (i + 1) x (a :: τ) := ⟨by rw [← h.eq]; rfl⟩
section
variable {K : PySem.W.Frag} {σ τ : L2.St} {H H1 H2 : Hp} {Q : VK} {QB : Bool → Hp → Prop} {QL : List V → Hp → Prop} {v x y : V} {i j : Nat} {te ta tb : TE} {tt tu : TT} {tl tr : TA} {r : R2} {D : Ends} {t u : TS} {b c : Bool} {sp : Sp} {dvs : List V} {E : XK}
instance [h : Look σ i v] : Step (tVar i σ H Q) (Q v H) := ⟨g_var h.at_⟩
instance : Step (tC v σ H Q) (Q v H) := ⟨g_c⟩
instance : Step (tOp r ta tb σ H Q) (ta σ H fun x H1 => tb σ H1 fun y H2 => r x y H2 Q) := ⟨g_op⟩
instance {r : V → Hp → VK → Prop} : Step (tUn r ta σ H Q) (ta σ H fun x H1 => r x H1 Q) := ⟨g_un⟩
instance : Step (tTest te σ H QB) (te σ H fun x H' => ∃ k, x = .bl k ∧ QB k H') := ⟨g_test⟩
instance : Step (tB te σ H QB) (te σ H fun x H' => ∃ k, x = .bl k ∧ QB k H') := ⟨g_tB⟩
instance : Step (tNot tt σ H QB) (tt σ H fun c H1 => QB (!c) H1) := ⟨g_not⟩
instance : Step (tAnd tt tu σ H QB) (tt σ H fun c H1 => if c = true then tu σ H1 QB else QB false H1) := ⟨g_and⟩
instance : Step (tOr tt tu σ H QB) (tt σ H fun c H1 => if c = true then QB true H1 else tu σ H1 QB) := ⟨g_or⟩
instance : Step (tNotV te σ H Q) (te σ H fun x H1 => ∃ c, x = .bl c ∧ Q (.bl (!c)) H1) := ⟨g_notV⟩
instance : Step (tAndV ta tb σ H Q) (ta σ H fun x H1 => ∃ c, x = .bl c ∧ if c = true then tb σ H1 Q else Q (.bl false) H1) := ⟨g_andV⟩
instance : Step (tOrV ta tb σ H Q) (ta σ H fun x H1 => ∃ c, x = .bl c ∧ if c = true then Q (.bl true) H1 else tb σ H1 Q) := ⟨g_orV⟩
instance : Step (tIf tt ta tb σ H Q) (tt σ H fun c H1 => if c = true then ta σ H1 Q else tb σ H1 Q) := ⟨g_if⟩
instance : Step (tIfS tt t u D σ H) (tt σ H fun c H1 => if c = true then t D σ H1 else u D σ H1) := ⟨g_ifs⟩
instance {R : Bool → Prop} : Step (∃ k, V.bl b = .bl k ∧ R k) (R b) := ⟨g_ex⟩
instance {i : Int} {R : Int → Prop} : Step (∃ k, V.int i = .int k ∧ R k) (R i) := ⟨g_exI⟩
instance : Step (tSeq t u D σ H) (t { D with nx := u D } σ H) := ⟨g_seq⟩
instance (priority := high) {a : L2.St → Hp → Prop} {rt : VK} {bk ct : L2.St → Hp → Prop} : Step (tSeq t u (Ends.mk a rt bk ct) σ H) (t (Ends.mk (u (Ends.mk a rt bk ct)) rt bk ct) σ H) := ⟨g_seqM⟩
instance : Step (tAsg te (gName i) D σ H) (te σ H fun x H1 => gName i x σ H1 D.nx) := ⟨fun q => q⟩
instance {R : L2.St → Hp → Prop} [h : SetL σ i (some v) τ] : Step (gName i v σ H R) (R τ H) := ⟨fun q => by show R _ H; rw [h.eq]; exact q⟩
instance : Step (tRet te D σ H) (te σ H D.rt) := ⟨g_ret⟩
instance : Step (tRetN D σ H) (D.rt .non H) := ⟨fun q => q⟩
instance : Step (tDrop te D σ H) (te σ H fun _ H1 => D.nx σ H1) := ⟨g_drop⟩
instance : Step (tNext D σ H) (D.nx σ H) := ⟨g_next⟩
instance : Step (tBreak D σ H) (D.bk σ H) := ⟨fun q => q⟩
instance : Step (tCont D σ H) (D.ct σ H) := ⟨fun q => q⟩
instance {a : L2.St → Hp → Prop} {rt : VK} {bk ct : L2.St → Hp → Prop} : Step ((Ends.mk a rt bk ct).nx σ H) (a σ H) := ⟨g_nx⟩
instance {a : L2.St → Hp → Prop} {rt : VK} {bk ct : L2.St → Hp → Prop} : Step ((Ends.mk a rt bk ct).rt v H) (rt v H) := ⟨g_rt⟩
instance {a : L2.St → Hp → Prop} {rt : VK} {bk ct : L2.St → Hp → Prop} : Step ((Ends.mk a rt bk ct).bk σ H) (bk σ H) := ⟨fun q => q⟩
instance {a : L2.St → Hp → Prop} {rt : VK} {bk ct : L2.St → Hp → Prop} : Step ((Ends.mk a rt bk ct).ct σ H) (ct σ H) := ⟨fun q => q⟩
instance : Step (tCall sp dvs E tl σ H Q) (tl σ H fun vs H1 => sp (vs ++ dvs) H1 Q E) := ⟨g_call⟩
instance : Step (tCons te tl σ H QL) (te σ H fun x H1 => tl σ H1 fun xs H2 => QL (x :: xs) H2) := ⟨g_cons⟩
instance : Step (tNil σ H QL) (QL [] H) := ⟨g_nil⟩
instance {n m : Nat} {gV : List V → List V → List V} : Step (tCallN n m sp gV E tl tr σ H Q) (tl σ H fun vs H1 => tr σ H1 fun zs H2 => vs.length = n ∧ zs.length = m ∧ sp (gV vs zs) H2 Q E) := ⟨fun q => q⟩
instance {r : List V → Hp → VK → Prop} : Step (tCB r tl σ H Q) (tl σ H fun vs H1 => r vs H1 Q) := ⟨g_cb⟩
def rNewL (xs : List V) (H1 : Hp) (Q : VK) : Prop := xs.length ≤ sizeLine ∧ ∀ p, H1 p = none → Q (.ref p) (upd H1 p (.lst xs))
def rNewT (xs : List V) (H1 : Hp) (Q : VK) : Prop := xs.length ≤ sizeLine ∧ ∀ p, H1 p = none → Q (.ref p) (upd H1 p (.tup xs))
theorem g_newL {xs : List V} (hz : xs.length ≤ 100000) (q : ∀ p H2, Nw H p → Ex H H2 → At H2 p (.lst xs) → Q (.ref p) H2) : rNewL xs H Q := ⟨Nat.le_trans hz (by decide), fun p hp => q p _ ⟨hp⟩ (Ex.mk hp) ⟨upd_same⟩⟩
theorem g_newT {xs : List V} (hz : xs.length ≤ 100000) (q : ∀ p H2, Nw H p → Ex H H2 → At H2 p (.tup xs) → Q (.ref p) H2) : rNewT xs H Q := ⟨Nat.le_trans hz (by decide), fun p hp => q p _ ⟨hp⟩ (Ex.mk hp) ⟨upd_same⟩⟩
instance : Step (tLst tl σ H Q) (tl σ H fun xs H1 => rNewL xs H1 Q) := ⟨g_lst⟩
instance : Step (tTup tl σ H Q) (tl σ H fun xs H1 => rNewT xs H1 Q) := ⟨g_tup⟩
instance {i j : Int} : Step (rAdd K (.int i) (.int j) H Q) (Q (.int (i + j)) H) := ⟨g_add⟩
instance {i j : Int} : Step (rSub (.int i) (.int j) H Q) (Q (.int (i - j)) H) := ⟨g_sub⟩
instance {i j : Int} : Step (rLt (.int i) (.int j) H Q) (Q (.bl (decide (i < j))) H) := ⟨g_lt⟩
instance {i j : Int} : Step (rLe (.int i) (.int j) H Q) (Q (.bl (decide (i ≤ j))) H) := ⟨g_le⟩
instance {i j : Int} : Step (rGt (.int i) (.int j) H Q) (Q (.bl (decide (j < i))) H) := ⟨g_gt⟩
instance {i j : Int} : Step (rGe (.int i) (.int j) H Q) (Q (.bl (decide (j ≤ i))) H) := ⟨g_ge⟩
instance {i j : Int} : Step (rEqX K (.int i) (.int j) H Q) (Q (.bl (decide (i = j))) H) := ⟨g_eq⟩
instance {i j : Int} : Step (rNeX K (.int i) (.int j) H Q) (Q (.bl (!decide (i = j))) H) := ⟨g_ne⟩
instance {i j : Bool} : Step (rEqX K (.bl i) (.bl j) H Q) (Q (.bl (i == j)) H) := ⟨g_eqB⟩
instance {i j : Bool} : Step (rNeX K (.bl i) (.bl j) H Q) (Q (.bl (!(i == j))) H) := ⟨g_neB⟩
instance {i j : Str} : Step (rEqX K (.str i) (.str j) H Q) (Q (.bl (decide (i = j))) H) := ⟨g_eqS⟩
instance {i j : Str} : Step (rNeX K (.str i) (.str j) H Q) (Q (.bl (!decide (i = j))) H) := ⟨g_neS⟩
theorem g_isNn (q : Q (.bl true) H) : rIsN .non .non H Q := ⟨rfl, q⟩
theorem g_notNn (q : Q (.bl false) H) : rNotN .non .non H Q := ⟨rfl, q⟩
instance : Step (rIsN .non .non H Q) (Q (.bl true) H) := ⟨g_isNn⟩
instance : Step (rNotN .non .non H Q) (Q (.bl false) H) := ⟨g_notNn⟩
instance {i : Int} : Step (rIsN (.int i) .non H Q) (Q (.bl false) H) := ⟨fun q => ⟨rfl, q⟩⟩
instance {i : Int} : Step (rNotN (.int i) .non H Q) (Q (.bl true) H) := ⟨fun q => ⟨rfl, q⟩⟩
instance {p : Addr} : Step (rIsN (.ref p) .non H Q) (Q (.bl false) H) := ⟨fun q => ⟨rfl, q⟩⟩
instance {p : Addr} : Step (rNotN (.ref p) .non H Q) (Q (.bl true) H) := ⟨fun q => ⟨rfl, q⟩⟩
instance {z : Str} : Step (rIsN (.str z) .non H Q) (Q (.bl false) H) := ⟨fun q => ⟨rfl, q⟩⟩
instance {z : Str} : Step (rNotN (.str z) .non H Q) (Q (.bl true) H) := ⟨fun q => ⟨rfl, q⟩⟩
instance {i : Int} : Step (rInt [V.int i] H Q) (Q (.int i) H) := ⟨g_int⟩
instance {k : Bool} : Step (rInt [V.bl k] H Q) (Q (.int (if k then 1 else 0)) H) := ⟨g_intB⟩
instance {i : Int} : Step (rAbs [V.int i] H Q) (Q (.int (if i < 0 then -i else i)) H) := ⟨g_abs⟩
instance {i j : Int} : Step (rMax2 [V.int i, .int j] H Q) (Q (.int (if j > i then j else i)) H) := ⟨g_max2⟩
instance {i j : Int} : Step (rMin2 [V.int i, .int j] H Q) (Q (.int (if j < i then j else i)) H) := ⟨g_min2⟩
instance {g : Int → V} {i : Int} : Step (rU g (.int i) H Q) (Q (g i) H) := ⟨fun q => ⟨i, rfl, q⟩⟩
instance {to ti : TE} {ts : TSet} {R : L2.St → Hp → Prop} : Step (gSub to ti ts v σ H R) (to σ H fun o H1 => ti σ H1 fun i H2 => ts o i v H2 fun H3 => R σ H3) := ⟨g_gsub⟩
instance (priority := low) {g : TG} : Step (tAsg te g D σ H) (te σ H fun x H1 => g x σ H1 D.nx) := ⟨g_asgG⟩
instance {r : V → Option Int → Option Int → Hp → VK → Prop} {t1 t2 : TO} : Step (tSl r te t1 t2 σ H Q) (te σ H fun x H1 => t1 σ H1 fun l H2 => t2 σ H2 fun u H3 => r x l u H3 Q) := ⟨g_sl⟩
instance {R : Option Int → Hp → Prop} : Step (tNoPart σ H R) (R none H) := ⟨g_noPart⟩
instance {R : Option Int → Hp → Prop} : Step (tPart te σ H R) (te σ H fun x H1 => ∃ i, x = .int i ∧ R (some i) H1) := ⟨g_part⟩
instance {T : String} {r : V → List V → Hp → VK → Prop} : Step (tBM K T r te tl σ H Q) (te σ H fun x H1 => tyV K T x H1 ∧ tl σ H1 fun xs H2 => r x xs H2 Q) := ⟨g_bm⟩
instance {T : String} {r : V → List V → Hp → VK → Prop} : Step (tBM0 K T r te σ H Q) (te σ H fun x H1 => tyV K T x H1 ∧ r x [] H1 Q) := ⟨g_bm0⟩
instance {z : Str} {R : Prop} : Step (tyV K "str" (.str z) H ∧ R) R := ⟨g_tyS⟩
instance {A B : Prop} : Step (if true = true then A else B) A := ⟨iteT⟩
instance {A B : Prop} : Step (if false = true then A else B) B := ⟨iteF⟩
instance {A B : Prop} : Step (if (!false) = true then A else B) A := ⟨iteNT⟩
instance {A B : Prop} : Step (if (!true) = true then A else B) B := ⟨iteNF⟩
end

/-! ### enumerate(text) -/
def Itse (x : Str) : It :=
  ⟨fun i _ => i < x.cps.size, fun i H v H' => ∃ T c, v = .ref T ∧ H T = none ∧ H' = upd H T (.tup [.int (i : Nat), .str ⟨#[c]⟩]) ∧ x.cps[i]? = some c, fun i _ => x.cps.size ≤ i⟩
theorem turn_enumS {P : Program} {w : World} {K : PySem.W.Frag} {elts : List Expr} {kk : Nat} {tpos : Pos} (x : Str) (t : Tok) (e it : Addr) (hne : e ≠ it) :
    Turn P w K (.Tuple elts kk tpos) (Itse x) [e, it] e (fun i h => ((∃ old, IsEnum h e it ((i : Nat) : Int) old) ∧ h.IsStrIter it (strIterType x) x t i) ∧ i ≤ x.cps.size) where
  mem := by simp
  obj := fun i h st b hb => by
    obtain ⟨⟨⟨old, he⟩, o, ho, hc, hd⟩, hle⟩ := st
    have e' : b = e ∨ b = it := by simpa using hb
    rcases e' with z | z
    · rw [z]; exact ⟨_, he, fun v q => nomatch q⟩
    · rw [z]; exact ⟨o, ho, fun v q => by rw [hd] at q; cases q⟩
  keep := fun i h h' st k => by
    obtain ⟨⟨⟨old, he⟩, o, ho, r⟩, hle⟩ := st
    exact ⟨⟨⟨old, k e (by simp) _ he⟩, o, k it (by simp) o ho, r⟩, hle⟩
  item := by
    intro X hP hw hK hc i pins s σ H E I hf st hg
    subst hP hw hK
    obtain ⟨⟨⟨old, he⟩, hit⟩, hle⟩ := st
    have hlt : i < x.cps.size := hg
    have hel : e < s.heap.objs.size := Heap.lt_size he
    have hil : it < s.heap.objs.size := by obtain ⟨_, q, _⟩ := hit; exact Heap.lt_size q
    have D := Draws.text (prog := X.prog) (w := X.w) (A := X.A.in1) (I.ok.hd hc) it x t
    refine wpAny_pyNext_enum_itemD D he hit hlt hne (by simpa using hne) fun v h' tk hv ho hit' hT hsz hk => ?_
    obtain ⟨c, u, hcx, rfl⟩ := hv
    refine ⟨_, rfl, wpAny_letOwnedTupleGo_enum (s := { s with heap := h', toks := tk + 1 }) ho fun h'' he' sb => ?_⟩
    have hT2 : h''.get? s.heap.objs.size = some { cls := .type "tuple", data := .seq #[.int i tk, .str ⟨#[c]⟩ u] } := (sb.2 _ (Nat.ne_of_gt hel)).trans hT
    have new : ObjOk X.prog X.w (upd H s.heap.objs.size (.tup [.int (i : Nat), .str ⟨#[c]⟩])) h'' s.heap.objs.size (.tup [.int (i : Nat), .str ⟨#[c]⟩]) :=
      ⟨by show 2 ≤ sizeLine; decide, [.int i tk, .str ⟨#[c]⟩ u], .cons ⟨_, rfl⟩ (.cons ⟨_, rfl⟩ .nil), ⟨_, hT2, rfl, _, rfl⟩⟩
    have I1 : Inv X pins σ (upd H s.heap.objs.size (.tup [.int (i : Nat), .str ⟨#[c]⟩])) { s with heap := h'', toks := tk + 1 } :=
      I.turnedNew (ch := [e, it]) (fun b ob hb q => (sb.2 b (fun z => hb (by simp [z]))).trans (hk b ob (fun z => hb (by simp [z])) (fun z => hb (by simp [z])) q)) hf (Nat.le_refl _) new
    refine ⟨.ref s.heap.objs.size, _, I1, rfl, ⟨_, c, rfl, I.hok.fresh (Nat.le_refl _), rfl, hcx⟩, ⟨⟨⟨.str ⟨#[c]⟩ u, ?_⟩, ?_⟩, hlt⟩, fun b hb => ?_⟩
    · have e1 : ((i + 1 : Nat) : Int) = (i : Int) + 1 := by omega
      rw [e1]; exact he'
    · obtain ⟨o, e1, r⟩ := hit'
      exact ⟨o, (sb.2 it (Ne.symm hne)).trans e1, r⟩
    · have hb' : b < s.heap.objs.size := by
        have e' : b = e ∨ b = it := by simpa using hb
        rcases e' with z | z
        · rw [z]; exact hel
        · rw [z]; exact hil
      rw [upd_ne (Nat.ne_of_lt hb')]
      exact (hf b hb).1
  done := by
    intro X hP hw hK hc i pins s σ H E I hf st hg
    subst hP hw hK
    obtain ⟨⟨⟨old, he⟩, hit⟩, hle⟩ := st
    have hge : x.cps.size ≤ i := hg
    obtain ⟨f0, f1, f2, f3, f4, f5⟩ := hf it (by simp)
    have ei : i = x.cps.size := Nat.le_antisymm hle hge
    subst ei
    have D := Draws.text (prog := X.prog) (w := X.w) (A := X.A.in1) (I.ok.hd hc) it x t
    exact wpAny_pyNext_enum_endD D he hit fun h' eb => ⟨rfl, I.turned (t' := s.toks) (fun b o hb q => eb b o hb q) f0 f1 f3 f4 f5⟩
  self := fun A i s Q E st h => let ⟨⟨⟨_, he⟩, _⟩, _⟩ := st; wpAny_pyIter_enum he h
def iEnumS (ta : TA) : TI := fun σ H R => ta σ H fun vs H1 => ∃ x, vs = [.str x] ∧ R (Itse x) H1
theorem pi_enumS {X : Cx} {e : Expr} {ta : TA} {p pos tpos : Pos} {elts : List Expr} {kk : Nat} (hg : Gl X "enumerate") (hm : X.mg "enumerate" = none) (ha : PA X [e] ta) (hs : starEach [e] X.env = [(false, eval e X.env)] := by rfl) :
    PI X (.Tuple elts kk tpos) (.Call (.Name "enumerate" p) [e] [] pos) (iEnumS ta) := by
  refine ⟨fun pins s σ H R I h => ?_⟩
  refine Call_ (ld_blt I hg hm boot_enumerate (PyProof.Rows.callWith_type1 (thn (ha.run pos pins s σ H _ I h) fun us s1 ⟨vs, H1, I1, r1, q1⟩ => ?_) hs rfl))
  obtain ⟨x, ex, q⟩ := q1
  subst ex
  cases r1 with
  | cons r rr =>
    cases rr
    obtain ⟨t, rfl⟩ := r
    refine call_enumerate_str fun h' he hit hsz hk => wpAny_pyIter_enum he ?_
    have I2 : Inv X pins σ H1 { s1 with heap := h' } := I1.kept (t' := s1.toks) hk
    refine ⟨s1.heap.objs.size + 1, [s1.heap.objs.size + 1, s1.heap.objs.size], _, _, H1, rfl, I2, turn_enumS x t (s1.heap.objs.size + 1) s1.heap.objs.size (Nat.succ_ne_self _), ⟨⟨⟨.none, he⟩, hit⟩, Nat.zero_le _⟩, fun b hb => ?_, q⟩
    have e' : b = s1.heap.objs.size + 1 ∨ b = s1.heap.objs.size := by simpa using hb
    have hle : s1.heap.objs.size ≤ b := by
      rcases e' with z | z
      · rw [z]; exact Nat.le_add_right _ _
      · rw [z]; exact Nat.le_refl _
    exact I1.fpOk hle (I1.hok.fresh hle)
/-! ### loops -/
section
variable {K : PySem.W.Frag} {σ τ : L2.St} {H : Hp} {Q : VK} {j : Nat} {ta : TA} {te tl : TE} {tt : TT} {D : Ends} {tb : TS} {g : TG}
/-- any iterator told by what it gives: n items, where S stands, the i-th as Y tells -/
structure Feeds (J : It) (n : Nat) (S : Hp → Prop) (Y : Nat → Hp → V → Hp → Prop) : Prop where
  go : ∀ i H, S H → i < n → J.go i H
  yld : ∀ i H x H', S H → i < n → J.yld i H x H' → Y i H x H'
  stop : ∀ H, S H → J.stop n H
abbrev ForW (J : It) (g : TG) (tb : TS) (D : Ends) (σ : L2.St) (H : Hp) : Prop := ∃ W : Nat → Nat → L2.St → Hp → Prop, (∃ m, W 0 m σ H) ∧ ∀ i m σ H, W i m σ H →
      (J.stop i H ∧ D.nx σ H) ∨ (J.go i H ∧ ∃ N : L2.St → Hp → Prop, (∀ σ' H', N σ' H' → ∃ m', m' < m ∧ W (i + 1) m' σ' H') ∧ ∀ v H', J.yld i H v H' → g v σ H' fun σ2 H2 => tb { D with nx := N, ct := N, bk := D.nx } σ2 H2)
abbrev LcW (J : It) (g : TG) (tt : TT) (te : TE) (vs : List Nat) (σ : L2.St) (H : Hp) (Q : VK) : Prop := ∀ D, H D = none → ∃ W : Nat → Nat → Hp → Prop, (∃ m, W 0 m (upd H D (.lst []))) ∧ ∀ i m H, W i m H →
      (J.stop i H ∧ Q (.ref D) H) ∨ (J.go i H ∧ ∃ Nx : Hp → Prop, (∀ H', Nx H' → ∃ m', m' < m ∧ W (i + 1) m' H') ∧ ∀ x H', J.yld i H x H' → g x (wipe σ vs) H' fun σ2 H2 => wipe σ2 vs = wipe σ vs ∧ tt σ2 H2 fun b H3 =>
        if b = true then te σ2 H3 fun y H4 => ∃ acc, H4 D = some (.lst acc) ∧ acc.length < sizeLine ∧ Nx (upd H4 D (.lst (acc ++ [y]))) else Nx H3)
/-- the invariant: what is not in bs stands as it stood at H, and Pv -/
def LI (bs : List Addr) (H : Hp) (Pv : L2.St → Hp → Prop) : L2.St → Hp → Prop := fun σ' H' => Chg bs H H' ∧ Pv σ' H'
theorem li {bs : List Addr} {H H' : Hp} {Pv : L2.St → Hp → Prop} {σ' : L2.St} [r : RelC bs H H'] [k : Anc H H'] (h : Pv σ' H') : LI bs H Pv σ' H' := ⟨rel, h⟩
theorem for_feeds {J : It} {n : Nat} {S : Hp → Prop} {Y : Nat → Hp → V → Hp → Prop} (F : Feeds J n S Y) (bs : List Addr) (Pv : Nat → L2.St → Hp → Prop) (h0 : Pv 0 σ H) (hS : ∀ H', Chg bs H H' → S H')
    (hs : ∀ (i : Nat) σ' H' x H'', i < n → Chg bs H H' → Pv i σ' H' → Y i H' x H'' → g x σ' H'' fun σ2 H2 => tb { D with nx := LI bs H (Pv (i + 1)), ct := LI bs H (Pv (i + 1)), bk := D.nx } σ2 H2) (hd : ∀ σ' H', Chg bs H H' → Pv n σ' H' → D.nx σ' H') :
    ForW J g tb D σ H := by
  refine ⟨fun i m σ' H' => m = n - i ∧ i ≤ n ∧ LI bs H (Pv i) σ' H', ⟨n, rfl, Nat.zero_le _, Chg.refl _ _, h0⟩, ?_⟩
  rintro i m σ' H' ⟨rfl, hi, r, p⟩
  have q := hS H' r
  by_cases hlt : i < n
  · exact .inr ⟨F.go i H' q hlt, LI bs H (Pv (i + 1)), fun σ' H' p' => ⟨n - (i + 1), by omega, rfl, hlt, p'⟩, fun v H'' y => hs i σ' H' v H'' hlt r p (F.yld i H' v H'' q hlt y)⟩
  · have e : i = n := by omega
    subst e
    exact .inl ⟨F.stop H' q, hd σ' H' r p⟩
/-- within a comprehension: the list made so far, at D -/
def rW (D : Addr) (P : List V → Hp → Prop) (H' : Hp) : Prop := ∃ acc, H' D = some (.lst acc) ∧ P acc H'
def rApp (D : Addr) (W : Hp → Prop) (y : V) (H4 : Hp) : Prop := ∃ acc, H4 D = some (.lst acc) ∧ acc.length < sizeLine ∧ W (upd H4 D (.lst (acc ++ [y])))
theorem g_rapp {D : Addr} {P : List V → Hp → Prop} {y : V} {acc : List V} {H4 : Hp} [h : At H4 D (.lst acc)] (hz : acc.length < 100000) (q : ∀ H5, ExB D H4 H5 → At H5 D (.lst (acc ++ [y])) → P (acc ++ [y]) H5) : rApp D (rW D P) y H4 :=
  ⟨acc, h.eq, Nat.lt_of_lt_of_le hz (by decide), _, upd_same, q _ (ExB.upd h.eq) ⟨upd_same⟩⟩
theorem g_rW {D : Addr} {P : List V → Hp → Prop} {acc : List V} {H4 : Hp} [h : At H4 D (.lst acc)] (q : P acc H4) : rW D P H4 := ⟨acc, h.eq, q⟩
class Wipe (σ : L2.St) (vs : List Nat) (τ : outParam L2.St) : Prop where
  eq : wipe σ vs = τ
instance : Wipe σ [] σ := ⟨rfl⟩
instance {v : Nat} {vs : List Nat} {ρ : L2.St} [h : Wipe σ vs ρ] [k : SetL ρ v none τ] : Wipe σ (v :: vs) τ := ⟨by show (wipe σ vs).set v none = τ; rw [h.eq, k.eq]⟩
instance {QB : Bool → Hp → Prop} : Step (tYes σ H QB) (QB true H) := ⟨fun q => q⟩
theorem lc_feeds {J : It} {n : Nat} {S : Hp → Prop} {Y : Nat → Hp → V → Hp → Prop} {vs : List Nat} (F : Feeds J n S Y) (bs : List Addr) (Pv : Addr → Nat → List V → Hp → Prop) [hw : Wipe σ vs τ]
    (h0 : ∀ D H1, Nw H D → Ex H H1 → At H1 D (.lst []) → Pv D 0 [] H1) (hS : ∀ H', Chg bs H H' → S H')
    (hs : ∀ D (i : Nat) acc H' x H'', i < n → Nw H D → Chg bs H H' → At H' D (.lst acc) → Pv D i acc H' → Y i H' x H'' → g x τ H'' fun σ2 H2 => wipe σ2 vs = τ ∧ tt σ2 H2 fun b H3 =>
      if b = true then te σ2 H3 (rApp D (rW D fun ac H5 => Chg bs H H5 ∧ Pv D (i + 1) ac H5)) else rW D (fun ac H5 => Chg bs H H5 ∧ Pv D (i + 1) ac H5) H3)
    (hd : ∀ D acc H', Nw H D → Chg bs H H' → At H' D (.lst acc) → Pv D n acc H' → Q (.ref D) H') : LcW J g tt te vs σ H Q := by
  intro D hD
  refine ⟨fun i m H' => m = n - i ∧ i ≤ n ∧ rW D (fun ac H5 => Chg bs H H5 ∧ Pv D i ac H5) H', ⟨n, rfl, Nat.zero_le _, [], upd_same, ⟨fun a o _ h => (Ex.mk hD).keep a o (by simp) h, (Ex.mk hD).live, (Ex.mk hD).imm⟩, h0 D _ ⟨hD⟩ (Ex.mk hD) ⟨upd_same⟩⟩, ?_⟩
  rintro i m H' ⟨rfl, hi, acc, e, r, p⟩
  have q := hS H' r
  by_cases hlt : i < n
  · refine .inr ⟨F.go i H' q hlt, rW D (fun ac H5 => Chg bs H H5 ∧ Pv D (i + 1) ac H5), fun H' p' => ⟨n - (i + 1), by omega, rfl, hlt, p'⟩, fun v H'' y => ?_⟩
    rw [hw.eq]
    exact hs D i acc H' v H'' hlt ⟨hD⟩ r ⟨e⟩ p (F.yld i H' v H'' q hlt y)
  · have e' : i = n := by omega
    subst e'
    exact .inl ⟨F.stop H' q, hd D acc H' ⟨hD⟩ r ⟨e⟩ p⟩
/-- the items come out as F tells -/
theorem lc_F {J : It} {n : Nat} {S : Hp → Prop} {Y : Nat → Hp → V → Hp → Prop} {vs : List Nat} (Fd : Feeds J n S Y) (F : Nat → List V) [hw : Wipe σ vs τ] (hF : F 0 = []) (hS : ∀ H', Ex H H' → S H') (hz : ∀ i, i < n → (F i).length < 100000)
    (hs : ∀ D (i : Nat) H' x H'', i < n → Nw H D → Ex H H' → At H' D (.lst (F i)) → (F i).length < 100000 → Y i H' x H'' → g x τ H'' fun σ2 H2 => wipe σ2 vs = τ ∧ tt σ2 H2 fun b H3 =>
      if b = true then te σ2 H3 (rApp D (rW D fun ac H5 => Ex H H5 ∧ ac = F (i + 1))) else rW D (fun ac H5 => Ex H H5 ∧ ac = F (i + 1)) H3)
    (hd : ∀ D H', Nw H D → Ex H H' → At H' D (.lst (F n)) → Q (.ref D) H') : LcW J g tt te vs σ H Q :=
  lc_feeds Fd [] (fun _ i acc _ => acc = F i) (fun _ H1 _ _ _ => hF.symm) hS (fun D i acc H' x H'' hi hD e hp p y => by
    subst p
    exact hs D i H' x H'' hi hD e hp (hz i hi) y) (fun D acc H' hD e hp p => by
    subst p
    exact hd D H' hD e hp)
/-- each item is as P tells -/
theorem lc_A {J : It} {n : Nat} {S : Hp → Prop} {Y : Nat → Hp → V → Hp → Prop} {vs : List Nat} (Fd : Feeds J n S Y) (P : V → Prop) [hw : Wipe σ vs τ] (hS : ∀ H', Ex H H' → S H') (hz : n ≤ 100000)
    (hs : ∀ D (i : Nat) acc H' x H'', i < n → Nw H D → Ex H H' → At H' D (.lst acc) → acc.length < 100000 → Y i H' x H'' → g x τ H'' fun σ2 H2 => wipe σ2 vs = τ ∧ tt σ2 H2 fun b H3 =>
      if b = true then te σ2 H3 (rApp D (rW D fun ac H5 => Ex H H5 ∧ ∃ v, ac = acc ++ [v] ∧ P v)) else rW D (fun ac H5 => Ex H H5 ∧ ∃ v, ac = acc ++ [v] ∧ P v) H3)
    (hd : ∀ D acc H', Nw H D → Ex H H' → At H' D (.lst acc) → acc.length = n → (∀ v ∈ acc, P v) → Q (.ref D) H') : LcW J g tt te vs σ H Q := by
  intro D hD
  refine ⟨fun i m H' => m = n - i ∧ i ≤ n ∧ ∃ acc, H' D = some (.lst acc) ∧ acc.length = i ∧ (∀ v ∈ acc, P v) ∧ Ex H H', ⟨n, rfl, Nat.zero_le _, [], upd_same, rfl, by simp, Ex.mk hD⟩, ?_⟩
  rintro i m H' ⟨rfl, hi, acc, e, hl, hP, ex⟩
  have q := hS H' ex
  by_cases hlt : i < n
  · refine .inr ⟨Fd.go i H' q hlt, rW D (fun ac H5 => Ex H H5 ∧ ∃ v, ac = acc ++ [v] ∧ P v), fun H' p' => ?_, fun v H'' y => ?_⟩
    · obtain ⟨ac, e1, e2, v, rfl, hv⟩ := p'
      refine ⟨n - (i + 1), by omega, rfl, hlt, acc ++ [v], e1, by simp [hl], fun u hu => ?_, e2⟩
      rcases List.mem_append.mp hu with h | h
      · exact hP u h
      · rw [List.mem_singleton.mp h]; exact hv
    · rw [hw.eq]
      exact hs D i acc H' v H'' hlt ⟨hD⟩ ex ⟨e⟩ (by omega) (Fd.yld i H' v H'' q hlt y)
  · have e' : i = n := by omega
    subst e'
    exact .inl ⟨Fd.stop H' q, hd D acc H' ⟨hD⟩ ex ⟨e⟩ hl hP⟩
/-! what each kind gives -/
theorem fd_rng {lo : Int} {n : Nat} : Feeds (Itr lo n) n (fun _ => True) (fun i H x H' => H' = H ∧ x = .int (lo + (i : Nat))) := ⟨fun _ _ _ h => h, fun _ _ _ _ _ _ y => y, fun _ _ => Nat.le_refl _⟩
theorem fd_list {a : Addr} {xs : List V} : Feeds (Itl K a) xs.length (fun H => SqL K H a xs) (fun i H x H' => H' = H ∧ xs[i]? = some x) :=
  ⟨fun i H s h => ⟨xs, xs[i], s, List.getElem?_eq_getElem h⟩, fun i H x H' s _ y => ⟨y.1, y.2 xs s⟩, fun H s => ⟨xs, s, Nat.le_refl _⟩⟩
theorem fd_tup {a : Addr} {xs : List V} : Feeds (Itt K a) xs.length (fun H => SqT K H a xs) (fun i H x H' => H' = H ∧ xs[i]? = some x) :=
  ⟨fun i H s h => ⟨xs, xs[i], s, List.getElem?_eq_getElem h⟩, fun i H x H' s _ y => ⟨y.1, y.2 xs s⟩, fun H s => ⟨xs, s, Nat.le_refl _⟩⟩
def Pair (H : Hp) (x : V) (H' : Hp) (a b : V) : Prop := ∃ T, x = .ref T ∧ Nw H T ∧ Ex H H' ∧ At H' T (.tup [a, b])
theorem pair_mk {H : Hp} {T : Addr} {a b : V} (h : H T = none) : Pair H (.ref T) (upd H T (.tup [a, b])) a b := ⟨T, rfl, ⟨h⟩, Ex.mk h, ⟨upd_same⟩⟩
theorem fd_enumS {z : Str} : Feeds (Itse z) z.cps.size (fun _ => True) (fun i H x H' => ∃ c, z.cps[i]? = some c ∧ Pair H x H' (.int (i : Nat)) (.str ⟨#[c]⟩)) :=
  ⟨fun _ _ _ h => h, fun i H x H' _ _ y => by
    obtain ⟨T, c, rfl, h, rfl, hc⟩ := y
    exact ⟨c, hc, pair_mk h⟩, fun _ _ => Nat.le_refl _⟩
theorem fd_str {z : Str} : Feeds (Its z) z.cps.size (fun _ => True) (fun i H x H' => H' = H ∧ ∃ c, z.cps[i]? = some c ∧ x = .str ⟨#[c]⟩) := ⟨fun _ _ _ h => h, fun _ _ _ _ _ _ y => y, fun _ _ => Nat.le_refl _⟩
theorem fd_enum {a : Addr} {xs : List V} : Feeds (Ite K a) xs.length (fun H => SqL K H a xs) (fun i H x H' => ∃ c, xs[i]? = some c ∧ Pair H x H' (.int (i : Nat)) c) :=
  ⟨fun i H s h => ⟨xs, xs[i], s, List.getElem?_eq_getElem h⟩, fun i H x H' s _ y => by
    obtain ⟨T, c, rfl, h, rfl, hc⟩ := y
    exact ⟨c, hc xs s, pair_mk h⟩, fun H s => ⟨xs, s, Nat.le_refl _⟩⟩
theorem fd_zip {a b : Addr} {xs ys : List V} {n : Nat} (hn : min xs.length ys.length = n) : Feeds (Itz K a b) n (fun H => SqL K H a xs ∧ SqL K H b ys) (fun i H x H' => ∃ c d, xs[i]? = some c ∧ ys[i]? = some d ∧ Pair H x H' c d) :=
  ⟨fun i H s h => ⟨xs, ys, xs[i]'(by omega), ys[i]'(by omega), s.1, s.2, List.getElem?_eq_getElem _, List.getElem?_eq_getElem _⟩, fun i H x H' s _ y => by
    obtain ⟨T, c, d, rfl, h, rfl, hc, hd⟩ := y
    exact ⟨c, d, hc xs s.1, hd ys s.2, pair_mk h⟩, fun H s => ⟨xs, ys, s.1, s.2, by omega⟩⟩
/-! the heads -/
def rFor1 (vs : List V) (g : TG) (tb : TS) (D : Ends) (σ : L2.St) (H : Hp) : Prop := tFor (iRng1 fun _ H R => R vs H) g tb D σ H
def rFor2 (vs : List V) (g : TG) (tb : TS) (D : Ends) (σ : L2.St) (H : Hp) : Prop := tFor (iRng2 fun _ H R => R vs H) g tb D σ H
def rForL (K : PySem.W.Frag) (v : V) (g : TG) (tb : TS) (D : Ends) (σ : L2.St) (H : Hp) : Prop := tFor (iList K fun _ H R => R v H) g tb D σ H
def rForT (K : PySem.W.Frag) (v : V) (g : TG) (tb : TS) (D : Ends) (σ : L2.St) (H : Hp) : Prop := tFor (iTup K fun _ H R => R v H) g tb D σ H
def rForE (vs : List V) (g : TG) (tb : TS) (D : Ends) (σ : L2.St) (H : Hp) : Prop := tFor (iEnumS fun _ H R => R vs H) g tb D σ H
def rForS (v : V) (g : TG) (tb : TS) (D : Ends) (σ : L2.St) (H : Hp) : Prop := tFor (iStr fun _ H R => R v H) g tb D σ H
def rForEL (K : PySem.W.Frag) (vs : List V) (g : TG) (tb : TS) (D : Ends) (σ : L2.St) (H : Hp) : Prop := tFor (iEnum K fun _ H R => R vs H) g tb D σ H
def rForZ (K : PySem.W.Frag) (vs : List V) (g : TG) (tb : TS) (D : Ends) (σ : L2.St) (H : Hp) : Prop := tFor (iZip K fun _ H R => R vs H) g tb D σ H
instance : Step (tFor (iRng1 ta) g tb D σ H) (ta σ H fun vs H1 => rFor1 vs g tb D σ H1) := ⟨fun q => q⟩
instance : Step (tFor (iRng2 ta) g tb D σ H) (ta σ H fun vs H1 => rFor2 vs g tb D σ H1) := ⟨fun q => q⟩
instance : Step (tFor (iList K tl) g tb D σ H) (tl σ H fun v H1 => rForL K v g tb D σ H1) := ⟨fun q => q⟩
instance : Step (tFor (iTup K tl) g tb D σ H) (tl σ H fun v H1 => rForT K v g tb D σ H1) := ⟨fun q => q⟩
instance : Step (tFor (iEnumS ta) g tb D σ H) (ta σ H fun vs H1 => rForE vs g tb D σ H1) := ⟨fun q => q⟩
instance : Step (tFor (iStr tl) g tb D σ H) (tl σ H fun v H1 => rForS v g tb D σ H1) := ⟨fun q => q⟩
instance : Step (tFor (iEnum K ta) g tb D σ H) (ta σ H fun vs H1 => rForEL K vs g tb D σ H1) := ⟨fun q => q⟩
instance : Step (tFor (iZip K ta) g tb D σ H) (ta σ H fun vs H1 => rForZ K vs g tb D σ H1) := ⟨fun q => q⟩
def rLc1 (us : List V) (g : TG) (tt : TT) (te : TE) (vs : List Nat) (σ : L2.St) (H : Hp) (Q : VK) : Prop := tLc (iRng1 fun _ H R => R us H) g tt te vs σ H Q
def rLc2 (us : List V) (g : TG) (tt : TT) (te : TE) (vs : List Nat) (σ : L2.St) (H : Hp) (Q : VK) : Prop := tLc (iRng2 fun _ H R => R us H) g tt te vs σ H Q
def rLcL (K : PySem.W.Frag) (v : V) (g : TG) (tt : TT) (te : TE) (vs : List Nat) (σ : L2.St) (H : Hp) (Q : VK) : Prop := tLc (iList K fun _ H R => R v H) g tt te vs σ H Q
def rLcT (K : PySem.W.Frag) (v : V) (g : TG) (tt : TT) (te : TE) (vs : List Nat) (σ : L2.St) (H : Hp) (Q : VK) : Prop := tLc (iTup K fun _ H R => R v H) g tt te vs σ H Q
def rLcE (us : List V) (g : TG) (tt : TT) (te : TE) (vs : List Nat) (σ : L2.St) (H : Hp) (Q : VK) : Prop := tLc (iEnumS fun _ H R => R us H) g tt te vs σ H Q
def rLcS (v : V) (g : TG) (tt : TT) (te : TE) (vs : List Nat) (σ : L2.St) (H : Hp) (Q : VK) : Prop := tLc (iStr fun _ H R => R v H) g tt te vs σ H Q
def rLcEL (K : PySem.W.Frag) (us : List V) (g : TG) (tt : TT) (te : TE) (vs : List Nat) (σ : L2.St) (H : Hp) (Q : VK) : Prop := tLc (iEnum K fun _ H R => R us H) g tt te vs σ H Q
def rLcZ (K : PySem.W.Frag) (us : List V) (g : TG) (tt : TT) (te : TE) (vs : List Nat) (σ : L2.St) (H : Hp) (Q : VK) : Prop := tLc (iZip K fun _ H R => R us H) g tt te vs σ H Q
instance {vs : List Nat} : Step (tLc (iRng1 ta) g tt te vs σ H Q) (ta σ H fun us H1 => rLc1 us g tt te vs σ H1 Q) := ⟨fun q => q⟩
instance {vs : List Nat} : Step (tLc (iRng2 ta) g tt te vs σ H Q) (ta σ H fun us H1 => rLc2 us g tt te vs σ H1 Q) := ⟨fun q => q⟩
instance {vs : List Nat} : Step (tLc (iList K tl) g tt te vs σ H Q) (tl σ H fun v H1 => rLcL K v g tt te vs σ H1 Q) := ⟨fun q => q⟩
instance {vs : List Nat} : Step (tLc (iTup K tl) g tt te vs σ H Q) (tl σ H fun v H1 => rLcT K v g tt te vs σ H1 Q) := ⟨fun q => q⟩
instance {vs : List Nat} : Step (tLc (iEnumS ta) g tt te vs σ H Q) (ta σ H fun us H1 => rLcE us g tt te vs σ H1 Q) := ⟨fun q => q⟩
instance {vs : List Nat} : Step (tLc (iStr tl) g tt te vs σ H Q) (tl σ H fun v H1 => rLcS v g tt te vs σ H1 Q) := ⟨fun q => q⟩
instance {vs : List Nat} : Step (tLc (iEnum K ta) g tt te vs σ H Q) (ta σ H fun us H1 => rLcEL K us g tt te vs σ H1 Q) := ⟨fun q => q⟩
instance {vs : List Nat} : Step (tLc (iZip K ta) g tt te vs σ H Q) (ta σ H fun us H1 => rLcZ K us g tt te vs σ H1 Q) := ⟨fun q => q⟩
/-! loops by kind: bs is what the turns may change, Pv the invariant -/
theorem for1 {n : Int} (bs : List Addr) (Pv : Nat → L2.St → Hp → Prop) (hn : -(2 ^ 62) ≤ n ∧ n < 2 ^ 62) (h0 : Pv 0 σ H)
    (hs : ∀ (i : Nat) σ' H', (i : Int) < n → Chg bs H H' → Pv i σ' H' → g (.int (i : Int)) σ' H' fun σ2 H2 => tb { D with nx := LI bs H (Pv (i + 1)), ct := LI bs H (Pv (i + 1)), bk := D.nx } σ2 H2)
    (hd : ∀ σ' H', Chg bs H H' → Pv n.toNat σ' H' → D.nx σ' H') : rFor1 [.int n] g tb D σ H :=
  ⟨n, rfl, hn.1, hn.2, for_feeds (fd_rng (lo := 0)) bs Pv h0 (fun _ _ => trivial) (fun i σ' H' x H'' hi r p y => by
    obtain ⟨rfl, rfl⟩ := y
    rw [Int.zero_add]
    exact hs i σ' _ (by omega) r p) hd⟩
theorem for2 {a n : Int} (bs : List Addr) (Pv : Nat → L2.St → Hp → Prop) (hn : -(2 ^ 62) ≤ a ∧ a < 2 ^ 62 ∧ -(2 ^ 62) ≤ n ∧ n < 2 ^ 62) (h0 : Pv 0 σ H)
    (hs : ∀ (i : Nat) σ' H', a + (i : Int) < n → Chg bs H H' → Pv i σ' H' → g (.int (a + (i : Int))) σ' H' fun σ2 H2 => tb { D with nx := LI bs H (Pv (i + 1)), ct := LI bs H (Pv (i + 1)), bk := D.nx } σ2 H2)
    (hd : ∀ σ' H', Chg bs H H' → Pv (n - a).toNat σ' H' → D.nx σ' H') : rFor2 [.int a, .int n] g tb D σ H :=
  ⟨a, n, rfl, hn, for_feeds (fd_rng (lo := a)) bs Pv h0 (fun _ _ => trivial) (fun i σ' H' x H'' hi r p y => by
    obtain ⟨rfl, rfl⟩ := y
    exact hs i σ' _ (by omega) r p) hd⟩
theorem forL {a : Addr} {xs : List V} (bs : List Addr) (Pv : Nat → L2.St → Hp → Prop) [hx : SqC K H a xs] [hn : NotIn a bs] (h0 : Pv 0 σ H)
    (hs : ∀ (i : Nat) x σ' H', xs[i]? = some x → Chg bs H H' → Pv i σ' H' → g x σ' H' fun σ2 H2 => tb { D with nx := LI bs H (Pv (i + 1)), ct := LI bs H (Pv (i + 1)), bk := D.nx } σ2 H2)
    (hd : ∀ σ' H', Chg bs H H' → Pv xs.length σ' H' → D.nx σ' H') : rForL K (.ref a) g tb D σ H :=
  ⟨a, rfl, ⟨xs, hx.sq⟩, for_feeds fd_list bs Pv h0 (fun _ r => r.l hn.out hx.sq) (fun i σ' H' x H'' hi r p y => by
    obtain ⟨rfl, y⟩ := y
    exact hs i x σ' _ y r p) hd⟩
theorem forT {a : Addr} {xs : List V} (bs : List Addr) (Pv : Nat → L2.St → Hp → Prop) [hx : StC K H a xs] [hn : NotIn a bs] (h0 : Pv 0 σ H)
    (hs : ∀ (i : Nat) x σ' H', xs[i]? = some x → Chg bs H H' → Pv i σ' H' → g x σ' H' fun σ2 H2 => tb { D with nx := LI bs H (Pv (i + 1)), ct := LI bs H (Pv (i + 1)), bk := D.nx } σ2 H2)
    (hd : ∀ σ' H', Chg bs H H' → Pv xs.length σ' H' → D.nx σ' H') : rForT K (.ref a) g tb D σ H :=
  ⟨a, rfl, ⟨xs, hx.st⟩, for_feeds fd_tup bs Pv h0 (fun _ r => r.t hn.out hx.st) (fun i σ' H' x H'' hi r p y => by
    obtain ⟨rfl, y⟩ := y
    exact hs i x σ' _ y r p) hd⟩
theorem forZ {a b : Addr} {xs ys : List V} (bs : List Addr) (n : Nat) (Pv : Nat → L2.St → Hp → Prop) [hx : SqC K H a xs] [hy : SqC K H b ys] [hna : NotIn a bs] [hnb : NotIn b bs] (hn : min xs.length ys.length = n) (h0 : Pv 0 σ H)
    (hs : ∀ (i : Nat) c d x σ' H' H'', i < n → xs[i]? = some c → ys[i]? = some d → Chg bs H H' → Pv i σ' H' → Pair H' x H'' c d → g x σ' H'' fun σ2 H2 => tb { D with nx := LI bs H (Pv (i + 1)), ct := LI bs H (Pv (i + 1)), bk := D.nx } σ2 H2)
    (hd : ∀ σ' H', Chg bs H H' → Pv n σ' H' → D.nx σ' H') : rForZ K [.ref a, .ref b] g tb D σ H :=
  ⟨a, b, xs, ys, rfl, hx.sq, hy.sq, for_feeds (fd_zip hn) bs Pv h0 (fun _ r => ⟨r.l hna.out hx.sq, r.l hnb.out hy.sq⟩) (fun i σ' H' x H'' hi r p y => by
    obtain ⟨c, d, h1, h2, y⟩ := y
    exact hs i c d x σ' H' H'' hi h1 h2 r p y) hd⟩
theorem forEL {a : Addr} {xs : List V} (bs : List Addr) (Pv : Nat → L2.St → Hp → Prop) [hx : SqC K H a xs] [hn : NotIn a bs] (h0 : Pv 0 σ H)
    (hs : ∀ (i : Nat) c x σ' H' H'', xs[i]? = some c → Chg bs H H' → Pv i σ' H' → Pair H' x H'' (.int (i : Nat)) c → g x σ' H'' fun σ2 H2 => tb { D with nx := LI bs H (Pv (i + 1)), ct := LI bs H (Pv (i + 1)), bk := D.nx } σ2 H2)
    (hd : ∀ σ' H', Chg bs H H' → Pv xs.length σ' H' → D.nx σ' H') : rForEL K [.ref a] g tb D σ H :=
  ⟨a, xs, rfl, hx.sq, for_feeds fd_enum bs Pv h0 (fun _ r => r.l hn.out hx.sq) (fun i σ' H' x H'' hi r p y => by
    obtain ⟨c, h1, y⟩ := y
    exact hs i c x σ' H' H'' h1 r p y) hd⟩
/-! comprehensions by kind: _F what comes out is F, _A each item is as P tells -/
theorem lc1_F {vs : List Nat} {n : Int} (F : Nat → List V) (hn : -(2 ^ 62) ≤ n ∧ n < 2 ^ 62) [hw : Wipe σ vs τ] (hF : F 0 = []) (hz : ∀ i, i < n.toNat → (F i).length < 100000)
    (hs : ∀ D (i : Nat) H', (i : Int) < n → Nw H D → Ex H H' → At H' D (.lst (F i)) → (F i).length < 100000 → g (.int (i : Int)) τ H' fun σ2 H2 => wipe σ2 vs = τ ∧ tt σ2 H2 fun b H3 =>
      if b = true then te σ2 H3 (rApp D (rW D fun ac H5 => Ex H H5 ∧ ac = F (i + 1))) else rW D (fun ac H5 => Ex H H5 ∧ ac = F (i + 1)) H3)
    (hd : ∀ D H', Nw H D → Ex H H' → At H' D (.lst (F n.toNat)) → Q (.ref D) H') : rLc1 [.int n] g tt te vs σ H Q :=
  ⟨n, rfl, hn.1, hn.2, lc_F (fd_rng (lo := 0)) F hF (fun _ _ => trivial) hz (fun D i H' x H'' hi hD e hp z y => by
    obtain ⟨rfl, rfl⟩ := y
    rw [Int.zero_add]
    exact hs D i _ (by omega) hD e hp z) hd⟩
theorem lc2_F {vs : List Nat} {a n : Int} (F : Nat → List V) (hn : -(2 ^ 62) ≤ a ∧ a < 2 ^ 62 ∧ -(2 ^ 62) ≤ n ∧ n < 2 ^ 62) [hw : Wipe σ vs τ] (hF : F 0 = []) (hz : ∀ i, i < (n - a).toNat → (F i).length < 100000)
    (hs : ∀ D (i : Nat) H', a + (i : Int) < n → Nw H D → Ex H H' → At H' D (.lst (F i)) → (F i).length < 100000 → g (.int (a + (i : Int))) τ H' fun σ2 H2 => wipe σ2 vs = τ ∧ tt σ2 H2 fun b H3 =>
      if b = true then te σ2 H3 (rApp D (rW D fun ac H5 => Ex H H5 ∧ ac = F (i + 1))) else rW D (fun ac H5 => Ex H H5 ∧ ac = F (i + 1)) H3)
    (hd : ∀ D H', Nw H D → Ex H H' → At H' D (.lst (F (n - a).toNat)) → Q (.ref D) H') : rLc2 [.int a, .int n] g tt te vs σ H Q :=
  ⟨a, n, rfl, hn, lc_F (fd_rng (lo := a)) F hF (fun _ _ => trivial) hz (fun D i H' x H'' hi hD e hp z y => by
    obtain ⟨rfl, rfl⟩ := y
    exact hs D i _ (by omega) hD e hp z) hd⟩
theorem lcL_F {vs : List Nat} {a : Addr} {xs : List V} (F : Nat → List V) [hx : SqC K H a xs] [hw : Wipe σ vs τ] (hF : F 0 = []) (hz : ∀ i, i < xs.length → (F i).length < 100000)
    (hs : ∀ D (i : Nat) x H', xs[i]? = some x → Nw H D → Ex H H' → At H' D (.lst (F i)) → (F i).length < 100000 → g x τ H' fun σ2 H2 => wipe σ2 vs = τ ∧ tt σ2 H2 fun b H3 =>
      if b = true then te σ2 H3 (rApp D (rW D fun ac H5 => Ex H H5 ∧ ac = F (i + 1))) else rW D (fun ac H5 => Ex H H5 ∧ ac = F (i + 1)) H3)
    (hd : ∀ D H', Nw H D → Ex H H' → At H' D (.lst (F xs.length)) → Q (.ref D) H') : rLcL K (.ref a) g tt te vs σ H Q :=
  ⟨a, rfl, ⟨xs, hx.sq⟩, lc_F fd_list F hF (fun _ e => e.l hx.sq) hz (fun D i H' x H'' hi hD e hp z y => by
    obtain ⟨rfl, y⟩ := y
    exact hs D i x _ y hD e hp z) hd⟩
theorem lcT_F {vs : List Nat} {a : Addr} {xs : List V} (F : Nat → List V) [hx : StC K H a xs] [hw : Wipe σ vs τ] (hF : F 0 = []) (hz : ∀ i, i < xs.length → (F i).length < 100000)
    (hs : ∀ D (i : Nat) x H', xs[i]? = some x → Nw H D → Ex H H' → At H' D (.lst (F i)) → (F i).length < 100000 → g x τ H' fun σ2 H2 => wipe σ2 vs = τ ∧ tt σ2 H2 fun b H3 =>
      if b = true then te σ2 H3 (rApp D (rW D fun ac H5 => Ex H H5 ∧ ac = F (i + 1))) else rW D (fun ac H5 => Ex H H5 ∧ ac = F (i + 1)) H3)
    (hd : ∀ D H', Nw H D → Ex H H' → At H' D (.lst (F xs.length)) → Q (.ref D) H') : rLcT K (.ref a) g tt te vs σ H Q :=
  ⟨a, rfl, ⟨xs, hx.st⟩, lc_F fd_tup F hF (fun _ e => e.t hx.st) hz (fun D i H' x H'' hi hD e hp z y => by
    obtain ⟨rfl, y⟩ := y
    exact hs D i x _ y hD e hp z) hd⟩
theorem lcE_F {vs : List Nat} {z : Str} (F : Nat → List V) [hw : Wipe σ vs τ] (hF : F 0 = []) (hz : ∀ i, i < z.cps.size → (F i).length < 100000)
    (hs : ∀ D (i : Nat) c x H' H'', i < z.cps.size → z.cps[i]? = some c → Nw H D → Ex H H' → At H' D (.lst (F i)) → (F i).length < 100000 → Pair H' x H'' (.int (i : Nat)) (.str ⟨#[c]⟩) → g x τ H'' fun σ2 H2 => wipe σ2 vs = τ ∧ tt σ2 H2 fun b H3 =>
      if b = true then te σ2 H3 (rApp D (rW D fun ac H5 => Ex H H5 ∧ ac = F (i + 1))) else rW D (fun ac H5 => Ex H H5 ∧ ac = F (i + 1)) H3)
    (hd : ∀ D H', Nw H D → Ex H H' → At H' D (.lst (F z.cps.size)) → Q (.ref D) H') : rLcE [.str z] g tt te vs σ H Q :=
  ⟨z, rfl, lc_F fd_enumS F hF (fun _ _ => trivial) hz (fun D i H' x H'' hi hD e hp zz y => by
    obtain ⟨c, hc, y⟩ := y
    exact hs D i c x H' H'' hi hc hD e hp zz y) hd⟩
theorem lcEL_F {vs : List Nat} {a : Addr} {xs : List V} (F : Nat → List V) [hx : SqC K H a xs] [hw : Wipe σ vs τ] (hF : F 0 = []) (hz : ∀ i, i < xs.length → (F i).length < 100000)
    (hs : ∀ D (i : Nat) c x H' H'', xs[i]? = some c → Nw H D → Ex H H' → At H' D (.lst (F i)) → (F i).length < 100000 → Pair H' x H'' (.int (i : Nat)) c → g x τ H'' fun σ2 H2 => wipe σ2 vs = τ ∧ tt σ2 H2 fun b H3 =>
      if b = true then te σ2 H3 (rApp D (rW D fun ac H5 => Ex H H5 ∧ ac = F (i + 1))) else rW D (fun ac H5 => Ex H H5 ∧ ac = F (i + 1)) H3)
    (hd : ∀ D H', Nw H D → Ex H H' → At H' D (.lst (F xs.length)) → Q (.ref D) H') : rLcEL K [.ref a] g tt te vs σ H Q :=
  ⟨a, xs, rfl, hx.sq, lc_F fd_enum F hF (fun _ e => e.l hx.sq) hz (fun D i H' x H'' hi hD e hp zz y => by
    obtain ⟨c, hc, y⟩ := y
    exact hs D i c x H' H'' hc hD e hp zz y) hd⟩
theorem lcZ_F {vs : List Nat} {a b : Addr} {xs ys : List V} (n : Nat) (F : Nat → List V) [hx : SqC K H a xs] [hy : SqC K H b ys] (hn : min xs.length ys.length = n) [hw : Wipe σ vs τ] (hF : F 0 = []) (hz : ∀ i, i < n → (F i).length < 100000)
    (hs : ∀ D (i : Nat) c d x H' H'', i < n → xs[i]? = some c → ys[i]? = some d → Nw H D → Ex H H' → At H' D (.lst (F i)) → (F i).length < 100000 → Pair H' x H'' c d → g x τ H'' fun σ2 H2 => wipe σ2 vs = τ ∧ tt σ2 H2 fun b H3 =>
      if b = true then te σ2 H3 (rApp D (rW D fun ac H5 => Ex H H5 ∧ ac = F (i + 1))) else rW D (fun ac H5 => Ex H H5 ∧ ac = F (i + 1)) H3)
    (hd : ∀ D H', Nw H D → Ex H H' → At H' D (.lst (F n)) → Q (.ref D) H') : rLcZ K [.ref a, .ref b] g tt te vs σ H Q :=
  ⟨a, b, xs, ys, rfl, hx.sq, hy.sq, lc_F (fd_zip hn) F hF (fun _ e => ⟨e.l hx.sq, e.l hy.sq⟩) hz (fun D i H' x H'' hi hD e hp z y => by
    obtain ⟨c, d, h1, h2, y⟩ := y
    exact hs D i c d x H' H'' hi h1 h2 hD e hp z y) hd⟩
theorem lc1_A {vs : List Nat} {n : Int} (P : V → Prop) (hn : n ≤ 100000 ∧ -100000 ≤ n) [hw : Wipe σ vs τ]
    (hs : ∀ D (i : Nat) acc H', (i : Int) < n → Nw H D → Ex H H' → At H' D (.lst acc) → acc.length < 100000 → g (.int (i : Int)) τ H' fun σ2 H2 => wipe σ2 vs = τ ∧ tt σ2 H2 fun b H3 =>
      if b = true then te σ2 H3 (rApp D (rW D fun ac H5 => Ex H H5 ∧ ∃ v, ac = acc ++ [v] ∧ P v)) else rW D (fun ac H5 => Ex H H5 ∧ ∃ v, ac = acc ++ [v] ∧ P v) H3)
    (hd : ∀ D acc H', Nw H D → Ex H H' → At H' D (.lst acc) → acc.length = n.toNat → (∀ v ∈ acc, P v) → Q (.ref D) H') : rLc1 [.int n] g tt te vs σ H Q :=
  ⟨n, rfl, by omega, by omega, lc_A (fd_rng (lo := 0)) P (fun _ _ => trivial) (by omega) (fun D i acc H' x H'' hi hD e hp z y => by
    obtain ⟨rfl, rfl⟩ := y
    rw [Int.zero_add]
    exact hs D i acc _ (by omega) hD e hp z) hd⟩
theorem lcL_A {vs : List Nat} {a : Addr} {xs : List V} (P : V → Prop) [hx : SqC K H a xs] (hz : xs.length ≤ 100000) [hw : Wipe σ vs τ]
    (hs : ∀ D (i : Nat) x acc H', xs[i]? = some x → Nw H D → Ex H H' → At H' D (.lst acc) → acc.length < 100000 → g x τ H' fun σ2 H2 => wipe σ2 vs = τ ∧ tt σ2 H2 fun b H3 =>
      if b = true then te σ2 H3 (rApp D (rW D fun ac H5 => Ex H H5 ∧ ∃ v, ac = acc ++ [v] ∧ P v)) else rW D (fun ac H5 => Ex H H5 ∧ ∃ v, ac = acc ++ [v] ∧ P v) H3)
    (hd : ∀ D acc H', Nw H D → Ex H H' → At H' D (.lst acc) → acc.length = xs.length → (∀ v ∈ acc, P v) → Q (.ref D) H') : rLcL K (.ref a) g tt te vs σ H Q :=
  ⟨a, rfl, ⟨xs, hx.sq⟩, lc_A fd_list P (fun _ e => e.l hx.sq) hz (fun D i x' H' x H'' hi hD e hp z y => by
    obtain ⟨rfl, y⟩ := y
    exact hs D i x x' _ y hD e hp z) hd⟩
/-- _P: any invariant; what stood stands -/
theorem lcL_P {vs : List Nat} {a : Addr} {xs : List V} (Pv : Addr → Nat → List V → Hp → Prop) [hx : SqC K H a xs] [hw : Wipe σ vs τ] (h0 : ∀ D H1, Nw H D → Ex H H1 → At H1 D (.lst []) → Pv D 0 [] H1)
    (hs : ∀ D (i : Nat) x acc H', xs[i]? = some x → Nw H D → Ex H H' → At H' D (.lst acc) → Pv D i acc H' → g x τ H' fun σ2 H2 => wipe σ2 vs = τ ∧ tt σ2 H2 fun b H3 =>
      if b = true then te σ2 H3 (rApp D (rW D fun ac H5 => Ex H H5 ∧ Pv D (i + 1) ac H5)) else rW D (fun ac H5 => Ex H H5 ∧ Pv D (i + 1) ac H5) H3)
    (hd : ∀ D acc H', Nw H D → Ex H H' → At H' D (.lst acc) → Pv D xs.length acc H' → Q (.ref D) H') : rLcL K (.ref a) g tt te vs σ H Q :=
  ⟨a, rfl, ⟨xs, hx.sq⟩, lc_feeds fd_list [] Pv h0 (fun _ e => Ex.l e hx.sq) (fun D i acc H' x H'' hi hD e hp p y => by
    obtain ⟨rfl, y⟩ := y
    exact hs D i x acc _ y hD e hp p) hd⟩
theorem lc1_P {vs : List Nat} {n : Int} (bs : List Addr) (Pv : Addr → Nat → List V → Hp → Prop) (hn : -(2 ^ 62) ≤ n ∧ n < 2 ^ 62) [hw : Wipe σ vs τ] (h0 : ∀ D H1, Nw H D → Ex H H1 → At H1 D (.lst []) → Pv D 0 [] H1)
    (hs : ∀ D (i : Nat) acc H', (i : Int) < n → Nw H D → Chg bs H H' → At H' D (.lst acc) → Pv D i acc H' → g (.int (i : Int)) τ H' fun σ2 H2 => wipe σ2 vs = τ ∧ tt σ2 H2 fun b H3 =>
      if b = true then te σ2 H3 (rApp D (rW D fun ac H5 => Chg bs H H5 ∧ Pv D (i + 1) ac H5)) else rW D (fun ac H5 => Chg bs H H5 ∧ Pv D (i + 1) ac H5) H3)
    (hd : ∀ D acc H', Nw H D → Chg bs H H' → At H' D (.lst acc) → Pv D n.toNat acc H' → Q (.ref D) H') : rLc1 [.int n] g tt te vs σ H Q :=
  ⟨n, rfl, hn.1, hn.2, lc_feeds (fd_rng (lo := 0)) bs Pv h0 (fun _ _ => trivial) (fun D i acc H' x H'' hi hD e hp p y => by
    obtain ⟨rfl, rfl⟩ := y
    rw [Int.zero_add]
    exact hs D i acc _ (by omega) hD e hp p) hd⟩
theorem g_pair {H H' : Hp} {x a b : V} {u : TGs} {R : L2.St → Hp → Prop} (h : Pair H x H' a b) (q : ∀ T, Nw H T → Ex H H' → At H' T (.tup [a, b]) → u [a, b] σ H' R) : gTup K 2 u x σ H' R := by
  obtain ⟨T, rfl, h1, h2, h3⟩ := h
  exact ⟨T, _, rfl, .inl (.inl h3.eq), rfl, q T h1 h2 h3⟩
end
theorem rep_succ {i : Nat} : (List.replicate i true).map V.bl ++ [V.bl true] = (List.replicate (i + 1) true).map V.bl := by
  rw [List.replicate_succ', List.map_append]
  rfl
theorem rep_succD {i : Nat} {p : Prop} [Decidable p] (h : p) : (List.replicate i true).map V.bl ++ [V.bl (decide p)] = (List.replicate (i + 1) true).map V.bl := by
  rw [decide_eq_true h]
  exact rep_succ

section
variable {K : PySem.W.Frag} {σ : L2.St} {H : Hp} {R : L2.St → Hp → Prop} {v : V} {r : List V} {t : TG} {u : TGs}
instance : Step (gCons t u (v :: r) σ H R) (t v σ H fun σ' H' => u r σ' H' R) := ⟨fun q => ⟨v, r, rfl, q⟩⟩
instance : Step (gNil [] σ H R) (R σ H) := ⟨fun q => ⟨rfl, q⟩⟩
theorem g_gtup {a : Addr} {xs : List V} {n : Nat} [h : StC K H a xs] (hn : xs.length = n) (q : u xs σ H R) : gTup K n u (.ref a) σ H R := ⟨a, xs, rfl, h.st, hn, q⟩
end
theorem g_str {H : Hp} {Q : VK} {i : Int} (h : -(2 ^ 200) < i ∧ i < 2 ^ 200) (q : (Str.ofString (toString i)).length ≤ 1921 → Q (.str (toString i)) H) : rStr [V.int i] H Q := by
  have h2 : i.natAbs.log2 < 1920 := Nat.lt_of_lt_of_le (PySem.Flt.log2_lt_of (k := 200) (by decide) (by omega)) (by decide)
  exact ⟨i, rfl, h2, q (PyProof.Rows.int_text_len_1921 h2)⟩
theorem g_all {K : PySem.W.Frag} {H : Hp} {Q : VK} {a : Addr} {bs : List Bool} [h : SqC K H a (bs.map V.bl)] (q : Q (.bl (bs.all _root_.id)) H) : rAll K [V.ref a] H Q := ⟨a, bs, rfl, h.sq, q⟩
theorem g_allT {K : PySem.W.Frag} {H : Hp} {Q : VK} {a : Addr} {n : Nat} [h : SqC K H a ((List.replicate n true).map V.bl)] (q : Q (.bl true) H) : rAll K [V.ref a] H Q := ⟨a, _, rfl, h.sq, by simpa using q⟩
theorem g_sum {K : PySem.W.Frag} {H : Hp} {Q : VK} {a : Addr} {ns : List Int} [h : SqC K H a (ns.map V.int)] (q : Q (.int ns.sum) H) : rSum K [V.ref a] H Q := ⟨a, ns, rfl, h.sq, q⟩
theorem mulx128 {i j : Int} (h : -(2 ^ 300) < i ∧ i < 2 ^ 300) (h2 : -(2 ^ 300) < j ∧ j < 2 ^ 300) : CMulX i j := mulx_ok (a := 300) (b := 300) (by omega) (by omega) (by decide)
theorem q_int {H : Hp} {Q : VK} {a b : Int} (k : Q (.int a) H) (e : a = b) : Q (.int b) H := e ▸ k
theorem q_bl {H : Hp} {Q : VK} {a b : Bool} (k : Q (.bl a) H) (e : a = b) : Q (.bl b) H := e ▸ k
theorem q_dec {H : Hp} {Q : VK} {p : Prop} {_ : Decidable p} (k : Q (.bl true) H) (e : p) : Q (.bl (decide p)) H := by rw [decide_eq_true e]; exact k
theorem q_decN {H : Hp} {Q : VK} {p : Prop} {_ : Decidable p} (k : Q (.bl false) H) (e : ¬ p) : Q (.bl (decide p)) H := by rw [decide_eq_false e]; exact k
section
variable {K : PySem.W.Frag} {H : Hp} {Q : VK}
theorem g_isi {x c : V} {t u : Value} {b : Bool} (h1 : ClsV c u) (h2 : TyX K H x t) (h3 : PySem.W.kitOne K t u = some b) (q : Q (.bl b) H) : rIsi K [x, c] H Q := ⟨x, c, t, u, b, rfl, h1, h2, h3, q⟩
instance {i : Int} : Step (rIsi K [.int i, .ty "int"] H Q) (Q (.bl true) H) := ⟨g_isi (.ty _) (.base (.int i)) (kit_ty (by decide +kernel))⟩
instance {i : Int} : Step (rIsi K [.int i, .ty "bool"] H Q) (Q (.bl false) H) := ⟨g_isi (.ty _) (.base (.int i)) (kit_ty (by decide +kernel))⟩
instance {i : Bool} : Step (rIsi K [.bl i, .ty "int"] H Q) (Q (.bl true) H) := ⟨g_isi (.ty _) (.base (.bl i)) (kit_ty (by decide +kernel))⟩
instance {i : Bool} : Step (rIsi K [.bl i, .ty "bool"] H Q) (Q (.bl true) H) := ⟨g_isi (.ty _) (.base (.bl i)) (kit_ty (by decide +kernel))⟩
instance : Step (rIsi K [.non, .ty "int"] H Q) (Q (.bl false) H) := ⟨g_isi (.ty _) (.base .non) (kit_ty (by decide +kernel))⟩
instance : Step (rIsi K [.non, .ty "bool"] H Q) (Q (.bl false) H) := ⟨g_isi (.ty _) (.base .non) (kit_ty (by decide +kernel))⟩
instance {z : Str} : Step (rIsi K [.str z, .ty "str"] H Q) (Q (.bl true) H) := ⟨g_isi (.ty _) (.base (.str z)) (kit_ty (by decide +kernel))⟩
theorem g_isL {p : Addr} {xs : List V} [h : At H p (.lst xs)] (q : Q (.bl true) H) : rIsi K [.ref p, .ty "list"] H Q := g_isi (.ty _) (.base (.lst h.eq)) (kit_ty (by decide +kernel)) q
theorem g_isT {p : Addr} {xs : List V} [h : At H p (.tup xs)] (q : Q (.bl true) H) : rIsi K [.ref p, .ty "tuple"] H Q := g_isi (.ty _) (.base (.tup h.eq)) (kit_ty (by decide +kernel)) q
instance (priority := high) : Step (rInt [V.bl true] H Q) (Q (.int 1) H) := ⟨fun q => g_intB q⟩
instance (priority := high) : Step (rInt [V.bl false] H Q) (Q (.int 0) H) := ⟨fun q => g_intB q⟩
instance (priority := high) {p : Prop} [Decidable p] : Step (rInt [V.bl (decide p)] H Q) (Q (.int (if p then 1 else 0)) H) := ⟨fun q => g_intB (by
  by_cases h : p
  · rw [if_pos h] at q
    rw [decide_eq_true h]
    exact q
  · rw [if_neg h] at q
    rw [decide_eq_false h]
    exact q)⟩
end

/-! ### the same with the written part named (within a comprehension it must not speak of the block) -/
section
variable {X : Cx} {K : PySem.W.Frag}
theorem opAddK (h : X.K = K) : OpR X (binaryOp .Add) (rAdd K) := h ▸ opAdd
theorem opMulK (h : X.K = K) : OpR X (binaryOp .Mult) (rMul K) := h ▸ opMul
theorem opEqK (h : X.K = K) (hu : X.A.units + 64 < cLine) : OpR X (compareOp .Eq) (rEqX K) := h ▸ opEq hu
theorem opNeK (h : X.K = K) (hu : X.A.units + 64 < cLine) : OpR X (compareOp .NotEq) (rNeX K) := h ▸ opNe hu
theorem opInK (h : X.K = K) : OpR X (compareOp .In) (rIn K false) := h ▸ op_in_seq
theorem opNotInK (h : X.K = K) : OpR X (compareOp .NotIn) (rIn K true) := h ▸ op_notIn_seq
theorem ixSeqK (h : X.K = K) : IxR X (rIx K) := h ▸ ix_seq
theorem callLenK (h : X.K = K) : CallR X (.builtin "len") (rLen K) := h ▸ callLen
theorem callListOfK (h : X.K = K) : CallR X (.type "list") (rListOf K) := h ▸ callListOf
theorem slAnyK (h : X.K = K) : SlR X (rSlX K) := h ▸ slAny
theorem callSumK (h : X.K = K) (hc : X.calm = true) : CallR X (.builtin "sum") (rSum K) := h ▸ cr_sum hc
theorem callMinK (h : X.K = K) (hc : X.calm = true) : CallR X (.builtin "min") (rMin K) := h ▸ cr_min hc
theorem callMaxK (h : X.K = K) (hc : X.calm = true) : CallR X (.builtin "max") (rMax K) := h ▸ cr_max hc
theorem callAllK (h : X.K = K) (hc : X.calm = true) : CallR X (.builtin "all") (rAll K) := h ▸ cr_all hc
theorem callAnyK (h : X.K = K) (hc : X.calm = true) : CallR X (.builtin "any") (rAny K) := h ▸ cr_any hc
theorem callIsiK (h : X.K = K) : CallR X (.builtin "isinstance") (rIsi K) := h ▸ call_isi
theorem mtIndexK (h : X.K = K) : MtR X "list.index" (rIndex K) := h ▸ mt_index
variable {o e : Expr} {es : List Expr} {to : TE} {t : TA} {name : Str} {apos cpos : Pos} {T id : String} {r : V → List V → Hp → VK → Prop}
theorem pe_bm0K (h : X.K = K) (pa : PlainAttrs T) (slot : Slot T name id) (hty : typeOf (.builtin id) = pure (.type "method_descriptor")) (hm : MtR X id r) (ho : PE X o to)
    (hbase : attributeBase o name X.env (eval o X.env) = eval o X.env := by rfl) (hline : (apos.endLine == cpos.line) = true := by rfl) : PE X (.Call (.Attribute o name apos) [] [] cpos) (tBM0 K T r to) := h ▸ pe_bm0 pa slot hty hm ho hbase hline
theorem pe_bmK (h : X.K = K) (pa : PlainAttrs T) (slot : Slot T name id) (hty : typeOf (.builtin id) = pure (.type "method_descriptor")) (hm : MtR X id r) (ho : PE X o to) (ha : PA X (e :: es) t)
    (hbase : attributeBase o name X.env (eval o X.env) = eval o X.env := by rfl)
    (hfew : ((backTo cpos (starEach (e :: es) X.env)).all (fun x => !x.1) && (backToKw cpos (keywordEach [] X.env)).all (fun x => x.1.isSome)
      && decide ((e :: es).length + ([] : List Keyword).length + (if ([] : List Keyword).isEmpty then 0 else 1) < 30)) = true := by rfl)
    (hline : (apos.endLine == cpos.line) = true := by rfl) (hs : starEach (e :: es) X.env = (false, eval e X.env) :: starEach es X.env := by rfl) (hplain : (backTo cpos (starEach es X.env)).any (·.1) = false := by rfl) :
    PE X (.Call (.Attribute o name apos) (e :: es) [] cpos) (tBM K T r to t) := h ▸ pe_bm pa slot hty hm ho ha hbase hfew hline hs hplain
theorem pi_listK {tg l : Expr} {tl : TE} (h : X.K = K) (hl : PE X l tl) : PI X tg l (iList K tl) := h ▸ pi_list hl
end
theorem cdivW {j : Int} {i : Int} (h : 0 < j) (h2 : j < 2 ^ 200) : CDivW i j := wide_div (b := 200) h (by omega) (by decide) (by decide)

section
variable {K : PySem.W.Frag} {H : Hp} {Q : VK} {lo hi : Option Int}
theorem g_slL {p : Addr} {xs : List V} [h : SqC K H p xs] (q : ∀ p H2, Nw H p → Ex H H2 → At H2 p (.lst (cutV xs lo hi)) → Q (.ref p) H2) : rSlX K (.ref p) lo hi H Q :=
  .inl ⟨p, xs, rfl, h.sq, g_new q⟩
theorem g_slS {z : Str} (h : z.length ≤ 100000) (q : Q (.str (cutS z lo hi)) H) : rSlX K (.str z) lo hi H Q :=
  .inr (.inl ⟨z, rfl, Nat.le_trans h (by decide), q⟩)
theorem g_listOf {p : Addr} {xs : List V} [h : SqC K H p xs] (q : ∀ p H2, Nw H p → Ex H H2 → At H2 p (.lst xs) → Q (.ref p) H2) :
    rListOf K [V.ref p] H Q := ⟨p, xs, rfl, .inl h.sq, g_new q⟩
end
/-! ### texts over 0 and 1 -/
def bc (b : Bool) : Nat := if b then 49 else 48
theorem bc_inj {a b : Bool} (h : bc a = bc b) : a = b := by cases a <;> cases b <;> simp_all [bc]
def tx (l : List Bool) : Str := ⟨(l.map bc).toArray⟩
theorem tx_list (l : List Bool) : (tx l).cps.toList = l.map bc := by simp [tx]
theorem tx_len (l : List Bool) : (tx l).length = l.length := by simp [tx, Str.length]
theorem map_bc_inj : ∀ {a b : List Bool}, a.map bc = b.map bc → a = b
  | [], [], _ => rfl
  | [], _ :: _, h => by simp at h
  | _ :: _, [], h => by simp at h
  | x :: a, y :: b, h => by
    simp only [List.map_cons, List.cons.injEq] at h
    rw [bc_inj h.1, map_bc_inj h.2]
theorem str_ext {a b : Str} (h : a.cps.toList = b.cps.toList) : a = b := by
  obtain ⟨a⟩ := a
  obtain ⟨b⟩ := b
  congr 1
  exact Array.toList_inj.mp h
theorem tx_inj {a b : List Bool} (h : tx a = tx b) : a = b := map_bc_inj (by rw [← tx_list, ← tx_list, h])
theorem tx_eq {a b : List Bool} : tx a = tx b ↔ a = b := ⟨tx_inj, fun h => by rw [h]⟩
theorem tx_nil : tx [] = ("" : Str) := rfl
theorem tx_0 : tx [false] = ("0" : Str) := rfl
theorem tx_1 : tx [true] = ("1" : Str) := rfl
theorem tx_01 : tx [false, true] = ("01" : Str) := rfl
theorem tx_app (a b : List Bool) : tx a ++ tx b = tx (a ++ b) := by
  apply str_ext
  show ((tx a).cps ++ (tx b).cps).toList = _
  rw [Array.toList_append, tx_list, tx_list, tx_list, List.map_append]
theorem tx_rep1 (b : Bool) (n : Nat) : repS (tx [b]) n = tx (List.replicate n b) := by
  apply str_ext
  rw [tx_list]
  unfold repS
  simp only [tx_list, List.map_cons, List.map_nil, List.map_replicate]
  induction n with
  | zero => rfl
  | succ n ih => rw [List.replicate_succ, List.flatten_cons, List.replicate_succ]; simpa using ih
theorem tx_one (b : Bool) : tx [b] = ⟨#[bc b]⟩ := rfl
theorem tx_at {l : List Bool} {i c : Nat} (h : (tx l).cps[i]? = some c) : ∃ b, l[i]? = some b ∧ (⟨#[c]⟩ : Str) = tx [b] := by
  have h2 : (l.map bc)[i]? = some c := by rw [← tx_list, Array.getElem?_toList]; exact h
  rw [List.getElem?_map] at h2
  cases e : l[i]? with
  | none => rw [e] at h2; simp at h2
  | some b =>
    rw [e] at h2
    simp at h2
    exact ⟨b, rfl, by rw [tx_one, h2]⟩
theorem tx_atI {l : List Bool} {i : Int} {b : Bool} (h : atI l i = some b) : atI (tx l).cps.toList i = some (bc b) := by
  rw [tx_list]
  unfold atI at *
  rw [List.length_map]
  cases e : ixN l.length i with
  | none => rw [e] at h; simp at h
  | some j =>
    rw [e] at h
    show (l.map bc)[j]? = _
    rw [List.getElem?_map]
    have h' : l[j]? = some b := h
    rw [h']
    rfl
theorem tx_cut (l : List Bool) (lo hi : Option Int) : cutS (tx l) lo hi = tx ((l.drop (HT.sIx l.length 0 lo)).take (HT.sIx l.length l.length hi - HT.sIx l.length 0 lo)) := by
  apply str_ext
  unfold cutS
  rw [tx_list, tx_list, tx_len, List.map_take, List.map_drop]
theorem cnt_tx (b : Bool) (l : List Bool) : PyProof.Rows.cnt (bc b) (l.map bc) = (l.count b : Nat) := by
  induction l with
  | nil => rfl
  | cons x l ih =>
    rw [List.map_cons, PyProof.Rows.cnt_cons, ih, List.count_cons]
    cases b <;> cases x <;> simp [bc] <;> omega
theorem tx_count (l : List Bool) (b : Bool) : Txt.count (tx l) (tx [b]) = (l.count b : Nat) := by
  rw [← cnt_tx, ← tx_list]
  exact PyProof.Rows.count_is (tx l) (bc b)
theorem strSub_list (x : Str) (i j : Nat) : (Builtin.Str.strSub x i j).cps.toList = (x.cps.toList.drop i).take (j - i) := by
  unfold Builtin.Str.strSub
  rw [Array.toList_extract, List.extract_eq_take_drop]
theorem drop_tw {α : Type} (p : α → Bool) : ∀ l : List α, l.drop (l.takeWhile p).length = l.dropWhile p
  | [] => rfl
  | a :: r => by
    rw [List.takeWhile_cons, List.dropWhile_cons]
    split
    · rw [List.length_cons, List.drop_succ_cons, drop_tw p r]
    · rfl
theorem tx_lstrip0 (l : List Bool) : Txt.lstripChars (tx l) (tx [false]) = tx (l.dropWhile (! ·)) := by
  apply str_ext
  unfold Txt.lstripChars
  rw [PyProof.Rows.stripBy_eq, strSub_list, tx_list, tx_list]
  have hp : ∀ b, (tx [false]).cps.contains (bc b) = !b := by intro b; cases b <;> simp [tx, bc]
  have e1 : PySem.stripLo (tx [false]).cps.contains true (tx l) = (l.takeWhile (! ·)).length := by
    unfold PySem.stripLo
    simp only [if_true]
    rw [tx_list, List.takeWhile_map, List.length_map]
    congr 2
    funext b
    exact hp b
  have e2 : ∀ lo, PySem.stripHi (tx [false]).cps.contains false (tx l) lo = l.length := by
    intro lo
    unfold PySem.stripHi
    simp [tx_len]
  rw [e1, e2, ← List.map_drop, drop_tw, List.take_of_length_le]
  rw [List.length_map, ← drop_tw, List.length_drop]
  exact Nat.le_refl _
theorem tx_strip01 (l : List Bool) : Txt.stripChars (tx l) (tx [false, true]) = tx [] := by
  apply str_ext
  unfold Txt.stripChars
  rw [PyProof.Rows.stripBy_eq, strSub_list, tx_list]
  have hp : ∀ b, (tx [false, true]).cps.contains (bc b) = true := by intro b; cases b <;> simp [tx, bc]
  have e1 : PySem.stripLo (tx [false, true]).cps.contains true (tx l) = l.length := by
    unfold PySem.stripLo
    simp only [if_true]
    rw [tx_list, List.takeWhile_map, List.length_map]
    congr 1
    have hp' : ((tx [false, true]).cps.contains ∘ bc) = fun _ => true := by funext b; exact hp b
    rw [hp']
    clear hp hp'
    induction l with
    | nil => rfl
    | cons a l ih => rw [List.takeWhile_cons, if_pos rfl, ih]
  rw [e1, ← List.map_drop, List.drop_length, tx_list]
  simp
theorem tx_starts (l m : List Bool) : Txt.startswith (tx l) (tx m) = (l.take m.length == m) := by
  unfold Txt.startswith
  rw [tx_len, tx_len, Nat.zero_add]
  have e : Builtin.Str.subAt (tx l) (tx m) 0 = (l.take m.length == m) := by
    rw [Bool.eq_iff_iff]
    unfold Builtin.Str.subAt
    rw [beq_iff_eq, beq_iff_eq, ← Array.toList_inj, Array.toList_extract, List.extract_eq_take_drop, tx_list, tx_list, tx_len]
    simp only [List.drop_zero, Nat.zero_add, Nat.sub_zero]
    rw [← List.map_take]
    exact ⟨map_bc_inj, fun h => by rw [h]⟩
  rw [e]
  by_cases h : m.length ≤ l.length
  · simp [h]
  · have : ¬ (l.take m.length = m) := by
      intro q
      have := congrArg List.length q
      rw [List.length_take] at this
      omega
    simp [h, this]
theorem tx_join (ls : List (List Bool)) : Txt.join (tx []) (ls.map tx) = tx ls.flatten := by
  apply str_ext
  rw [tx_list]
  unfold Txt.join Builtin.Str.glued
  have h : ∀ (r : List (List Bool)) (acc : Array Nat), ((r.map tx).foldl (fun acc p => acc ++ (tx []).cps ++ p.cps) acc).toList = acc.toList ++ (r.flatten).map bc := by
    intro r
    induction r with
    | nil => intro acc; simp
    | cons x r ih =>
      intro acc
      rw [List.map_cons, List.foldl_cons, ih]
      simp [tx]
  cases ls with
  | nil => rfl
  | cons x r =>
    simp only [List.map_cons, List.drop_succ_cons, List.drop_zero, List.headD_cons]
    rw [h, tx_list]
    simp
/-! ### steps over texts of 0 and 1 -/
def rCnt : V → List V → Hp → VK → Prop := fun x xs H Q => ∃ a b, x = .str a ∧ xs = [.str b] ∧ Q (.int (Txt.count a b)) H
def rStarts : V → List V → Hp → VK → Prop := fun x xs H Q => ∃ a b, x = .str a ∧ xs = [.str b] ∧ Q (.bl (Txt.startswith a b)) H
def rStripC : V → List V → Hp → VK → Prop := fun x xs H Q => ∃ a b, x = .str a ∧ xs = [.str b] ∧ a.length ≤ sizeLine ∧ Q (.str (Txt.stripChars a b)) H
def rLstripC : V → List V → Hp → VK → Prop := fun x xs H Q => ∃ a b, x = .str a ∧ xs = [.str b] ∧ a.length ≤ sizeLine ∧ Q (.str (Txt.lstripChars a b)) H
def rJoin (K : PySem.W.Frag) : V → List V → Hp → VK → Prop := fun x xs H Q => ∃ a p, ∃ ys : List Str, x = .str a ∧ xs = [.ref p] ∧ (SqL K H p (ys.map V.str) ∨ SqT K H p (ys.map V.str)) ∧
    (ys.map (·.length)).sum + ys.length * a.length ≤ 16777216 ∧ Q (.str (Txt.join a ys)) H
section
variable {X : Cx} {K : PySem.W.Frag}
theorem mtCount : MtR X "str.count" rCnt := mt_count
theorem mtStarts : MtR X "str.startswith" rStarts := mt_startswith
theorem mtStripC : MtR X "str.strip" rStripC := mt_stripChars
theorem mtLstripC : MtR X "str.lstrip" rLstripC := mt_lstripChars
theorem mtJoinK (h : X.K = K) : MtR X "str.join" (rJoin K) := h ▸ mt_join
end
section
variable {K : PySem.W.Frag} {σ : L2.St} {H : Hp} {Q : VK} {l m : List Bool} {b : Bool}
theorem szT {n : Nat} (h : l.length ≤ n) (hn : n ≤ 100000 := by decide) : (tx l).length ≤ 100000 := by rw [tx_len]; omega
instance (priority := high) : Step (tC (.str ("0" : Str)) σ H Q) (Q (.str (tx [false])) H) := ⟨fun q => q⟩
instance (priority := high) : Step (tC (.str ("1" : Str)) σ H Q) (Q (.str (tx [true])) H) := ⟨fun q => q⟩
instance (priority := high) : Step (tC (.str ("" : Str)) σ H Q) (Q (.str (tx [])) H) := ⟨fun q => q⟩
instance (priority := high) : Step (tC (.str ("01" : Str)) σ H Q) (Q (.str (tx [false, true])) H) := ⟨fun q => q⟩
theorem g_addT (h : l.length + m.length ≤ 100000) (q : Q (.str (tx (l ++ m))) H) : rAdd K (.str (tx l)) (.str (tx m)) H Q := g_addS (by rw [tx_len, tx_len]; exact h) (by rw [tx_app]; exact q)
theorem g_mulT {n : Int} (h : n ≤ 100000 ∧ -100000 ≤ n) (q : Q (.str (tx (List.replicate n.toNat b))) H) : rMul K (.str (tx [b])) (.int n) H Q := by
  refine .inr (.inr (.inl ⟨tx [b], n, rfl, rfl, ⟨by omega, by omega, ?_⟩, ?_⟩))
  · rw [tx_len, List.length_singleton]; omega
  · rw [tx_rep1]; exact q
theorem g_lenT (h : l.length ≤ 100000) (q : Q (.int (l.length : Nat)) H) : rLen K [.str (tx l)] H Q := g_len (len_s (by rw [tx_len]; exact h)) (by rw [tx_len]; exact q)
instance (priority := high) : Step (rEqX K (.str (tx l)) (.str (tx m)) H Q) (Q (.bl (decide (l = m))) H) := ⟨fun q => g_eqS (by
  by_cases h : l = m
  · rw [decide_eq_true (tx_eq.mpr h)]; rw [decide_eq_true h] at q; exact q
  · rw [decide_eq_false (fun e => h (tx_inj e))]; rw [decide_eq_false h] at q; exact q)⟩
instance (priority := high) : Step (rNeX K (.str (tx l)) (.str (tx m)) H Q) (Q (.bl (!decide (l = m))) H) := ⟨fun q => g_neS (by
  by_cases h : l = m
  · rw [decide_eq_true (tx_eq.mpr h)]; rw [decide_eq_true h] at q; exact q
  · rw [decide_eq_false (fun e => h (tx_inj e))]; rw [decide_eq_false h] at q; exact q)⟩
instance : Step (rCnt (.str (tx l)) [.str (tx [b])] H Q) (Q (.int (l.count b : Nat)) H) := ⟨fun q => ⟨_, _, rfl, rfl, by rw [tx_count]; exact q⟩⟩
instance : Step (rStarts (.str (tx l)) [.str (tx m)] H Q) (Q (.bl (l.take m.length == m)) H) := ⟨fun q => ⟨_, _, rfl, rfl, by rw [tx_starts]; exact q⟩⟩
theorem g_lstrip0 (h : l.length ≤ 100000) (q : Q (.str (tx (l.dropWhile (! ·)))) H) : rLstripC (.str (tx l)) [.str (tx [false])] H Q :=
  ⟨_, _, rfl, rfl, Nat.le_trans (szT h) (by decide), by rw [tx_lstrip0]; exact q⟩
theorem g_strip01 (h : l.length ≤ 100000) (q : Q (.str (tx [])) H) : rStripC (.str (tx l)) [.str (tx [false, true])] H Q :=
  ⟨_, _, rfl, rfl, Nat.le_trans (szT h) (by decide), by rw [tx_strip01]; exact q⟩
theorem g_joinT {p : Addr} {ls : List (List Bool)} [hp : SqC K H p (ls.map fun l => V.str (tx l))] (hz : ls.flatten.length ≤ 100000) (q : Q (.str (tx ls.flatten)) H) : rJoin K (.str (tx [])) [.ref p] H Q := by
  refine ⟨tx [], p, ls.map tx, rfl, rfl, .inl (by rw [List.map_map]; exact hp.sq), ?_, by rw [tx_join]; exact q⟩
  rw [List.map_map, tx_len, List.length_nil, Nat.mul_zero, Nat.add_zero]
  have e : (ls.map (Str.length ∘ tx)).sum = ls.flatten.length := by
    rw [List.length_flatten]
    congr 1
    apply List.map_congr_left
    intro a _
    exact tx_len a
  have e2 : (ls.map ((fun x => x.length) ∘ tx)).sum = ls.flatten.length := e
  rw [e2]
  omega
theorem g_ixTx {i : Int} (hz : l.length ≤ 100000) (h : atI l i = some b) (q : Q (.str (tx [b])) H) : rIx K (.str (tx l)) (.int i) H Q :=
  .inr (.inr ⟨tx l, i, bc b, rfl, rfl, Nat.le_trans (szT hz) (by decide), tx_atI h, q⟩)
theorem atI_nat {α : Type} {l : List α} {n : Nat} {x : α} (h : l[n]? = some x) : atI l (n : Int) = some x := by
  unfold atI
  have hl := (List.getElem?_eq_some_iff.mp h).1
  have e : ixN l.length (n : Int) = some n := by
    unfold ixN
    rw [if_pos (by omega), if_pos (by omega)]
    simp
  rw [e]
  exact h
theorem g_slT {lo hi : Option Int} (h : l.length ≤ 100000) (q : Q (.str (tx ((l.drop (HT.sIx l.length 0 lo)).take (HT.sIx l.length l.length hi - HT.sIx l.length 0 lo)))) H) : rSlX K (.str (tx l)) lo hi H Q :=
  g_slS (szT h) (by rw [tx_cut]; exact q)
theorem tx_char {i c : Nat} (h : (tx l).cps[i]? = some c) : ∃ b, l[i]? = some b ∧ (⟨#[c]⟩ : Str) = tx [b] := tx_at h
theorem tx_size : (tx l).cps.size = l.length := tx_len l
end
theorem of_all {α : Type} {f : α → V} : ∀ {acc : List V}, (∀ v ∈ acc, ∃ x, v = f x) → ∃ xs : List α, acc = xs.map f
  | [], _ => ⟨[], rfl⟩
  | v :: r, h => by
    obtain ⟨x, hx⟩ := h v (List.mem_cons_self ..)
    obtain ⟨xs, e⟩ := of_all (fun u hu => h u (List.mem_cons_of_mem _ hu))
    exact ⟨x :: xs, by rw [hx, e]; rfl⟩
theorem take_snoc {α : Type} {l : List α} {i : Nat} {x : α} (h : l[i]? = some x) : l.take (i + 1) = l.take i ++ [x] := by
  rw [List.take_add_one, h]
  rfl
theorem take_map_snoc {α β : Type} {l : List α} {f : α → β} {i : Nat} {x : α} (h : l[i]? = some x) : (l.take i).map f ++ [f x] = (l.take (i + 1)).map f := by
  rw [take_snoc h, List.map_append]
  rfl
theorem map_at {α β : Type} {l : List α} {f : α → β} {i : Nat} {y : β} (h : (l.map f)[i]? = some y) : ∃ x, l[i]? = some x ∧ y = f x := by
  rw [List.getElem?_map] at h
  cases e : l[i]? with
  | none => rw [e] at h; simp at h
  | some x => rw [e] at h; simp at h; exact ⟨x, rfl, h.symm⟩
theorem g_cat {K : PySem.W.Frag} {H : Hp} {Q : VK} {l b : Addr} {xs zs : List V} [h1 : At H l (.lst xs)] [h2 : At H b (.lst zs)] (hz : xs.length + zs.length ≤ 100000) (q : ∀ p H2, Nw H p → Ex H H2 → At H2 p (.lst (xs ++ zs)) → Q (.ref p) H2) : rAdd K (.ref l) (.ref b) H Q :=
  .inr (.inr (.inl ⟨l, b, xs, zs, rfl, rfl, h1.eq, h2.eq, Nat.le_trans hz (by decide), g_new q⟩))
section
variable {X : Cx} {K : PySem.W.Frag} {e e2 : Expr} {ta : TA} {p pos tpos : Pos} {elts : List Expr} {kk : Nat}
theorem pi_zipK (h : X.K = K) (hg : Gl X "zip") (hm : X.mg "zip" = none) (ha : PA X [e, e2] ta)
    (hs : starEach [e, e2] X.env = (false, eval e X.env) :: starEach [e2] X.env := by rfl) (hpl : (backTo pos (starEach [e2] X.env)).any (·.1) = false := by rfl) :
    PI X (.Tuple elts kk tpos) (.Call (.Name "zip" p) [e, e2] [] pos) (iZip K ta) := h ▸ pi_zip hg hm ha hs hpl
theorem pi_enumK (h : X.K = K) (hg : Gl X "enumerate") (hm : X.mg "enumerate" = none) (ha : PA X [e] ta) (hs : starEach [e] X.env = [(false, eval e X.env)] := by rfl) :
    PI X (.Tuple elts kk tpos) (.Call (.Name "enumerate" p) [e] [] pos) (iEnum K ta) := h ▸ pi_enum hg hm ha hs
end
section
variable {K : PySem.W.Frag} {H : Hp} {Q : VK} {p : Addr} {xs acc : List V} {R : Prop}
instance [h : SqC K H p xs] : Step (rLen K [.ref p] H Q) (Q (.int (xs.length : Nat)) H) := ⟨g_len len_l⟩
instance (priority := high) {α : Type} {ns : List α} {f : α → V} [h : SqC K H p (ns.map f)] : Step (rLen K [.ref p] H Q) (Q (.int (ns.length : Nat)) H) := ⟨fun q => g_len len_l (by rw [List.length_map]; exact q)⟩
instance [h : StC K H p xs] : Step (rLen K [.ref p] H Q) (Q (.int (xs.length : Nat)) H) := ⟨g_len len_t⟩
instance [h : SqC K H p xs] : Step (tyV K "list" (.ref p) H ∧ R) R := ⟨g_tyL⟩
instance {P : List V → Hp → Prop} {D : Addr} [h : At H D (.lst acc)] : Step (rW D P H) (P acc H) := ⟨g_rW⟩
instance [h : At H p (.lst xs)] : Step (rIsi K [.ref p, .ty "list"] H Q) (Q (.bl true) H) := ⟨g_isL⟩
instance [h : At H p (.tup xs)] : Step (rIsi K [.ref p, .ty "tuple"] H Q) (Q (.bl true) H) := ⟨g_isT⟩
end
theorem cut1 {α : Type} {ds : List α} {f : α → V} : cutV (ds.map f) (some 1) none = (ds.drop 1).map f := by
  unfold cutV
  rw [show (some (1 : Int)) = some ((1 : Nat) : Int) from rfl, HT.sIx_nat, HT.sIx_none, List.length_map, List.map_drop]
  by_cases h : 1 ≤ ds.length
  · rw [Nat.min_eq_left h, List.take_of_length_le]
    simp
  · have e : ds = [] := List.length_eq_zero_iff.mp (by omega)
    subst e
    rfl
/-! ### lists and tuples of ints, compared -/
class IntsC (xs : List V) (ns : outParam (List Int)) : Prop where
  eq : xs = ns.map V.int
instance : IntsC [] [] := ⟨rfl⟩
instance {i : Int} {xs : List V} {ns : List Int} [h : IntsC xs ns] : IntsC (.int i :: xs) (i :: ns) := ⟨by rw [h.eq]; rfl⟩
instance {ns : List Int} : IntsC (ns.map V.int) ns := ⟨rfl⟩
instance {xs ys : List V} {ns ms : List Int} [h : IntsC xs ns] [k : IntsC ys ms] : IntsC (xs ++ ys) (ns ++ ms) := ⟨by rw [h.eq, k.eq, List.map_append]⟩
theorem dpInts {K : PySem.W.Frag} {H : Hp} : ∀ ns : List Int, DpAll K H (ns.map V.int) (ns.map PyData.int)
  | [] => .nil
  | n :: r => .cons (.int n) (dpInts r)
theorem eqInts : ∀ ns ms : List Int, PyData.eqvAll (ns.map PyData.int) (ms.map PyData.int) = decide (ns = ms)
  | [], [] => by simp [PyData.eqvAll]
  | [], _ :: _ => by simp [PyData.eqvAll]
  | _ :: _, [] => by simp [PyData.eqvAll]
  | n :: r, m :: t => by
    rw [List.map_cons, List.map_cons, PyData.eqvAll, eqInts r t]
    show ((n == m) && decide (r = t)) = _
    by_cases h : n = m <;> by_cases k : r = t <;> simp [h, k]
theorem layInts : ∀ ns : List Int, PyData.canLayAll0 (ns.map PyData.int) = true
  | [] => rfl
  | n :: r => by rw [List.map_cons, PyData.canLayAll0, layInts r]; rfl
theorem depInts : ∀ ns : List Int, PyData.depthAll (ns.map PyData.int) = 0
  | [] => rfl
  | n :: r => by rw [List.map_cons, PyData.depthAll, depInts r]; rfl
theorem shL (ns : List Int) : SeqAt.shaped (.list (ns.map PyData.int)) = true := by
  unfold SeqAt.shaped
  rw [PyData.canLay0, PyData.depth, layInts, depInts]
  rfl
theorem shT (ns : List Int) : SeqAt.shaped (.tuple (ns.map PyData.int)) = true := by
  unfold SeqAt.shaped
  rw [PyData.canLay0, PyData.depth, layInts, depInts]
  rfl
section
variable {K : PySem.W.Frag} {H : Hp} {Q : VK} {p q : Addr} {xs ys : List V} {ns ms : List Int}
instance [h : SqC K H p xs] [k : SqC K H q ys] [a : IntsC xs ns] [b : IntsC ys ms] : Step (rEqX K (.ref p) (.ref q) H Q) (Q (.bl (decide (ns = ms))) H) := ⟨fun z =>
  .inr ⟨_, _, .lst h.sq (by rw [a.eq]; exact dpInts ns), .lst k.sq (by rw [b.eq]; exact dpInts ms), shL ns, shL ms, by rw [PyData.eqv, eqInts]; exact z⟩⟩
instance [h : SqC K H p xs] [k : SqC K H q ys] [a : IntsC xs ns] [b : IntsC ys ms] : Step (rNeX K (.ref p) (.ref q) H Q) (Q (.bl (!decide (ns = ms))) H) := ⟨fun z =>
  .inr ⟨_, _, .lst h.sq (by rw [a.eq]; exact dpInts ns), .lst k.sq (by rw [b.eq]; exact dpInts ms), shL ns, shL ms, by rw [PyData.eqv, eqInts]; exact z⟩⟩
instance [h : StC K H p xs] [k : StC K H q ys] [a : IntsC xs ns] [b : IntsC ys ms] : Step (rEqX K (.ref p) (.ref q) H Q) (Q (.bl (decide (ns = ms))) H) := ⟨fun z =>
  .inr ⟨_, _, .tup h.st (by rw [a.eq]; exact dpInts ns), .tup k.st (by rw [b.eq]; exact dpInts ms), shT ns, shT ms, by rw [PyData.eqv, eqInts]; exact z⟩⟩
instance [h : StC K H p xs] [k : StC K H q ys] [a : IntsC xs ns] [b : IntsC ys ms] : Step (rNeX K (.ref p) (.ref q) H Q) (Q (.bl (!decide (ns = ms))) H) := ⟨fun z =>
  .inr ⟨_, _, .tup h.st (by rw [a.eq]; exact dpInts ns), .tup k.st (by rw [b.eq]; exact dpInts ms), shT ns, shT ms, by rw [PyData.eqv, eqInts]; exact z⟩⟩
end
theorem cutTo {α : Type} {ds : List α} {f : α → V} {n : Nat} : cutV (ds.map f) none (some (n : Int)) = (ds.take n).map f := by
  unfold cutV
  rw [HT.sIx_nat, HT.sIx_none, List.length_map, List.map_take, List.drop_zero, Nat.sub_zero]
  by_cases h : n ≤ ds.length
  · rw [Nat.min_eq_left h]
  · rw [Nat.min_eq_right (by omega), List.take_of_length_le (by simp), List.take_of_length_le (by simp; omega)]
theorem getD_mem {α : Type} {ns : List α} {i : Nat} {d : α} (h : i < ns.length) : ns.getD i d ∈ ns := by
  rw [List.getD_eq_getElem?_getD, List.getElem?_eq_getElem h, Option.getD_some]
  exact List.getElem_mem h
theorem getD_at {α : Type} {ns : List α} {i : Nat} {x d : α} (h : ns[i]? = some x) : ns.getD i d = x := by
  rw [List.getD_eq_getElem?_getD, h, Option.getD_some]
/-! ### xs[::-1], xs[k] = v, i in xs -/
section
variable {X : Cx} {K : PySem.W.Frag}
theorem pe_revLK (h : X.K = K) {e : Expr} {te : TE} {k : Nat} {p1 p2 p3 pos : Pos} (he : PE X e te) : PE X (.Subscript e (.Slice none none (some (.UnaryOp .USub (.Constant (.int 1) k p1) p2)) p3) pos) (tRevL K te) := h ▸ pe_revL he
variable {σ : L2.St} {H : Hp} {Q : VK} {p : Addr} {xs : List V} {ns : List Int} {te : TE}
def rRevL (K : PySem.W.Frag) (x : V) (H1 : Hp) (Q : VK) : Prop := ∃ a xs, x = .ref a ∧ SqL K H1 a xs ∧ ∀ p, H1 p = none → Q (.ref p) (upd H1 p (.lst xs.reverse))
instance : Step (tRevL K te σ H Q) (te σ H fun x H1 => rRevL K x H1 Q) := ⟨fun q => q⟩
theorem g_revL [h : SqC K H p xs] (q : ∀ p2 H2, Nw H p2 → Ex H H2 → At H2 p2 (.lst xs.reverse) → Q (.ref p2) H2) : rRevL K (.ref p) H Q := ⟨p, xs, rfl, h.sq, g_new q⟩
theorem ixN_nat {n i : Nat} (h : i < n) : ixN n (i : Int) = some i := by
  unfold ixN
  rw [if_pos (by omega), if_pos (by omega)]
  simp
theorem g_setI {k : Int} {v : Int} {R : Hp → Prop} [h : At H p (.lst (ns.map V.int))] (h0 : 0 ≤ k) (h1 : k < (ns.length : Int)) (q : ∀ H2, ExB p H H2 → At H2 p (.lst ((ns.set k.toNat v).map V.int)) → R H2) : rSetL (.ref p) (.int k) (.int v) H R := by
  obtain ⟨j, rfl⟩ : ∃ j : Nat, k = (j : Int) := ⟨k.toNat, by omega⟩
  refine g_set (j := j) (ixN_nat (by rw [List.length_map]; omega)) fun H2 e hp => q H2 e ?_
  rw [Int.toNat_natCast, List.map_set]
  exact hp
theorem inV_int {i : Int} : ∀ ns : List Int, inV (.int i) (ns.map V.int) = decide (i ∈ ns)
  | [] => by simp [inV]
  | n :: r => by
    have ih := inV_int (i := i) r
    unfold inV at *
    rw [List.map_cons, List.any_cons, ih]
    show ((n == i) || decide (i ∈ r)) = _
    rw [Bool.eq_iff_iff]
    simp only [Bool.or_eq_true, beq_iff_eq, decide_eq_true_eq, List.mem_cons]
    exact ⟨fun h => h.imp Eq.symm _root_.id, fun h => h.imp Eq.symm _root_.id⟩
theorem flat_ints : ∀ ns : List Int, (ns.map V.int).all flatV = true
  | [] => rfl
  | n :: r => by rw [List.map_cons, List.all_cons, flat_ints r]; rfl
instance {i : Int} [h : SqC K H p (ns.map V.int)] : Step (rIn K false (.int i) (.ref p) H Q) (Q (.bl (decide (i ∈ ns))) H) := ⟨fun q => ⟨p, _, rfl, .inl h.sq, rfl, flat_ints ns, by rw [if_neg Bool.false_ne_true, inV_int]; exact q⟩⟩
instance {i : Int} [h : SqC K H p (ns.map V.int)] : Step (rIn K true (.int i) (.ref p) H Q) (Q (.bl (!decide (i ∈ ns))) H) := ⟨fun q => ⟨p, _, rfl, .inl h.sq, rfl, flat_ints ns, by rw [if_pos rfl, inV_int]; exact q⟩⟩
theorem g_ixN {n : Nat} {v : V} [h : SqC K H p xs] (a : xs[n]? = some v) (q : Q v H) : rIx K (.ref p) (.int (n : Nat)) H Q := g_ixL (atI_nat a) q
theorem q_true {b : Bool} (k : Q (.bl b) H) (h : b = true) : Q (.bl true) H := h ▸ k
theorem q_false {b : Bool} (k : Q (.bl b) H) (h : b = false) : Q (.bl false) H := h ▸ k
end
theorem q_dec' {H : Hp} {Q : VK} {p : Prop} {_ : Decidable p} (k : Q (.bl (decide p)) H) (h : p) : Q (.bl true) H := by rw [decide_eq_true h] at k; exact k
theorem q_decN' {H : Hp} {Q : VK} {p : Prop} {_ : Decidable p} (k : Q (.bl (decide p)) H) (h : ¬ p) : Q (.bl false) H := by rw [decide_eq_false h] at k; exact k
theorem for1n {σ : L2.St} {H : Hp} {D : Ends} {tb : TS} {g : TG} {n : Int} (bs : List Addr) (Pv : Int → Nat → L2.St → Hp → Prop) (hn : -(2 ^ 62) ≤ n ∧ n < 2 ^ 62) (h0 : Pv n 0 σ H)
    (hs : ∀ (i : Nat) σ' H', (i : Int) < n → Chg bs H H' → Pv n i σ' H' → g (.int (i : Int)) σ' H' fun σ2 H2 => tb { D with nx := LI bs H (Pv n (i + 1)), ct := LI bs H (Pv n (i + 1)), bk := D.nx } σ2 H2)
    (hd : ∀ σ' H', Chg bs H H' → Pv n n.toNat σ' H' → D.nx σ' H') : rFor1 [.int n] g tb D σ H := for1 bs (Pv n) hn h0 hs hd
theorem cutFrom {α : Type} {ds : List α} {f : α → V} {n : Nat} : cutV (ds.map f) (some (n : Int)) none = (ds.drop n).map f := by
  unfold cutV
  rw [HT.sIx_nat, HT.sIx_none, List.length_map, List.map_drop]
  by_cases h : n ≤ ds.length
  · rw [Nat.min_eq_left h, List.take_of_length_le]
    simp
  · rw [Nat.min_eq_right (by omega), Nat.sub_self, List.take_zero, List.drop_eq_nil_of_le (by simp; omega)]
theorem getD_set {α : Type} {ds : List α} {p : Nat} {v d : α} (hp : p < ds.length) (i : Nat) : (ds.set p v).getD i d = if i = p then v else ds.getD i d := by
  rw [List.getD_eq_getElem?_getD, List.getElem?_set]
  by_cases e : p = i
  · subst e
    simp [hp]
  · rw [if_neg e, if_neg (fun z => e z.symm), List.getD_eq_getElem?_getD]
theorem cutB_from {α : Type} {l : List α} {n : Nat} : (l.drop (HT.sIx l.length 0 (some (n : Int)))).take (HT.sIx l.length l.length none - HT.sIx l.length 0 (some (n : Int))) = l.drop n := by
  rw [HT.sIx_nat, HT.sIx_none]
  by_cases h : n ≤ l.length
  · rw [Nat.min_eq_left h, List.take_of_length_le]
    simp
  · rw [Nat.min_eq_right (by omega), Nat.sub_self, List.take_zero, List.drop_eq_nil_of_le (by omega)]
theorem cutB_1 {α : Type} {l : List α} : (l.drop (HT.sIx l.length 0 (some 1))).take (HT.sIx l.length l.length none - HT.sIx l.length 0 (some 1)) = l.drop 1 := cutB_from (n := 1)
theorem cutB_to {α : Type} {l : List α} {n : Nat} : (l.drop (HT.sIx l.length 0 none)).take (HT.sIx l.length l.length (some (n : Int)) - HT.sIx l.length 0 none) = l.take n := by
  rw [HT.sIx_nat, HT.sIx_none, List.drop_zero, Nat.sub_zero]
  by_cases h : n ≤ l.length
  · rw [Nat.min_eq_left h]
  · rw [Nat.min_eq_right (by omega), List.take_of_length_le (Nat.le_refl _), List.take_of_length_le (by omega)]
theorem g_inT {K : PySem.W.Frag} {H : Hp} {Q : VK} {p : Addr} {xs : List V} {x : V} {neg b : Bool} [h : StC K H p xs] (hf : flatV x = true) (hx : xs.all flatV = true) (hb : inV x xs = b) (q : Q (.bl (if neg then !b else b)) H) : rIn K neg x (.ref p) H Q :=
  ⟨p, xs, rfl, .inr h.st, hf, hx, by rw [hb]; exact q⟩
theorem g_inL {K : PySem.W.Frag} {H : Hp} {Q : VK} {p : Addr} {xs : List V} {x : V} {neg b : Bool} [h : SqC K H p xs] (hf : flatV x = true) (hx : xs.all flatV = true) (hb : inV x xs = b) (q : Q (.bl (if neg then !b else b)) H) : rIn K neg x (.ref p) H Q :=
  ⟨p, xs, rfl, .inl h.sq, hf, hx, by rw [hb]; exact q⟩
end Gx

set_option linter.all false
set_option maxRecDepth 100000
set_option maxHeartbeats 2000000
/-! Gd: data compared at any depth. -/
namespace Gx
open PySem PySem.Spec PyProof.Rows L2
section
variable {K : PySem.W.Frag} {H : Hp} {Q : VK} {x y : V} {xs ys : List V} {d e : PyData} {ds es : List PyData} {p : Addr}
class DatC (K : PySem.W.Frag) (H : Hp) (x : V) (d : outParam PyData) : Prop where
  dp : Dp K H x d
class DatsC (K : PySem.W.Frag) (H : Hp) (xs : List V) (ds : outParam (List PyData)) : Prop where
  dp : DpAll K H xs ds
instance : DatC K H .non .none := ⟨.non⟩
instance {b : Bool} : DatC K H (.bl b) (.bool b) := ⟨.bl b⟩
instance {i : Int} : DatC K H (.int i) (.int i) := ⟨.int i⟩
instance {z : Str} : DatC K H (.str z) (.str z) := ⟨.str z⟩
instance [h : SqC K H p xs] [k : DatsC K H xs ds] : DatC K H (.ref p) (.list ds) := ⟨.lst h.sq k.dp⟩
instance [h : StC K H p xs] [k : DatsC K H xs ds] : DatC K H (.ref p) (.tuple ds) := ⟨.tup h.st k.dp⟩
instance : DatsC K H [] [] := ⟨.nil⟩
instance [h : DatC K H x d] [k : DatsC K H xs ds] : DatsC K H (x :: xs) (d :: ds) := ⟨.cons h.dp k.dp⟩
instance {ns : List Int} : DatsC K H (ns.map V.int) (ns.map PyData.int) := ⟨dpInts ns⟩
theorem g_eqD {b : Bool} [h : DatC K H x d] [k : DatC K H y e] (hd : SeqAt.shaped d = true) (he : SeqAt.shaped e = true) (hb : PyData.eqv d e = b) (q : Q (.bl b) H) : rEqX K x y H Q :=
  .inr ⟨_, _, h.dp, k.dp, hd, he, by rw [hb]; exact q⟩
theorem g_neD {b : Bool} [h : DatC K H x d] [k : DatC K H y e] (hd : SeqAt.shaped d = true) (he : SeqAt.shaped e = true) (hb : PyData.eqv d e = b) (q : Q (.bl (!b)) H) : rNeX K x y H Q :=
  .inr ⟨_, _, h.dp, k.dp, hd, he, by rw [hb]; exact q⟩
end
theorem g_ixIN {K : PySem.W.Frag} {H : Hp} {Q : VK} {p : Addr} {ns : List Int} {n : Nat} [h : SqC K H p (ns.map V.int)] (h1 : n < ns.length) (q : Q (.int (ns.getD n 0)) H) : rIx K (.ref p) (.int (n : Nat)) H Q :=
  g_ixI (by omega) (by omega) (by rw [Int.toNat_natCast]; exact q)
def rIsB : R2 := fun x y H Q => ∃ c d, x = .bl c ∧ y = .bl d ∧ Q (.bl (c == d)) H
def rNotB : R2 := fun x y H Q => ∃ c d, x = .bl c ∧ y = .bl d ∧ Q (.bl (c != d)) H
theorem op_isB {X : Cx} : OpR X (compareOp .Is) rIsB := by
  intro pins s σ H x y v u Q I rx ry h
  obtain ⟨c, d, rfl, rfl, q⟩ := h
  cases rx
  cases ry
  exact is_bool (fin_bl I q rfl)
theorem op_notB {X : Cx} : OpR X (compareOp .IsNot) rNotB := by
  intro pins s σ H x y v u Q I rx ry h
  obtain ⟨c, d, rfl, rfl, q⟩ := h
  cases rx
  cases ry
  exact isnot_bool (fin_bl I q rfl)
instance {H : Hp} {Q : VK} {c d : Bool} : Step (rIsB (.bl c) (.bl d) H Q) (Q (.bl (c == d)) H) := ⟨fun q => ⟨c, d, rfl, rfl, q⟩⟩
instance {H : Hp} {Q : VK} {c d : Bool} : Step (rNotB (.bl c) (.bl d) H Q) (Q (.bl (c != d)) H) := ⟨fun q => ⟨c, d, rfl, rfl, q⟩⟩
theorem sh2 {x y : Str} (hx : PyData.strOk x = true) (hy : PyData.strOk y = true) : SeqAt.shaped (.tuple [.str x, .str y]) = true := by
  simp [SeqAt.shaped, PyData.canLay0, PyData.canLayAll0, PyData.depth, PyData.depthAll, hx, hy]
theorem ev2 {x y z w : Str} : PyData.eqv (.tuple [.str x, .str y]) (.tuple [.str z, .str w]) = ((x == z) && (y == w)) := by
  simp [PyData.eqv, PyData.eqvAll]
theorem ev2_t {x y : Str} : PyData.eqv (.tuple [.str x, .str y]) (.tuple [.str x, .str y]) = true := by rw [ev2]; simp
theorem ev2_f {x y z w : Str} (h : x ≠ z) : PyData.eqv (.tuple [.str x, .str y]) (.tuple [.str z, .str w]) = false := by
  rw [ev2, show (x == z) = false from by simpa using h]; rfl
section
variable {σ : L2.St} {H : Hp} {g : TG} {tb : TS} {D : Ends}
theorem forS {z : Str} (bs : List Addr) (Pv : Nat → L2.St → Hp → Prop) (h0 : Pv 0 σ H)
    (hs : ∀ (i : Nat) c x σ' H', i < z.cps.size → z.cps[i]? = some c → x = .str ⟨#[c]⟩ → Chg bs H H' → Pv i σ' H' → g x σ' H' fun σ2 H2 => tb { D with nx := LI bs H (Pv (i + 1)), ct := LI bs H (Pv (i + 1)), bk := D.nx } σ2 H2)
    (hd : ∀ σ' H', Chg bs H H' → Pv z.cps.size σ' H' → D.nx σ' H') : rForS (.str z) g tb D σ H :=
  ⟨z, rfl, for_feeds fd_str bs Pv h0 (fun _ _ => trivial) (fun i σ' H' x H'' hi r p y => by
    obtain ⟨rfl, c, hc, rfl⟩ := y
    exact hs i c _ σ' _ hi hc rfl r p) hd⟩
end
end Gx

set_option linter.all false
set_option maxRecDepth 100000
set_option maxHeartbeats 2000000
namespace Gx
open PySem PySem.Spec PyProof.Rows L2
/-! ### an own exception class over ValueError whose __init__ begins with super().__init__(e) -/
section
open PySem.W PySem.Calls PyProof.Rows
variable {prog : Program} {w : World} {A : Around} {E : Value → Shared → Prop} {h : Heap} {g : Array GenState} {d : Drawn} {t : Nat} {os : OsState}
variable {nm q : Str} {C N : Addr} {bs bm : List Value} {hdct : Bool} {sn : List Str} {sub : List Value} {ab : Bool} {col : Option Bool} {dd : Option Addr} {k0 k1 k2 k3 k5 : Option Value}
theorem call_mw {u e t0 : Addr} {rest : List Value} {Q : Value → Shared → Prop}
    (hC : h.get? C = some (excClassObj nm q C N bs bm hdct sn sub ab col dd k0 k1 k2 k3 k5 "ValueError.__new__")) (he : h.get? e = some (HandSPX.excO C t0)) (hu : h.get? u = some (kxs_mw "ValueError.__init__" e)) (hrest : rest.length ≤ sizeLine)
    (hq : ∀ h' t1, (∀ b o, b ≠ e → h.get? b = some o → h'.get? b = some o) → h'.get? e = some (HandSPX.excO C t1) → Q .none ⟨h', g, d, t, os⟩) :
    wpAny (model prog w) A (call (.ref u) rest) Q E ⟨h, g, d, t, os⟩ := by
  refine wpAny_call (codeAny_of_tree ?_)
  show wpAny _ A.in1 (callAny (.ref u) ⟨rest, []⟩) _ _ _
  simp only [callAny]
  refine wpAny_bind (wpAny_load hu ?_)
  simp only [kxs_mw, show (Value.type "method-wrapper" == Value.type "method" || Value.type "method-wrapper" == Value.type "builtin_function_or_method" || Value.type "method-wrapper" == Value.type "method-wrapper") = true by decide, if_true]
  refine W.KFB.if_so (by decide) ?_
  refine wpAny_bind (ESX.check_bound F.excBase_ValueError hC he rfl ?_)
  refine wpAny_bind (wpAny_pure (wpAny_pure ?_))
  refine ⟨Code.quiet_builtin _ (by decide +kernel), codeAny_builtin F.excBase_ValueError.initEntry ?_⟩
  rw [Around.under_plainId F.excBase_ValueError.init.plain _]
  wp_walk
  refine hq _ h.objs.size (fun b o hb ho => ?_) ?_
  · rw [Heap.get?_update_other _ _ (Ne.symm hb)]
    exact Heap.get?_push_of_some _ ho
  · rw [Heap.get?_update_self _ (Heap.get?_push_of_some _ he) rfl]
    rfl
end
section
open PySem.W PySem.Calls PyProof.Rows NdefX
theorem look1 {x y : Str} {c c' : Addr} (h : ([(x, c)] : List (Str × Addr)).lookup y = some c') : y = x ∧ c' = c := by
  unfold List.lookup at h
  split at h
  · rename_i e
    exact ⟨eq_of_beq e, (Option.some.inj h).symm⟩
  · simp at h
/-- what the written part says of an __init__ (at f, of the class at D) that says super() -/
structure SupF (P : Program) (K : Frag) (mg : Str → Option Value) (f D : Addr) (qual : Str) (st : Stmt) (ps : List Str) (fd : FuncData) : Prop where
  ex : ∃ (c cc : Addr) (oc doc pm ct cl ccl : Value) (od cld cdd : Option Addr) (osl csl ccs : Array (Option Value)) (vs : Array Value) (file : Str) (tf : Tok) (cdD : ClassData),
    fd = fnX "__init__" qual (defArgs st) (defBody st) (defScope st) [("__class__", cc)] .none .none doc pm none (.ref c) ct ∧ K.lookup f = some ⟨oc, od, .func fd, osl⟩ ∧ codeIn K (.ref c) qual = true ∧
    K.lookup c = some ⟨ccl, cdd, .fields vs, ccs⟩ ∧ vs[2]? = some (.str file tf) ∧ ((P.main.file : Str) == file) = true ∧ K.lookup cc = some ⟨cl, cld, .cell (some (.ref D)), csl⟩ ∧ clsIn K D = some cdD
  nsup : mg "super" = none
  top : (P.main.scope.names.lookup ("super" : Str)).isSome = false
  opq : nsIn K cStatics "thirdparty.any" = some none
/-- .. of the class C whose instance it is given -/
structure SupC (K : Frag) (C D : Addr) : Prop where
  oex : OexC K C
  mro : mroIn K C (.ref D) = some true
  sup : ks_superIn K C D "__init__" = some (some (.builtin "ValueError.__init__"))
  sub : subIn K (.ref C) (.type "ValueError") = some true
variable {P : Program} {w : World} {K : Frag} {mg : Str → Option Value} {base : Heap} {k : Nat} {N ps : List Str} {f D : Addr} {qual : Str} {st : Stmt} {fd : FuncData} {sp : Sp}
theorem sup_ok {e : Expr} {rest : List Stmt} {p0 p1 p2 p3 p4 : Pos} {self : Str} {ar : Arg} (F : SupF P K mg f D qual st ps fd) (S : NScope N ps ["__class__"] (defScope st))
    (hbody : defBody st = .Expr (.Call (.Attribute (.Call (.Name "super" p0) [] [] p1) "__init__" p2) [e] [] p3) p4 :: rest)
    (hps : ps.head? = some self) (har : ((defArgs st).posonlyargs ++ (defArgs st).args).head? = some ar) (hself : ar.arg = self) (hks : (defScope st).names.lookup ("super" : Str) = some .globalImplicit)
    (hb : ∀ (c cc : Addr) (doc pm ct : Value) (us : List Value), us.length = ps.length → bindArgs (fnX "__init__" qual (defArgs st) (defBody st) (defScope st) [("__class__", cc)] .none .none doc pm none (.ref c) ct) ⟨us, []⟩ = pure (ps.zip us))
    (hsw : ∀ (c cc f L : Addr), swapsWith (.Call (.Attribute (.Call (.Name "super" p0) [] [] p1) "__init__" p2) [e] [] p3) none p4.line (envX qual (defScope st) L f (.ref c) [("__class__", cc)]) = pure false)
    (hin : ∀ (c cc f L : Addr), interactive (envX qual (defScope st) L f (.ref c) [("__class__", cc)]) = false)
    (hev : ∀ (c cc f L : Addr), ∃ pl : Sem Bool, eval (.Call (.Attribute (.Call (.Name "super" p0) [] [] p1) "__init__" p2) [e] [] p3) (envX qual (defScope st) L f (.ref c) [("__class__", cc)]) = (do
      let ov ← attributeBase (.Call (.Name "super" p0) [] [] p1) "__init__" (envX qual (defScope st) L f (.ref c) [("__class__", cc)]) (eval (.Call (.Name "super" p0) [] [] p1) (envX qual (defScope st) L f (.ref c) [("__class__", cc)]))
      standAt p2.atName
      let (f', first) ← holding [ov] (getMethod ov "__init__" pl)
      callWith p3 f' first (backTo p3 (starEach [e] (envX qual (defScope st) L f (.ref c) [("__class__", cc)]))) []))
    (hst : ∀ (c cc f L : Addr), starEach [e] (envX qual (defScope st) L f (.ref c) [("__class__", cc)]) = [(false, eval e (envX qual (defScope st) L f (.ref c) [("__class__", cc)]))])
    (len : ∀ vs H Q E, sp vs H Q E → vs.length = ps.length)
    (hread : ∀ (c cc : Addr) (A : Around) (outer : List Env) (s : Shared) (H : Hp) (vs : List V) (Q : VK) (E : XK), Room k (A.deeper (envX qual (defScope st) s.heap.objs.size f (.ref c) [("__class__", cc)])) → sp vs H Q E →
      ∃ ta ts a C r, PA (ncx CX0 P w K mg base N ⟨"__init__", qual, defArgs st, defBody st, defScope st, [("__class__", cc)], c⟩ f A outer s H E) [e] ta ∧ PSs (ncx CX0 P w K mg base N ⟨"__init__", qual, defArgs st, defBody st, defScope st, [("__class__", cc)], c⟩ f A outer s H E) rest ts ∧
        vs = .ref a :: r ∧ SupC K C D ∧ H a = some (exo a C none) ∧ ta (startF N vs [none]) H fun zs H1 => zs.length ≤ 1000 ∧ H1 a = some (exo a C none) ∧ ts { nx := fun _ H' => Q .non H', rt := Q } (startF N vs [none]) H1) :
    FnOk P w K mg base CX0 (k + 1) f fd ps sp := by
  obtain ⟨c, cc, oc, doc, pm, ct, cl, ccl, od, cld, cdd, osl, csl, ccs, vv, file, tf, cdD, rfl, lk, hcd, lc, hv2, hfile, lcc, hD⟩ := F.ex
  refine ⟨len, fun A outer s H args us vs Q E hr e0 hbd r hsp => ?_⟩
  have KX : K.In s.heap := e0.mod.kin.keeps fun b o e => (e0.bs b o e).1
  have hl := len _ _ _ _ hsp
  have lim : s.heap.NoLimit := e0.mod.nolimit.keeps fun b o e => (e0.bs b o e).1
  have hcc : H cc = none := (e0.bs cc _ (e0.mod.kin _ _ lcc)).2
  have CA : CellsAt [("__class__", cc)] ["__class__"] [none] s.heap H := by
    refine ⟨rfl, fun y c' hy => ?_, fun x y c' hx hy => ?_, fun i y hy => ?_⟩
    · obtain ⟨_, rfl⟩ := look1 hy
      exact ⟨hcc, _, _, KX _ _ lcc, rfl⟩
    · rw [(look1 hx).1, (look1 hy).1]
    · cases i with
      | zero => simp at hy; subst hy; exact ⟨cc, rfl, fun v hv => by simp at hv⟩
      | succ i => simp at hy
  refine ks_codeAny_call_defAt (body := defBody st) (binds := ps.zip us) hr.depth (KX _ _ lk) rfl lim (codeRec_of KX hcd) rfl hbd S.nocell (fun ⟨n, v⟩ hy => S.par n (List.of_mem_zip hy).1) (fun h₁ hns kp => ?_) S.co S.gen S.kind
  obtain ⟨ta, ts, a, C, r', pa, ps', rfl, SC, ha, hq⟩ := hread c cc A outer s H vs Q E (hr.deeper _) hsp
  have I : Inv (ncx CX0 P w K mg base N ⟨"__init__", qual, defArgs st, defBody st, defScope st, [("__class__", cc)], c⟩ f A outer s H E) [] (startF N (.ref a :: r') [none]) H { s with heap := h₁, toks := s.toks + (ps.zip us).length } := inv_startN S hr.hd e0 hl r CA hns kp
  show _root_.PySem.wpAt (model P w) (A.deeper (envX qual (defScope st) s.heap.objs.size f (.ref c) [("__class__", cc)])) (.func (defBody st) (envX qual (defScope st) s.heap.objs.size f (.ref c) [("__class__", cc)])) (execs (defBody st) (envX qual (defScope st) s.heap.objs.size f (.ref c) [("__class__", cc)])) _ _ _
  rw [hbody]
  obtain ⟨pl, hev'⟩ := hev c cc f s.heap.objs.size
  refine ks_wpAt_execs_cons (ks_wpAt_Expr_any (ks_wpAt_MethodCall (pl := pl) ?_ hev') (hin c cc f s.heap.objs.size) (hsw c cc f s.heap.objs.size))
  obtain ⟨tC, hoe⟩ := exo_at I.hok ha
  have XI : K.In h₁ := KX.keeps kp
  obtain ⟨oD, hD1, hD2⟩ : ∃ oD, h₁.get? D = some oD ∧ oD.data = .cls cdD := by
    unfold clsIn at hD
    split at hD
    · rename_i c d cd' sl ho
      cases hD
      exact ⟨_, XI _ _ ho, rfl⟩
    · cases hD
  have IA : InstAt h₁ a { cls := .ref C, dict := none, data := .fields #[.ref tC, .none, .none, .none, .bool false, .none] } C none := ⟨hoe, rfl, rfl, trivial⟩
  obtain ⟨mb, hmb, hmbv⟩ := I.mod.blt
  have hself' : (fun y => (ps.zip us).reverse.lookup y) ar.arg = some (.ref a) := by
    have ndP : ps.Nodup := by
      have q := S.nd.sublist (List.take_sublist (ps.length + 1) N)
      have e1 := S.pre
      rw [show (["__class__"] : List Str).length = 1 from rfl] at e1
      rw [e1] at q
      exact (List.nodup_append.mp q).1
    cases r with
    | @cons _ u0 _ ur ra rw' =>
      obtain rfl : u0 = Value.ref a := ra
      refine zip_look (i := 0) ndP ?_ rfl
      rw [hself]
      cases ps with
      | nil => simp at hps
      | cons x y => simpa using hps
  refine ks_wpAt_super_base (env := envX qual (defScope st) s.heap.objs.size f (.ref c) [("__class__", cc)]) hks (S.frk _ (by simp)) rfl rfl (XI _ _ lk) rfl har rfl (XI _ _ lc) rfl hv2 hfile F.top ?_
  refine ks_loadName_global S.kind hks (loadGlobal_builtin (env := envX qual (defScope st) s.heap.objs.size f (.ref c) [("__class__", cc)]) (I.mod.glob.keeps I.bk) F.nsup (hmb.keeps I.bk) ((hmbv _ (by decide)).trans PyProof.Rows.Boot.«super») ⟨rfl, ?_⟩)
  refine wpAny_loadName_free S.kind (S.frk _ (by simp)) rfl ⟨_, XI _ _ lcc, rfl⟩ ?_
  refine wpAny_loadName_local S.kind (S.par _ (by rw [hself]; exact List.mem_of_mem_head? hps)) hns hself' ?_
  refine ks_wpAny_isType_cls hD1 hD2 ⟨rfl, ?_⟩
  refine ks_wpAny_call_super hD1 hD2 IA.at_ IA.cls (fun c e => by cases e) (looks_mroIn XI SC.mro) (fun h' eS k' => ?_)
  have X' : K.In h' := XI.keeps k'
  have hlt : h₁.objs.size < h'.objs.size := Heap.lt_size eS
  have IA' : InstAt h' a { cls := .ref C, dict := none, data := .fields #[.ref tC, .none, .none, .none, .bool false, .none] } C none := ⟨k' _ _ hoe, rfl, rfl, trivial⟩
  have hsup := SC.sup
  cases hc : clsIn K C with
  | none => unfold ks_superIn at hsup; rw [hc] at hsup; cases hsup
  | some cd =>
  unfold ks_superIn at hsup
  rw [hc] at hsup
  have hI : Looks (model P w) h' (isInstance (.ref a) (.type "ValueError")) true := IA'.type.andThen (looks_subIn X' SC.sub)
  refine kxs_getMethod kxs_ValueError eS (looks_opaque X' F.opq) (l₀ := cd.mro) (fun A Q E s k q => wpAny_bind ((looks_clsIn X' hc) A _ E s k (wpAny_pure q))) rfl X' hsup hI (ks_ne X' IA' hc) rfl ?_
  have hk2 : ∀ b o, h₁.get? b = some o → (h'.push (kxs_mw "ValueError.__init__" a)).get? b = some o := fun b o z => Heap.get?_push_of_some _ (k' b o z)
  have hu : (h'.push (kxs_mw "ValueError.__init__" a)).get? h'.objs.size = some (kxs_mw "ValueError.__init__" a) := Heap.get?_push_at rfl rfl
  have I2 := ClX.pin_new (t' := s.toks + (ps.zip us).length + 1) (a := h'.objs.size) I hk2 (Nat.le_of_lt hlt) hu (fun v z => by cases z)
  have hpa := pa.run p3 _ _ _ _ _ I2 hq
  have hst' := hst c cc f s.heap.objs.size
  have hpa : wpAny (model P w) (A.deeper (envX qual (defScope st) s.heap.objs.size f (.ref c) [("__class__", cc)])) (spliced (backTo p3 (starEach [e] (envX qual (defScope st) s.heap.objs.size f (.ref c) [("__class__", cc)])))) _ _ _ := hpa
  rw [hst'] at hpa ⊢
  refine kxs_callWith (i := "ValueError.__init__") (x := a) rfl (evalArgs_plain (wpAny_mono hpa (fun us1 s1 hz => ?_) fun _ _ z => z))
  obtain ⟨zs, H1, I3, r1, hz1, ha1, hq1⟩ := hz
  have hu1 := ClX.pin_at I3
  obtain ⟨t1, ho1⟩ := exo_at I3.hok ha1
  obtain ⟨nm, q, N', bs, bm, sn, sub, ab, col, dd, k0, k1, k2, k3, k5, hC, hbm⟩ := SC.oex.cls
  refine ⟨hu1, ?_⟩
  obtain ⟨hp1, g1, d1, tk1, os1⟩ := s1
  refine call_mw (I3.kIn _ _ hC) ho1 hu1 (by have := r1.length; rw [List.nil_append, ← this, sizeLine_eq]; omega) fun h2 t2 kk hx => ?_
  have J := I3.write (t' := tk1) (x := a) (e := a) (o := exo a C none) (by rw [ha1]; exact True.intro) (.inl rfl) kk ⟨_, hx⟩ (exo_ok hx)
  have eu : upd H1 a (exo a C none) = H1 := by
    funext b
    by_cases hb : b = a
    · rw [hb, upd_same, ha1]
    · rw [upd_ne hb]
  rw [eu] at J
  refine wpAt_of_wpAny (wpAny_mono (ps'.run [] _ (startF N (.ref a :: r') [none]) H1 _ (ClX.unpin J) hq1) (fun fl s' hs => ?_) fun e s' hs => hs)
  have fin : ∀ {σ' : L2.St} {H' : Hp} {v : V} {u : Value}, Inv (ncx CX0 P w K mg base N ⟨"__init__", qual, defArgs st, defBody st, defScope st, [("__class__", cc)], c⟩ f A outer s H E) [] σ' H' s' → L2.RelV v u → Q v H' → CE outer P w H s Q u s' :=
    fun {σ' H' v u} J rv q => ⟨v, H', J.os, J.bare, J.base, J.hok, rv, q⟩
  cases fl with
  | ret u =>
    obtain ⟨v, σ', H', J, rv, q⟩ := hs
    exact fin J rv q
  | next =>
    obtain ⟨σ', H', J, q⟩ := hs
    exact fin (v := V.non) (u := Value.none) J rfl q
  | brk =>
    obtain ⟨_, _, _, q⟩ := hs
    exact False.elim q
  | cont =>
    obtain ⟨_, _, _, q⟩ := hs
    exact False.elim q
end
/-! ### exceptions of the program: one field -/
def FmtV (v : V) : Prop := (∃ y : Str, v = .str y ∧ y.length ≤ 1000) ∨ ∃ i : Int, v = .int i ∧ -(2 ^ 200) < i ∧ i < 2 ^ 200
def spEx1 (C : Addr) (n : Str) : Sp := fun vs H Q _ => ∃ (a : Addr) (v : V), vs = [.ref a, v] ∧ (H a = some (exo a C none) ∧ FmtV v) ∧
  ∀ d H', H d = none → d ≠ a → (∀ b o, b ≠ a → H b = some o → H' b = some o) → (∀ b, H' b = none → H b = none) → H' a = some (exo a C (some d)) → H' d = some (exd d [(n, v)]) → Q .non H'
/-- what the written part says of an own class -/
structure ExD (P : Program) (K : PySem.W.Frag) (mg : Str → Option Value) (x qual : Str) (st : Stmt) (ps : List Str) (C : Addr) : Prop where
  mgC : mg x = some (.ref C)
  sup : SupC K C C
  fld : ∀ n, ps[1]? = some n → PySem.W.findIn K (.ref C) n = some none
  ini : ∃ (f : Addr) (fd : FuncData), PySem.W.findIn K (.ref C) "__init__" = some (some (.ref f)) ∧ PySem.W.typeIn K (.ref f) = some (.type "function") ∧ SupF P K mg f C qual st ps fd
/-- the class may be called -/
structure ExK (P : Program) (w : World) (K : PySem.W.Frag) (mg : Str → Option Value) (base : Heap) (k : Nat) (x : Str) (C : Addr) (n : Str) : Prop where
  mgC : mg x = some (.ref C)
  oex : OexC K C
  ini : ∃ (f : Addr) (fd : FuncData), PySem.W.findIn K (.ref C) "__init__" = some (some (.ref f)) ∧ PySem.W.typeIn K (.ref f) = some (.type "function") ∧ FnOk P w K mg base CX0 k f fd ["self", n] (spEx1 C n) ∧ Binds K fd ["self", n] []
def rMk1 (C : Addr) (n : Str) (vs : List V) (H1 : Hp) (Q : XK) : Prop := vs.length ≤ 1000 ∧ ∀ a, H1 a = none → spEx1 C n (.ref a :: (vs ++ [])) (upd H1 a (exo a C none))
  (fun v H2 => v = .non ∧ ∃ (d : Addr) (fs : List (Str × V)), H2 a = some (exo a C (some d)) ∧ H2 d = some (exd d fs) ∧ H1 d = none ∧ Q (.ref C) (some d) (upd (del H2 a) d (.xd fs))) (fun _ _ _ => False)
def tMk1 (C : Addr) (n : Str) (ta : TA) : L2.St → Hp → XK → Prop := fun σ H Q => ta σ H fun vs H1 => rMk1 C n vs H1 Q
theorem g_mk1 {C : Addr} {n : Str} {v : V} {H1 : Hp} {Q : XK} (hv : FmtV v) (q : ∀ d H', Nw H1 d → Ex H1 H' → At H' d (.xd [(n, v)]) → Q (.ref C) (some d) H') : rMk1 C n [v] H1 Q := by
  refine ⟨by simp, fun a ha => ⟨a, v, rfl, ⟨upd_same, hv⟩, fun d H' hd hda keep live ha' hd' => ?_⟩⟩
  have hd1 : H1 d = none := by rw [upd_ne hda] at hd; exact hd
  have K1 : ∀ b o, H1 b = some o → H' b = some o := fun b o hb => by
    have hba : b ≠ a := ne_of_none hb ha
    exact keep b o hba (by rw [upd_ne hba]; exact hb)
  refine ⟨rfl, d, _, ha', hd', hd1, q d _ ⟨hd1⟩ ⟨fun b o _ hb => ?_, fun b hb => ?_, fun b o _ hb => ?_⟩ ⟨upd_same⟩⟩
  rotate_left 2
  · rw [upd_ne (ne_of_none hb hd1), del_ne (ne_of_none hb ha)]
    exact K1 b o hb
  · rw [upd_ne (ne_of_none hb hd1), del_ne (ne_of_none hb ha)]
    exact K1 b o hb
  · by_cases hbd : b = d
    · rw [hbd]; exact hd1
    · rw [upd_ne hbd] at hb
      by_cases hba : b = a
      · rw [hba]; exact ha
      · rw [del_ne hba] at hb
        have := live b hb
        rw [upd_ne hba] at this
        exact this
theorem pmk1 {X : Cx} {k : Nat} {x n : Str} {C : Addr} {e : Expr} {ta : TA} {p pos : Pos} (M : ExK X.prog X.w X.K X.mg X.base k x C n) (hr : Room (k + 1) X.A) (hg : Gl X x) (ha : PA X [e] ta)
    (hdb : (x == ("__debug__" : Str)) = false := by decide) (he : starEach [e] X.env = (false, eval e X.env) :: starEach [] X.env := by rfl) (hpl : (backTo pos (starEach [] X.env)).any (·.1) = false := by rfl) :
    PMk X (.Call (.Name x p) [e] [] pos) (tMk1 C n ta) := by
  obtain ⟨f, fd, i1, i2, F, b⟩ := M.ini
  exact pmk_oex (sp := spEx1 C n) (dvs := []) M.oex i1 i2 F hr b .nil pass0 hg M.mgC ha hdb he hpl
/-! defs that may raise -/
section
variable {P : Program} {w : World} {K : PySem.W.Frag} {mg : Str → Option Value} {base : Heap}
structure ClX (P : Program) (w : World) (K : PySem.W.Frag) (mg : Str → Option Value) (base : Heap) (k : Nat) (x : Str) (ps : List Str) (sp : Sp) : Prop where
  ex : ∃ (f : Addr) (fd : FuncData), mg x = some (.ref f) ∧ PySem.W.keepIn K (.ref f) = true ∧ (∀ us : List Value, us.length = ps.length → bindArgs fd ⟨us, []⟩ = pure (ps.zip us)) ∧ FnOk P w K mg base (L2.CX P w) k f fd ps sp
theorem Df.okX {x : Str} {st : Stmt} {N ps : List Str} {k : Nat} {sp : Sp} (D : Df K mg x st ps) (S : FnScope N ps (defScope st)) (len : ∀ vs H Q E, sp vs H Q E → vs.length = ps.length)
    (hbody : ∀ (f : Addr) (cdv : Value) (A : Around) (outer : List Env) (s : Shared) (H : Hp) (vs : List V) (Q : VK) (E : XK), Room k (A.deeper (envOfC x (defScope st) s.heap.objs.size f cdv)) → sp vs H Q E →
      ∃ t, PSs (cxOf (L2.CX P w) P w K mg base N x (defScope st) f cdv A outer s H E) (defBody st) t ∧ t { nx := fun _ H' => Q .non H', rt := Q } (start N vs) H) : ClX P w K mg base (k + 1) x ps sp := by
  obtain ⟨f, fd, h1, h2, h3⟩ := D.ex
  exact ⟨f, fd, h1, h2.kp, h3, h2.okX S len fun cdv A outer s H vs Q E hr h => hbody f cdv A outer s H vs Q E hr h⟩
theorem takesX {N : List Str} {qual : Str} {scope : Scope} {f : Addr} {cd : Value} {A : Around} {outer : List Env} {s : Shared} {H : Hp} {E : XK} : Takes (cxOf (L2.CX P w) P w K mg base N qual scope f cd A outer s H E) (fun cls d _ H => E cls d H) := takes_of rfl rfl rfl rfl
end
section
variable {X : Cx} {x : Str} {p pos : Pos} {e : Expr} {es : List Expr} {t : TA} {k : Nat} {ps : List Str} {sp : Sp} {W : WX}
theorem pe_clX (C : ClX X.prog X.w X.K X.mg X.base k x ps sp) (hr : Room k X.A) (tk : Takes X W) (ha : PA X (e :: es) t) (hg : Gl X x := by rfl) (hdb : (x == ("__debug__" : Str)) = false := by decide)
    (he : starEach (e :: es) X.env = (false, eval e X.env) :: starEach es X.env := by rfl) (hpl : (backTo pos (starEach es X.env)).any (·.1) = false := by rfl) :
    PE X (.Call (.Name x p) (e :: es) [] pos) (tCallS sp (WE W) t) := by
  obtain ⟨f, fd, h1, h2, h3, h4⟩ := C.ex
  exact pe_callS h4 hr hg h1 h2 (Binds.all h3) (passAt tk) ha hdb he hpl
end
section
variable {σ : L2.St} {H : Hp} {Q : VK} {E : L2.St → XK} {sp : Sp} {tl : TA}
instance : Step (tCallS sp E tl σ H Q) (tl σ H fun vs H1 => sp vs H1 Q (E σ)) := ⟨fun q => q⟩
end
/-! a def called within an except suite with the caught exception among its arguments -/
open L2H
structure FnS (P : Program) (w : World) (K : PySem.W.Frag) (mg : Str → Option Value) (base : Heap) (CX : CXT) (k : Nat) (f : Addr) (fd : FuncData) (ps : List Str) (sp : Addr → Value → Option Addr → Sp) : Prop where
  len : ∀ a c d vs H Q E, sp a c d vs H Q E → vs.length = ps.length
  run : ∀ (A : Around) (outer : List Env) (s : Shared) (H : Hp) (args : Args) (us : List Value) (vs : List V) (Q : VK) (E : XK) (a : Addr) (oe : Obj) (c : Value) (d : Option Addr), RoomH k A → PinOk outer H s (a, oe) → Zc c d oe → (∃ fv, oe.data = .fields fv) → Env0 P w K mg base A outer s H → BindsTo s fd args (ps.zip us) → Vals vs us → sp a c d vs H Q E →
    codeAny (model P w) A (.call (.ref f) args) (CR CX outer P w H s Q E) s
theorem fn_ofS {CX : CXT} {P : Program} {w : World} {K : PySem.W.Frag} {mg : Str → Option Value} {base : Heap} {k : Nat} {f : Addr} {name qual : Str} {params : Arguments} {body : List Stmt} {scope : Scope} {dV kV doc pm cdv ct oc : Value} {an od : Option Addr}
    {osl : Array (Option Value)} {N ps : List Str} {sp : Addr → Value → Option Addr → Sp} (lk : K.lookup f = some ⟨oc, od, .func (PySem.W.fnOf name qual params body scope dV kV doc pm an cdv ct), osl⟩) (hcd : PySem.W.codeIn K cdv qual = true) (S : FnScope N ps scope)
    (len : ∀ a c d vs H Q E, sp a c d vs H Q E → vs.length = ps.length)
    (hbody : ∀ (A : Around) (outer : List Env) (s : Shared) (H : Hp) (vs : List V) (Q : VK) (E : XK) (a : Addr) (oe : Obj) (c : Value) (d : Option Addr), RoomH k (A.deeper (envOfC qual scope s.heap.objs.size f cdv)) → Zc c d oe → (∃ fv, oe.data = .fields fv) → sp a c d vs H Q E →
      ∃ t, PSs (cxH CX P w K mg base N qual scope f cdv A outer s H E (a, oe)) body t ∧ t { nx := fun _ H' => Q .non H', rt := Q } (L2.start N vs) H) :
    FnS P w K mg base CX (k + 1) f (PySem.W.fnOf name qual params body scope dV kV doc pm an cdv ct) ps sp := by
  refine ⟨len, fun A outer s H args us vs Q E a oe c d hr hpin hz hf e0 hb r hsp => ?_⟩
  have hl := len _ _ _ _ _ _ _ hsp
  have KX : K.In s.heap := e0.mod.kin.keeps fun b o e => (e0.bs b o e).1
  have lim : s.heap.NoLimit := e0.mod.nolimit.keeps fun b o e => (e0.bs b o e).1
  have hkind : ∀ y ∈ ps.zip us, scope.names.lookup y.1 = some .local ∨ (scope.names.lookup y.1 = some .cell ∧ ((cellsFrom (s.heap.objs.size + 1) scope.names []).lookup y.1).isSome = true) := fun ⟨n, v⟩ hy => by
    rcases S.par n (List.of_mem_zip hy).1 with q | q
    · exact .inl q
    · exact .inr ⟨q, PySem.W.cellsFrom_some _ _ _ (.inl q)⟩
  refine codeAny_call_function hr.depth (KX _ _ lk) rfl S.co S.gen rfl (PySem.W.codeRec_of KX hcd) (hb _ _ _ _ ?_)
  refine wpAny_newFunctionEnv_cells S.kind hkind fun env he s1 x => ?_
  subst he
  refine ⟨lim.keeps x.toInCall.keep, codeAny_func ?_⟩
  obtain ⟨t, ht, hq⟩ := hbody A outer s H vs Q E a oe c d (hr.deeper _) hz hf hsp
  have I : Inv (cxH CX P w K mg base N qual scope f cdv A outer s H E (a, oe)) [] (L2.start N vs) H s1 := inv_startH S hpin e0 hl r x
  refine wpAny_mono (ht.run [] s1 (L2.start N vs) H _ I hq) (fun fl s' hs => ?_) fun e s' hs => hs
  have fin : ∀ {σ' : L2.St} {H' : Hp} {v : V} {u : Value}, Inv (cxH CX P w K mg base N qual scope f cdv A outer s H E (a, oe)) [] σ' H' s' → RelV v u → Q v H' → CE outer P w H s Q u s' :=
    fun {σ' H' v u} J rv q => ⟨v, H', J.os, J.bare, J.base, J.hok, rv, q⟩
  cases fl with
  | ret u =>
    obtain ⟨v, σ', H', J, rv, q⟩ := hs
    exact fin J rv q
  | next =>
    obtain ⟨σ', H', J, q⟩ := hs
    exact fin (v := V.non) (u := Value.none) J rfl q
  | brk =>
    obtain ⟨_, _, _, q⟩ := hs
    exact False.elim q
  | cont =>
    obtain ⟨_, _, _, q⟩ := hs
    exact False.elim q
structure ClS (P : Program) (w : World) (K : PySem.W.Frag) (mg : Str → Option Value) (base : Heap) (k : Nat) (x : Str) (ps : List Str) (sp : Addr → Value → Option Addr → Sp) : Prop where
  ex : ∃ (f : Addr) (fd : FuncData), mg x = some (.ref f) ∧ PySem.W.keepIn K (.ref f) = true ∧ (∀ us : List Value, us.length = ps.length → bindArgs fd ⟨us, []⟩ = pure (ps.zip us)) ∧ FnS P w K mg base CX0 k f fd ps sp
theorem pe_clS {X : Cx} {x : Str} {q pos : Pos} {e : Expr} {es : List Expr} {t : TA} {k : Nat} {ps : List Str} {sp : Addr → Value → Option Addr → Sp} {a : Addr} {oe : Obj} {c : Value} {d : Option Addr} (C : ClS X.prog X.w X.K X.mg X.base k x ps sp) (hr : RoomH k X.A) (hp : (a, oe) ∈ X.pn) (hz : Zc c d oe) (hf : ∃ fv, oe.data = .fields fv) (ha : PA X (e :: es) t) (hg : Gl X x := by rfl) (hdb : (x == ("__debug__" : Str)) = false := by decide)
    (he : starEach (e :: es) X.env = (false, eval e X.env) :: starEach es X.env := by rfl) (hpl : (backTo pos (starEach es X.env)).any (·.1) = false := by rfl) :
    PE X (.Call (.Name x q) (e :: es) [] pos) (tCall (sp a c d) [] E0 t) := by
  obtain ⟨f, fd, hm, hk, hb, F⟩ := C.ex
  refine ⟨fun pins s σ H Q I h => ?_⟩
  refine wpAny_Call_Name_kw (ld_glob I hg hm ?_ hdb)
  refine PySem.W.callWith_K (h₀ := X.base) I.ok.mod.kin hk (thn (ha.run pos pins s σ H _ I h) fun us s1 ⟨vs, H1, I1, r, hq⟩ => ⟨I1.kIn, ?_⟩) he hpl
  have hq : sp a c d (vs ++ []) H1 Q E0 := hq
  rw [List.append_nil] at hq
  have hl : us.length = ps.length := by rw [← r.length]; exact F.len _ _ _ _ _ _ _ hq
  have P1 := I1.pin (a, oe) (List.mem_append_left _ hp)
  have hpin : PinOk X.stack H1 s1 (a, oe) := ⟨P1.1, P1.2.1, fun hm => (List.mem_cons.mp (I1.stkSub a hm)).elim P1.2.2.1 P1.2.2.2.1, P1.2.2.2.2⟩
  show wpAny _ _ (call (.ref f) us) _ _ _
  refine wpAny_call (codeAny_mono (F.run X.A X.stack s1 H1 ⟨us, []⟩ us vs Q E0 a oe c d hr hpin hz hf I1.env0 (.of_eq (hb us hl)) r hq) fun r s' hq => ?_)
  cases r with
  | error e => exact (pass0 : Passes CX0 X E0) pins σ H1 s1 e s' I1 hq
  | ok fl =>
    cases fl with
    | ret u => exact I1.after hq
    | next => exact False.elim hq
    | brk => exact False.elim hq
    | cont => exact False.elim hq
/-! what is asked of a caught exception (at a, its class c, its dict d) -/
def rIsS (K : PySem.W.Frag) (a : Addr) (c : Value) (d : Option Addr) : List V → Hp → VK → Prop := fun xs H Q => ∃ (D dd : Addr) (fs : List (Str × V)) (t : V) (tv : Value) (b : Bool), xs = [.ref a, t] ∧ c = .ref D ∧ d = some dd ∧ ExcC K D ∧ (∀ u, RelV t u → u = tv) ∧ PySem.W.kitOne K (.ref D) tv = some b ∧ H dd = some (.xd fs) ∧ Q (.bl b) H
theorem call_isS {X : Cx} {a : Addr} {oe : Obj} {c : Value} {d : Option Addr} (hp : (a, oe) ∈ X.pn) (hz : Zc c d oe) (hf : ∃ vs, oe.data = .fields vs) : CallR X (.builtin "isinstance") (rIsS X.K a c d) := by
  intro pins s σ H xs us Q I r h
  obtain ⟨D, dd, fs, c', cv, b, rfl, rfl, rfl, C, hcv, e, hx, q⟩ := h
  cases r with
  | cons rx rr =>
    cases rr with
    | cons rt rr =>
      cases rr
      cases rx
      have ec := hcv _ rt
      subst ec
      obtain ⟨hget, _⟩ := I.pin (a, oe) (List.mem_append.mpr (.inl hp))
      obtain ⟨vs, hv⟩ := hf
      have hx : ObjOk X.prog X.w H s.heap dd (.xd fs) := I.hok dd _ hx
      obtain ⟨mA, hns, hr⟩ := hx
      obtain ⟨od, ho, hl⟩ := lookIn_ns hns
      have J : PySem.W.InstAt s.heap a oe D (some od) := ⟨hget, hz.1, by unfold PySem.W.notCls; rw [hv] <;> rfl, by rw [hz.2]; exact ho⟩
      obtain ⟨cd0, hc0, _⟩ := PySem.W.any_some C.hd
      exact PySem.W.kia_one (PySem.W.kitx_exc (od := some od) (by rw [hc0]; rfl) C.hg C.hk C.hs C.ha C.hn C.ht C.hm) I.kIn J e (fun z => nomatch z) fun tk => ⟨.bl b, H, I.kept (t' := tk) fun _ _ z => z, rfl, q⟩
/-- e.n, e the caught exception -/
def tXs (K : PySem.W.Frag) (a : Addr) (c : Value) (d : Option Addr) (n : Str) (te : TE) : TE := fun σ H Q => te σ H fun x H1 => x = .ref a ∧ ∃ (C dd : Addr) (fs : List (Str × V)) (v : V), c = .ref C ∧ d = some dd ∧ XfC K C ∧ PySem.W.findIn K (.ref C) n = some none ∧ H1 dd = some (.xd fs) ∧ fs.lookup n = some v ∧ Q v H1
theorem pe_xs {X : Cx} {a : Addr} {oe : Obj} {c : Value} {d : Option Addr} {e : Expr} {te : TE} {pos : Pos} {n : Str} (hp : (a, oe) ∈ X.pn) (hz : Zc c d oe) (hf : ∃ vs, oe.data = .fields vs) (he : PE X e te) (hb : attributeBase e n X.env (eval e X.env) = eval e X.env := by rfl) :
    PE X (.Attribute e n pos) (tXs X.K a c d n te) := by
  refine ⟨fun pins s σ H Q I h => ?_⟩
  refine attr_of hb (thn (he.run pins s σ H _ I h) fun u s1 hh => ?_)
  obtain ⟨x, H1, I1, rx, ex, C, dd, fs, v, ec, ed, T, hno, ea, l, q⟩ := hh
  subst ex
  obtain rfl : u = Value.ref a := rx
  subst ec
  subst ed
  obtain ⟨ha, _⟩ := I1.pin (a, oe) (List.mem_append_left _ hp)
  obtain ⟨vs, hd⟩ := hf
  have hx : ObjOk X.prog X.w H1 s1.heap dd (.xd fs) := I1.hok dd _ ea
  obtain ⟨mA, hns, hr⟩ := hx
  obtain ⟨od, ho, hl⟩ := lookIn_ns hns
  obtain ⟨u, hu, ru⟩ := RelO.some_of (v := v) (o := mA n) (by rw [← l]; exact hr n)
  have J : PySem.W.InstAt s1.heap a oe C (some od) := ⟨ha, hz.1, by unfold PySem.W.notCls; rw [hd] <;> rfl, by rw [hz.2]; exact ho⟩
  exact HandSPX.exc_get I1.kIn J T.ga T.gg T.exC (PySem.W.findObj_own T.hdC hno rfl (by rw [hl, hu])) (handed_of ru) ⟨v, H1, I1.tok _, ru, q⟩
theorem call_isSK {X : Cx} {K : PySem.W.Frag} (h : X.K = K) {a : Addr} {oe : Obj} {c : Value} {d : Option Addr} (hp : (a, oe) ∈ X.pn) (hz : Zc c d oe) (hf : ∃ vs, oe.data = .fields vs) : CallR X (.builtin "isinstance") (rIsS K a c d) := h ▸ call_isS hp hz hf
theorem pe_xsK {X : Cx} {K : PySem.W.Frag} (h : X.K = K) {a : Addr} {oe : Obj} {c : Value} {d : Option Addr} {e : Expr} {te : TE} {pos : Pos} {n : Str} (hp : (a, oe) ∈ X.pn) (hz : Zc c d oe) (hf : ∃ vs, oe.data = .fields vs) (he : PE X e te) (hb : attributeBase e n X.env (eval e X.env) = eval e X.env := by rfl) :
    PE X (.Attribute e n pos) (tXs K a c d n te) := h ▸ pe_xs hp hz hf he hb
/-! the body of such an __init__ -/
def Shorty (t : TE) (σ : L2.St) (H : Hp) : Prop := ∀ Q' : VK, (∀ y : Str, y.length ≤ 2000 → Q' (.str y) H) → t σ H Q'
theorem shorty_c {z : Str} {σ : L2.St} {H : Hp} (h : z.length ≤ 2000) : Shorty (tC (.str z)) σ H := fun Q' q => q z h
theorem shorty_f {i : Nat} {v : V} {σ : L2.St} {H : Hp} (hs : σ[i]? = some (some v)) (hv : FmtV v) : Shorty (tFmt (tVar i)) σ H := fun Q' q => by
  refine ⟨v, hs, ?_⟩
  rcases hv with ⟨y, rfl, hy⟩ | ⟨i, rfl, h1, h2⟩
  · exact .inl ⟨y, rfl, by rw [sizeLine_eq]; omega, q y (by omega)⟩
  · have h3 : i.natAbs.log2 < 1920 := Nat.lt_of_lt_of_le (PySem.Flt.log2_lt_of (k := 200) (by decide) (by omega)) (by decide)
    exact .inr ⟨i, rfl, h3, q _ (Nat.le_trans (PyProof.Rows.int_text_len_1921 h3) (by decide))⟩
theorem str_app_len (a b : Str) : (a ++ b).length = a.length + b.length := by
  show (a.cps ++ b.cps).size = _
  rw [Array.size_append]
  rfl
theorem js_any {σ : L2.St} {H : Hp} {Q : Str → Hp → Prop} (q : ∀ out, Q out H) : ∀ (ts : List TE) (acc : Str), (∀ t ∈ ts, Shorty t σ H) → acc.length + 2000 * ts.length ≤ 1000000 → tJs ts acc σ H Q
  | [], acc, _, _ => q acc
  | t :: ts, acc, h, hz => by
    simp only [List.length_cons] at hz
    exact h t (List.mem_cons_self ..) _ fun y hy => ⟨y, rfl, by rw [str_app_len, sizeLine_eq]; omega, js_any q ts (acc ++ y) (fun u hu => h u (List.mem_cons_of_mem _ hu)) (by rw [str_app_len]; omega)⟩
theorem g_ost {K : PySem.W.Frag} {C a : Addr} {n : Str} {v : V} {D : Ends} {σ : L2.St} {H : Hp} (ha : H a = some (exo a C none)) (T : OexC K C) (hn : PySem.W.findIn K (.ref C) n = some none) (h0 : σ[0]? = some (some (.ref a))) (h1 : σ[1]? = some (some v))
    (q : ∀ d H', H d = none → d ≠ a → (∀ b o, b ≠ a → H b = some o → H' b = some o) → (∀ b, H' b = none → H b = none) → H' a = some (exo a C (some d)) → H' d = some (exd d [(n, v)]) → D.nx σ H') : tOst K n (tVar 0) (tVar 1) D σ H := by
  refine ⟨v, h1, .ref a, h0, a, C, rfl, T, hn, .inl ⟨ha, fun dx hd hda => q dx _ hd hda (fun b o hb ho => ?_) (fun b hb => ?_) upd_same ?_⟩⟩
  · rw [upd_ne hb, upd_ne (ne_of_none ho hd)]
    exact ho
  · by_cases z : b = a
    · rw [z, upd_same] at hb; cases hb
    · rw [upd_ne z] at hb
      by_cases y : b = dx
      · rw [y]; exact hd
      · rw [upd_ne y] at hb; exact hb
  · rw [upd_ne hda, upd_same]
/-! defs with defaults, in any mode -/
section
variable {X : Cx} {CX : CXT} {k n : Nat} {f : Addr} {fd : FuncData} {ps ks : List Str} {sp : Sp} {E : L2.St → XK} {x : Str} {p pos : Pos} {e : Expr} {es : List Expr} {kws : List Keyword} {t tk : TA} {g : List Value → List Value → List Value} {gV : List V → List V → List V} {ds : List Value} {dvs : List V}
def tCallSD (sp : Sp) (dvs : List V) (E : L2.St → XK) (t : TA) : TE := fun σ H Q => t σ H fun vs H1 => sp (vs ++ dvs) H1 Q (E σ)
def tCallNS (n m : Nat) (sp : Sp) (gV : List V → List V → List V) (E : L2.St → XK) (t tk : TA) : TE := fun σ H Q => t σ H fun vs H1 => tk σ H1 fun zs H2 => vs.length = n ∧ zs.length = m ∧ sp (gV vs zs) H2 Q (E σ)
theorem run_fnSD {pins : List (Addr × Obj)} {σ : L2.St} {H : Hp} {s : Shared} {Q : VK} {us : List Value} {vs : List V} (F : FnOk X.prog X.w X.K X.mg X.base CX k f fd ps sp) (hr : Room k X.A) (hb : Binds X.K fd ps ds) (hd : Vals dvs ds) (hx : PassesAt CX X σ (E σ))
    (I : Inv X pins σ H s) (r : Vals vs us) (h : sp (vs ++ dvs) H Q (E σ)) : wpAny (model X.prog X.w) X.A (call (.ref f) us) (EP X pins σ Q) X.xe s := by
  have r2 := r.append hd
  have hl : (us ++ ds).length = ps.length := by rw [← r2.length]; exact F.len _ _ _ _ h
  refine wpAny_call (codeAny_mono (F.run X.A X.stack s H ⟨us, []⟩ (us ++ ds) (vs ++ dvs) Q (E σ) hr I.env0 (hb s us I.kIn hl) r2 h) fun r s' hq => ?_)
  cases r with
  | error e => exact hx pins H s e s' I hq
  | ok fl =>
    cases fl with
    | ret u => exact I.after hq
    | next => exact False.elim hq
    | brk => exact False.elim hq
    | cont => exact False.elim hq
theorem pe_callSD (F : FnOk X.prog X.w X.K X.mg X.base CX k f fd ps sp) (hr : Room k X.A) (hg : Gl X x) (hm : X.mg x = some (.ref f)) (hk : PySem.W.keepIn X.K (.ref f) = true) (hb : Binds X.K fd ps ds) (hd : Vals dvs ds) (hx : ∀ σ, PassesAt CX X σ (E σ))
    (ha : PA X (e :: es) t) (hdb : (x == ("__debug__" : Str)) = false := by decide) (he : starEach (e :: es) X.env = (false, eval e X.env) :: starEach es X.env := by rfl) (hpl : (backTo pos (starEach es X.env)).any (·.1) = false := by rfl) :
    PE X (.Call (.Name x p) (e :: es) [] pos) (tCallSD sp dvs E t) := by
  refine ⟨fun pins s σ H Q I h => ?_⟩
  refine wpAny_Call_Name_kw (ld_glob I hg hm ?_ hdb)
  refine PySem.W.callWith_K (h₀ := X.base) I.ok.mod.kin hk (thn (ha.run pos pins s σ H _ I h) fun us s1 ⟨vs, H1, I1, r, q⟩ => ⟨I1.kIn, ?_⟩) he hpl
  exact run_fnSD F hr hb hd (hx σ) I1 r q
theorem run_fnNS {pins : List (Addr × Obj)} {σ : L2.St} {H : Hp} {s : Shared} {Q : VK} {us ws : List Value} {vs zs : List V} (F : FnOk X.prog X.w X.K X.mg X.base CX k f fd ps sp) (hr : Room k X.A) (hb : KBn X.K fd ps n ks g gV) (hx : PassesAt CX X σ (E σ))
    (I : Inv X pins σ H s) (r : Vals vs us) (rz : Vals zs ws) (l1 : vs.length = n) (l2 : zs.length = ks.length) (h : sp (gV vs zs) H Q (E σ)) : wpAny (model X.prog X.w) X.A (call (.ref f) us (ks.zip ws)) (EP X pins σ Q) X.xe s := by
  have r2 := hb.rel r rz
  refine wpAny_call (codeAny_mono (F.run X.A X.stack s H ⟨us, ks.zip ws⟩ (g us ws) (gV vs zs) Q (E σ) hr I.env0 (hb.to s us ws I.kIn (r.length.symm.trans l1) (rz.length.symm.trans l2)) r2 h) fun r s' hq => ?_)
  cases r with
  | error e => exact hx pins H s e s' I hq
  | ok fl =>
    cases fl with
    | ret u => exact I.after hq
    | next => exact False.elim hq
    | brk => exact False.elim hq
    | cont => exact False.elim hq
theorem pe_callNS (F : FnOk X.prog X.w X.K X.mg X.base CX k f fd ps sp) (hr : Room k X.A) (hg : Gl X x) (hm : X.mg x = some (.ref f)) (hk : PySem.W.keepIn X.K (.ref f) = true) (hb : KBn X.K fd ps n ks g gV) (hx : ∀ σ, PassesAt CX X σ (E σ))
    (ha : PA X (e :: es) t) (hkw : PK X kws tk) (hall : (backToKw pos (keywordEach kws X.env)).all (·.1.isSome) = true := by rfl) (hks : (backToKw pos (keywordEach kws X.env)).filterMap (·.1) = ks := by rfl)
    (hdb : (x == ("__debug__" : Str)) = false := by decide) (he : starEach (e :: es) X.env = (false, eval e X.env) :: starEach es X.env := by rfl)
    (hpl : ((backTo pos (starEach (e :: es) X.env)).any (·.1) || (backToKw pos (keywordEach kws X.env)).any (·.1.isNone)) = false := by rfl) :
    PE X (.Call (.Name x p) (e :: es) kws pos) (tCallNS n ks.length sp gV E t tk) := by
  refine ⟨fun pins s σ H Q I h => ?_⟩
  refine wpAny_Call_Name_kw (ld_glob I hg hm ?_ hdb)
  refine PySem.W.callWith_KW (h₀ := X.base) I.ok.mod.kin hk hall (thn (ha.run pos pins s σ H _ I h) fun us s1 ⟨vs, H1, I1, r, q⟩ => ?_) hpl he
  refine thn (hkw.run pos pins s1 σ H1 _ I1 q) fun ws s2 ⟨zs, H2, I2, rz, l1, l2, q2⟩ => ⟨I2.kIn, ?_⟩
  rw [hks]
  exact run_fnNS F hr hb (hx σ) I2 r rz l1 l2 q2
variable {σ : L2.St} {H : Hp} {Q : VK}
instance : Step (tCallSD sp dvs E t σ H Q) (t σ H fun vs H1 => sp (vs ++ dvs) H1 Q (E σ)) := ⟨fun q => q⟩
instance {m : Nat} : Step (tCallNS n m sp gV E t tk σ H Q) (t σ H fun vs H1 => tk σ H1 fun zs H2 => vs.length = n ∧ zs.length = m ∧ sp (gV vs zs) H2 Q (E σ)) := ⟨fun q => q⟩
end
/-- the def x as the top left it, with its defaults -/
structure DfG (K : PySem.W.Frag) (mg : Str → Option Value) (x : Str) (st : Stmt) (dvs : List V) (kws : List (Str × V)) : Prop where
  ex : ∃ (f : Addr) (fd : FuncData), mg x = some (.ref f) ∧ FunD K x x (defArgs st) (defBody st) (defScope st) dvs kws f fd
/-- .. may be called (CX: what it may let out) -/
structure ClG (CX : CXT) (P : Program) (w : World) (K : PySem.W.Frag) (mg : Str → Option Value) (base : Heap) (k : Nat) (x : Str) (st : Stmt) (ps : List Str) (dvs : List V) (kws : List (Str × V)) (sp : Sp) : Prop where
  ex : ∃ (f : Addr) (fd : FuncData), mg x = some (.ref f) ∧ FunD K x x (defArgs st) (defBody st) (defScope st) dvs kws f fd ∧ FnOk P w K mg base CX k f fd ps sp
theorem DfG.ok {P : Program} {w : World} {K : PySem.W.Frag} {mg : Str → Option Value} {base : Heap} {CX : CXT} {x : Str} {st : Stmt} {N ps : List Str} {dvs : List V} {kws : List (Str × V)} {k : Nat} {sp : Sp} (D : DfG K mg x st dvs kws) (S : FnScope N ps (defScope st)) (len : ∀ vs H Q E, sp vs H Q E → vs.length = ps.length)
    (hbody : ∀ (f : Addr) (cdv : Value) (A : Around) (outer : List Env) (s : Shared) (H : Hp) (vs : List V) (Q : VK) (E : XK), Room k (A.deeper (envOfC x (defScope st) s.heap.objs.size f cdv)) → sp vs H Q E →
      ∃ t, PSs (cxOf CX P w K mg base N x (defScope st) f cdv A outer s H E) (defBody st) t ∧ t { nx := fun _ H' => Q .non H', rt := Q } (start N vs) H) : ClG CX P w K mg base (k + 1) x st ps dvs kws sp := by
  obtain ⟨f, fd, h1, h2⟩ := D.ex
  exact ⟨f, fd, h1, h2, h2.ok S len fun cdv A outer s H vs Q E hr h => hbody f cdv A outer s H vs Q E hr h⟩
theorem passC {X : Cx} {W : WX} (tk : Takes X W) (σ : L2.St) : PassesAt (L2.CX X.prog X.w) X σ (WE W σ) := passAt tk σ
section
variable {X : Cx} {CX : CXT} {k n : Nat} {ps ks : List Str} {sp : Sp} {E : L2.St → XK} {x : Str} {p pos : Pos} {e : Expr} {es : List Expr} {kw : List Keyword} {t tk : TA} {st : Stmt} {dvs : List V} {kws : List (Str × V)}
/-- every parameter given by place -/
theorem pe_g (C : ClG CX X.prog X.w X.K X.mg X.base k x st ps [] kws sp) (hr : Room k X.A) (hx : ∀ σ, PassesAt CX X σ (E σ))
    (h : ∀ (kV doc pm : Value) (an : Option Addr) (cdv ct : Value) (us : List Value), us.length = ps.length → bindArgs (PySem.W.fnOf x x (defArgs st) (defBody st) (defScope st) .none kV doc pm an cdv ct) ⟨us, []⟩ = pure (ps.zip us))
    (ha : PA X (e :: es) t) (hg : Gl X x := by rfl) (hdb : (x == ("__debug__" : Str)) = false := by decide)
    (he : starEach (e :: es) X.env = (false, eval e X.env) :: starEach es X.env := by rfl) (hpl : (backTo pos (starEach es X.env)).any (·.1) = false := by rfl) :
    PE X (.Call (.Name x p) (e :: es) [] pos) (tCallSD sp [] E t) := by
  obtain ⟨f, fd, h1, h2, h4⟩ := C.ex
  exact pe_callSD h4 hr hg h1 h2.kp (h2.bindsN h) .nil hx ha hdb he hpl
/-- the keyword-only ones lack -/
theorem pe_g0 (C : ClG CX X.prog X.w X.K X.mg X.base k x st ps [] kws sp) (hr : Room k X.A) (hx : ∀ σ, PassesAt CX X σ (E σ)) (n : Nat) (hk : kws ≠ []) (hn : n + kws.length = ps.length)
    (h : ∀ (D : Addr) (doc pm : Value) (an : Option Addr) (cdv ct : Value) (us ks : List Value), us.length = n → ks.length = kws.length →
      KwChain D ((kws.map (·.1)).zip ks) (bindArgs (PySem.W.fnOf x x (defArgs st) (defBody st) (defScope st) .none (.ref D) doc pm an cdv ct) ⟨us, []⟩) (ps.zip (us ++ ks)))
    (ha : PA X (e :: es) t) (hg : Gl X x := by rfl) (hdb : (x == ("__debug__" : Str)) = false := by decide)
    (he : starEach (e :: es) X.env = (false, eval e X.env) :: starEach es X.env := by rfl) (hpl : (backTo pos (starEach es X.env)).any (·.1) = false := by rfl) :
    PE X (.Call (.Name x p) (e :: es) [] pos) (tCallSD sp (kws.map (·.2)) E t) := by
  obtain ⟨f, fd, h1, h2, h4⟩ := C.ex
  obtain ⟨ds, r, b⟩ := h2.binds0 n hk hn h
  exact pe_callSD h4 hr hg h1 h2.kp b r hx ha hdb he hpl
/-- the last ones lack (places with defaults; no keyword-only parameters) -/
theorem pe_g1 (C : ClG CX X.prog X.w X.K X.mg X.base k x st ps dvs kws sp) (hr : Room k X.A) (hx : ∀ σ, PassesAt CX X σ (E σ)) (n j : Nat) (hd : dvs ≠ []) (hn : n + (dvs.length - j) = ps.length)
    (h : ∀ (T : Addr) (kV doc pm : Value) (an : Option Addr) (cdv ct : Value) (us its : List Value), us.length = n → its.length = dvs.length →
      ∃ k, bindArgs (PySem.W.fnOf x x (defArgs st) (defBody st) (defScope st) (.ref T) kV doc pm an cdv ct) ⟨us, []⟩ = seqItems? (.ref T) >>= k ∧ k (some its.toArray) = pure (ps.zip (us ++ its.drop j)))
    (ha : PA X (e :: es) t) (hg : Gl X x := by rfl) (hdb : (x == ("__debug__" : Str)) = false := by decide)
    (he : starEach (e :: es) X.env = (false, eval e X.env) :: starEach es X.env := by rfl) (hpl : (backTo pos (starEach es X.env)).any (·.1) = false := by rfl) :
    PE X (.Call (.Name x p) (e :: es) [] pos) (tCallSD sp (dvs.drop j) E t) := by
  obtain ⟨f, fd, h1, h2, h4⟩ := C.ex
  obtain ⟨ds, r, b⟩ := h2.binds1 n j hd hn h
  exact pe_callSD h4 hr hg h1 h2.kp b r hx ha hdb he hpl
theorem pe_gk (C : ClG CX X.prog X.w X.K X.mg X.base k x st ps [] kws sp) (hr : Room k X.A) (hx : ∀ σ, PassesAt CX X σ (E σ)) (n : Nat) (ks : List Str) (ms : List (Str × V)) (g : {α : Type} → List α → List α → List α → List α) (hk : kws ≠ []) (hms : ∀ q ∈ ms, q ∈ kws)
    (hrel : ∀ {vs mz zs : List V} {us mv ws : List Value}, Vals vs us → Vals mz mv → Vals zs ws → Vals (g vs mz zs) (g us mv ws))
    (h : ∀ (D : Addr) (doc pm : Value) (an : Option Addr) (cdv ct : Value) (us mv ws : List Value), us.length = n → mv.length = ms.length → ws.length = ks.length →
      KwChain D ((ms.map (·.1)).zip mv) (bindArgs (PySem.W.fnOf x x (defArgs st) (defBody st) (defScope st) .none (.ref D) doc pm an cdv ct) ⟨us, ks.zip ws⟩) (ps.zip (g us mv ws)))
    (ha : PA X (e :: es) t) (hkw : PK X kw tk) (hg : Gl X x := by rfl) (hall : (backToKw pos (keywordEach kw X.env)).all (·.1.isSome) = true := by rfl) (hks : (backToKw pos (keywordEach kw X.env)).filterMap (·.1) = ks := by rfl)
    (hdb : (x == ("__debug__" : Str)) = false := by decide) (he : starEach (e :: es) X.env = (false, eval e X.env) :: starEach es X.env := by rfl)
    (hpl : ((backTo pos (starEach (e :: es) X.env)).any (·.1) || (backToKw pos (keywordEach kw X.env)).any (·.1.isNone)) = false := by rfl) :
    PE X (.Call (.Name x p) (e :: es) kw pos) (tCallNS n ks.length sp (fun vs zs => g vs (ms.map (·.2)) zs) E t tk) := by
  obtain ⟨f, fd, h1, h2, h4⟩ := C.ex
  obtain ⟨mv, b⟩ := h2.kbinds0 n ks ms g hk hms hrel h
  exact pe_callNS h4 hr hg h1 h2.kp b hx ha hkw hall hks hdb he hpl
end
theorem passC0 {X : Cx} (σ : L2.St) : PassesAt CX0 X σ E0 := fun _ _ _ _ _ _ h => h.elim
theorem DfG.okP {P : Program} {w : World} {K : PySem.W.Frag} {mg : Str → Option Value} {base : Heap} {x : Str} {st : Stmt} {N ps : List Str} {dvs : List V} {kws : List (Str × V)} {k : Nat} {sp : Sp} (D : DfG K mg x st dvs kws) (S : FnScope N ps (defScope st)) (len : ∀ vs H Q E, sp vs H Q E → vs.length = ps.length)
    (hbody : ∀ (f : Addr) (cdv : Value) (A : Around) (outer : List Env) (s : Shared) (H : Hp) (vs : List V) (Q : VK) (E : XK), Room k (A.deeper (envOfC x (defScope st) s.heap.objs.size f cdv)) → sp vs H Q E →
      ∃ t, PSs (cxOf CX0 P w K mg base N x (defScope st) f cdv A outer s H E).nox (defBody st) t ∧ t { nx := fun _ H' => Q .non H', rt := Q } (start N vs) H) : ClG CX0 P w K mg base (k + 1) x st ps dvs kws sp :=
  D.ok S len fun f cdv A outer s H vs Q E hr h => by
    obtain ⟨t, a, b⟩ := hbody f cdv A outer s H vs Q E hr h
    exact ⟨t, a.nox, b⟩
theorem DfG.okS {P : Program} {w : World} {K : PySem.W.Frag} {mg : Str → Option Value} {base : Heap} {x : Str} {st : Stmt} {N ps : List Str} {k : Nat} {sp : Addr → Value → Option Addr → Sp} (D : DfG K mg x st [] []) (S : FnScope N ps (defScope st)) (len : ∀ a c d vs H Q E, sp a c d vs H Q E → vs.length = ps.length)
    (hb : ∀ (kV doc pm : Value) (an : Option Addr) (cdv ct : Value) (us : List Value), us.length = ps.length → bindArgs (PySem.W.fnOf x x (defArgs st) (defBody st) (defScope st) .none kV doc pm an cdv ct) ⟨us, []⟩ = pure (ps.zip us))
    (hbody : ∀ (f : Addr) (cdv : Value) (A : Around) (outer : List Env) (s : Shared) (H : Hp) (vs : List V) (Q : VK) (E : XK) (a : Addr) (oe : Obj) (c : Value) (d : Option Addr), RoomH k (A.deeper (envOfC x (defScope st) s.heap.objs.size f cdv)) → Zc c d oe → (∃ fv, oe.data = .fields fv) → sp a c d vs H Q E →
      ∃ t, PSs (cxH CX0 P w K mg base N x (defScope st) f cdv A outer s H E (a, oe)) (defBody st) t ∧ t { nx := fun _ H' => Q .non H', rt := Q } (start N vs) H) : ClS P w K mg base (k + 1) x ps sp := by
  obtain ⟨f, fd, h1, h2⟩ := D.ex
  obtain ⟨oc, od, dV, kV, doc, pm, an, cdv, ct, osl, rfl, lk, hcd, hD, _⟩ := h2.ex
  have hd : dV = .none := by
    rcases hD with ⟨_, e⟩ | ⟨e, _⟩
    · exact e
    · exact absurd rfl e
  subst hd
  exact ⟨f, _, h1, h2.kp, hb kV doc pm an cdv ct, fn_ofS lk hcd S len fun A outer s H vs Q E a oe c d hr hz hf h => hbody f cdv A outer s H vs Q E a oe c d hr hz hf h⟩
theorem ex_nox {X : Cx} {body : List Stmt} {R : TS → Prop} (h : ∃ t, PSs X.nox body t ∧ R t) : ∃ t, PSs X body t ∧ R t := by
  obtain ⟨t, a, b⟩ := h
  exact ⟨t, a.nox, b⟩
theorem hu64H {k : Nat} {A : Around} (hr : RoomH k A) : A.units + 64 < cLine := by
  have := hr.un
  omega
theorem dfg_mk {K : PySem.W.Frag} {mg : Str → Option Value} {h : Heap} {x : Str} {st : Stmt} {f : Addr} {oc dV kV : Value} {od an : Option Addr} {osl : Array (Option Value)} {doc pm cdv ct : Value} {dvs : List V} {kws : List (Str × V)} (X : K.In h) (G : h.Ns mainGlobals mg)
    (a : PySem.W.nsIn K mainGlobals x = some (some (.ref f))) (l : K.lookup f = some ⟨oc, od, .func (PySem.W.fnOf x x (defArgs st) (defBody st) (defScope st) dV kV doc pm an cdv ct), osl⟩)
    (c : PySem.W.codeIn K cdv x = true) (k : PySem.W.keepIn K (.ref f) = true) (d : DflV K dV dvs) (q : KwdV K kV kws) : DfG K mg x st dvs kws :=
  ⟨f, _, PySem.W.mg_of X G a, ⟨⟨oc, od, dV, kV, doc, pm, an, cdv, ct, osl, rfl, l, c, d, q⟩, k⟩⟩
instance {C : Addr} {n : Str} {ta : TA} {σ : L2.St} {H : Hp} {Q : XK} : Step (tMk1 C n ta σ H Q) (ta σ H fun vs H1 => rMk1 C n vs H1 Q) := ⟨fun q => q⟩

/-! ### a try's wish, a caught exception: steps -/
section
variable {K : PySem.W.Frag} {c cls : Value} {i : Nat} {ts : Addr → Value → Option Addr → TS} {Wout : WX} {D : Ends} {d : Option Addr} {σ τ : L2.St} {H H1 : Hp} {Q : VK} {a C dd : Addr} {fs : List (Str × V)} {n : Str} {v : V} {te : TE}
def rUnset (i : Nat) (R : L2.St → Hp → Prop) (σ : L2.St) (H : Hp) : Prop := R (σ.set i none) H
instance {R : L2.St → Hp → Prop} [h : SetL σ i none τ] : Step (rUnset i R σ H) (R τ H) := ⟨fun q => by show R _ H; rw [h.eq]; exact q⟩
theorem g_wasT (hb : PySem.W.exmOne K cls c = some true) (q : ∀ a, Nw H a → gName i (.ref a) σ H fun σ' H' => ts a cls d (Ends.mk (fun σ' H' => rUnset i D.nx σ' H') D.rt (fun σ' H' => rUnset i D.bk σ' H') (fun σ' H' => rUnset i D.ct σ' H')) σ' H') :
    wAs K c i ts Wout D cls d σ H := ⟨true, hb, fun _ a ha => q a ⟨ha⟩, fun h => nomatch h⟩
theorem g_wasF (hb : PySem.W.exmOne K cls c = some false) (q : Wout cls d σ H) : wAs K c i ts Wout D cls d σ H := ⟨false, hb, fun h => (nomatch h), fun _ => q⟩
theorem g_wonT (hb : PySem.W.exmOne K cls c = some true) (q : ∀ a, Nw H a → ts a cls d D σ H) : wOnly K c ts Wout D cls d σ H := ⟨true, hb, fun _ a ha => q a ⟨ha⟩, fun h => nomatch h⟩
theorem g_wonF (hb : PySem.W.exmOne K cls c = some false) (q : Wout cls d σ H) : wOnly K c ts Wout D cls d σ H := ⟨false, hb, fun h => (nomatch h), fun _ => q⟩
theorem g_isS {t : V} {tv : Value} {b : Bool} [h : At H dd (.xd fs)] (xc : ExcC K C) (hv : ∀ u, RelV t u → u = tv) (kt : PySem.W.kitOne K (.ref C) tv = some b) (q : Q (.bl b) H) : rIsS K a (.ref C) (some dd) [.ref a, t] H Q :=
  ⟨C, dd, fs, t, tv, b, rfl, rfl, rfl, xc, hv, kt, h.eq, q⟩
def rXs (K : PySem.W.Frag) (a : Addr) (c : Value) (d : Option Addr) (n : Str) (x : V) (H1 : Hp) (Q : VK) : Prop := x = .ref a ∧ ∃ (C dd : Addr) (fs : List (Str × V)) (v : V), c = .ref C ∧ d = some dd ∧ XfC K C ∧ PySem.W.findIn K (.ref C) n = some none ∧ H1 dd = some (.xd fs) ∧ fs.lookup n = some v ∧ Q v H1
instance : Step (tXs K a c d n te σ H Q) (te σ H fun x H1 => rXs K a c d n x H1 Q) := ⟨fun q => q⟩
theorem g_xs [h : At H dd (.xd fs)] (T : XfC K C) (hf : PySem.W.findIn K (.ref C) n = some none) (hl : fs.lookup n = some v) (q : Q v H) : rXs K a (.ref C) (some dd) n (.ref a) H Q :=
  ⟨rfl, C, dd, fs, v, rfl, rfl, T, hf, h.eq, hl, q⟩
end
/-! ### the end: what the written part says of the classes -/
section
open PySem.W
variable {P : Program} {K : Frag} {S T : Addr} {b : Bool}
theorem kitc_of (h2 : isClsIn K T = true) (h3 : typeIn K (.ref T) = some (.type "type")) (h4 : subIn K (.ref S) (.ref T) = some b) : kitCls K (.ref S) (.ref T) = some b := by
  have h2' : (clsIn K T).isSome = true := h2
  show (if ((clsIn K T).isSome && typeIn K (.ref T) == some (.type "type")) = true then subIn K (.ref S) (.ref T) else none) = some b
  rw [h2', h3, if_pos (by decide)]
  exact h4
theorem exm_of (h1 : subIn K (.ref T) (.type "BaseException") = some true) (h2 : isClsIn K T = true) (h3 : typeIn K (.ref T) = some (.type "type")) (h4 : subIn K (.ref S) (.ref T) = some b) : exmOne K (.ref S) (.ref T) = some b := by
  unfold exmOne
  rw [h1, if_pos (by decide)]
  exact kitc_of h2 h3 h4
theorem kit_same : kitOne K (.ref S) (.ref S) = some true := by
  unfold kitOne
  rw [if_pos (by simp)]
theorem kit_ne (h : (Value.ref S == Value.ref T) = false) (h2 : isClsIn K T = true) (h3 : typeIn K (.ref T) = some (.type "type")) (h4 : subIn K (.ref S) (.ref T) = some b) : kitOne K (.ref S) (.ref T) = some b := by
  unfold kitOne
  rw [h, if_neg Bool.false_ne_true]
  exact kitc_of h2 h3 h4
theorem kit_tyB {x : String} (h1 : kitMeta x = true) (h4 : subIn K (.ref S) (.type x) = some b) : kitOne K (.ref S) (.type x) = some b := by
  unfold kitOne
  rw [if_neg (by intro h; cases (beq_iff_eq.mp h))]
  show (if kitMeta x = true then subIn K (.ref S) (.type x) else none) = some b
  rw [if_pos h1]
  exact h4
theorem exm_tyB {x : String} (h1 : kitMeta x = true) (h2 : subIn K (.type x) (.type "BaseException") = some true) (h4 : subIn K (.ref S) (.type x) = some b) : exmOne K (.ref S) (.type x) = some b := by
  unfold exmOne
  rw [h2, if_pos (by decide)]
  show (if kitMeta x = true then subIn K (.ref S) (.type x) else none) = some b
  rw [if_pos h1]
  exact h4
theorem find_mro {C : Addr} {cd : ClassData} {n : Str} (h : clsIn K C = some cd) : findIn K (.ref C) n = alongIn K n cd.mro := by
  unfold clsIn at h
  unfold findIn
  split at h
  · rename_i e
    cases h
    simp only [e]
  · cases h
theorem drop_head {v : Value} {r : List Value} : ((v :: r).dropWhile (· != v)).drop 1 = r := by
  rw [List.dropWhile_cons_of_neg]
  · rfl
  · simp
theorem sup_of {C : Addr} {cd cdS : ClassData} {n : Str} {r : Option Value} (h1 : clsIn K C = some cd) (h2 : clsIn K S = some cdS) (hm : cd.mro = .ref C :: cdS.mro) (hf : findIn K (.ref S) n = some r) : ks_superIn K C C n = some r := by
  unfold ks_superIn
  rw [h1, Option.bind_some, hm, drop_head, ← find_mro h2]
  exact hf
theorem dfl1 {A : Addr} {v : V} {u oc : Value} {od : Option Addr} {n : Nat} {sl : Array (Option Value)} (l : K.lookup A = some ⟨oc, od, .seq #[u] n, sl⟩) (r : RelV v u) : DflV K (.ref A) [v] := .inr ⟨by simp, A, _, [u], n, rfl, l, rfl, .cons r .nil⟩
theorem dfl2 {A : Addr} {v v2 : V} {u u2 oc : Value} {od : Option Addr} {n : Nat} {sl : Array (Option Value)} (l : K.lookup A = some ⟨oc, od, .seq #[u, u2] n, sl⟩) (r : RelV v u) (r2 : RelV v2 u2) : DflV K (.ref A) [v, v2] := .inr ⟨by simp, A, _, [u, u2], n, rfl, l, rfl, .cons r (.cons r2 .nil)⟩
theorem exd_mk {mg : Str → Option Value} {sx : Str} {h : Heap} {x qual : Str} {st : Stmt} {ps : List Str} {C f c cc N : Addr} {nm q n : Str} {bs bm : List Value} {sn : List Str} {sub : List Value} {ab : Bool} {col : Option Bool} {dd : Option Addr} {k0 k1 k2 k3 k5 : Option Value}
    {cd cdS : ClassData} {oc doc pm ct cl ccl : Value} {od cld cdd : Option Addr} {osl csl ccs : Array (Option Value)} {vs : Array Value} {file : Str} {tf : Tok} (X : K.In h) (G : h.Ns mainGlobals mg) (aS : nsIn K mainGlobals sx = some (some (.ref S)))
    (a : nsIn K mainGlobals x = some (some (.ref C))) (xL : K.lookup C = some (excClassObj nm q C N bs bm true sn sub ab col dd k0 k1 k2 k3 k5 "ValueError.__new__")) (hbm : PySem.HandSPX.refsVE bm = true)
    (sa : findIn K (.ref C) "__setattr__" = some (some (.builtin "object.__setattr__"))) (exC : subIn K (.ref C) (.type "BaseException") = some true) (tyC : typeIn K (.ref C) = some (.type "type")) (kC : keepIn K (.ref C) = true)
    (mro : mroIn K C (.ref C) = some true) (h1 : clsIn K C = some cd) (h2 : clsIn K S = some cdS) (hm : cd.mro = .ref C :: cdS.mro) (hf : findIn K (.ref S) "__init__" = some (some (.builtin "ValueError.__init__"))) (sub' : subIn K (.ref C) (.type "ValueError") = some true)
    (hn : ps[1]? = some n) (fl : findIn K (.ref C) n = some none) (i1 : findIn K (.ref C) "__init__" = some (some (.ref f))) (i2 : typeIn K (.ref f) = some (.type "function"))
    (lf : K.lookup f = some ⟨oc, od, .func (fnX "__init__" qual (defArgs st) (defBody st) (defScope st) [("__class__", cc)] .none .none doc pm none (.ref c) ct), osl⟩) (cf : codeIn K (.ref c) qual = true)
    (lc : K.lookup c = some ⟨ccl, cdd, .fields vs, ccs⟩) (hv : vs[2]? = some (.str file tf)) (hfile : ((P.main.file : Str) == file) = true) (lcc : K.lookup cc = some ⟨cl, cld, .cell (some (.ref C)), csl⟩)
    (ns : nsIn K mainGlobals "super" = some none) (top : (P.main.scope.names.lookup ("super" : Str)).isSome = false) (op : nsIn K cStatics "thirdparty.any" = some none) : ExD P K mg x qual st ps C :=
  ⟨mg_of X G a, ⟨⟨⟨nm, q, N, bs, bm, sn, sub, ab, col, dd, k0, k1, k2, k3, k5, xL, hbm⟩, sa, exC, tyC, kC⟩, mro, sup_of h1 h2 hm hf, sub'⟩, fun m hm => by rw [hn] at hm; cases hm; exact fl,
    f, _, i1, i2, ⟨c, cc, oc, doc, pm, ct, cl, ccl, od, cld, cdd, osl, csl, ccs, vs, file, tf, cd, rfl, lf, cf, lc, hv, hfile, lcc, h1⟩, mg_none_of X G ns, top, op⟩
end
end Gx

set_option linter.all false
set_option maxRecDepth 100000
set_option maxHeartbeats 2000000
/-! Gr: methods of an own class, Rounds, tuples. -/
namespace Gx
open PySem PySem.Spec PyProof.Rows L2 _root_.ClX StX
/-! ### sums of tuples, tuples joined, cut, asked by a place -/
section
variable {X : Cx} {K : PySem.W.Frag} {H : Hp} {Q : VK} {a b p : Addr} {xs ys : List V} {ns ms : List Int}
def rSumT (K : PySem.W.Frag) : List V → Hp → VK → Prop := fun vs H Q => ∃ (a : Addr) (ns : List Int), vs = [V.ref a] ∧ SqT K H a (ns.map V.int) ∧ Q (.int ns.sum) H
theorem cr_sumT (hc : X.calm = true) : CallR X (.builtin "sum") (rSumT X.K) := by
  intro pins s σ H vs us Q I r h
  obtain ⟨a, ns, rfl, hs, q⟩ := h
  obtain ⟨its, rv, hl, _⟩ := I.tuple hs
  rw [Vals.ref1 r]
  have hi : IntsAre its ns := rv.ints
  obtain ⟨xs, e⟩ := hi.allInts.items
  have hn : numsOf (intItems xs).toList = ns := by rw [← e]; exact hi.numsOf
  rw [nums_intItems] at hn
  rw [e] at hl
  refine PySem.W.ktm_sumG (I.ok.hd hc) hl fun h' tk t' hk => ?_
  rw [preSum_eq, List.take_of_length_le (by simp), hn]
  exact ⟨.int _, H, I.kept hk, ⟨_, rfl⟩, q⟩
def rSumX (K : PySem.W.Frag) : List V → Hp → VK → Prop := fun vs H Q => rSum K vs H Q ∨ rSumT K vs H Q
theorem callSumXK (h : X.K = K) (hc : X.calm = true) : CallR X (.builtin "sum") (rSumX K) := by
  subst h
  intro pins s σ H vs us Q I r h
  rcases h with h | h
  · exact cr_sum hc pins s σ H vs us Q I r h
  · exact cr_sumT hc pins s σ H vs us Q I r h
instance [h : SqC K H a (ns.map V.int)] : Step (rSumX K [V.ref a] H Q) (Q (.int ns.sum) H) := ⟨fun q => .inl ⟨a, ns, rfl, h.sq, q⟩⟩
instance [h : StC K H a (ns.map V.int)] : Step (rSumX K [V.ref a] H Q) (Q (.int ns.sum) H) := ⟨fun q => .inr ⟨a, ns, rfl, h.st, q⟩⟩
/-- a tuple of these ints at a: fresh or not -/
theorem g_catT [h1 : StC K H a (ns.map V.int)] [h2 : StC K H b (ms.map V.int)] [k1 : At H a (.tup (ns.map V.int))] [k2 : At H b (.tup (ms.map V.int))] (hz : ns.length + ms.length ≤ 100000) (q : ∀ p H2, Ex H H2 → At H2 p (.tup ((ns ++ ms).map V.int)) → Q (.ref p) H2) : rAdd K (.ref a) (.ref b) H Q := by
  refine .inr (.inr (.inr ⟨a, b, _, _, rfl, rfl, h1.st, h2.st, by rw [List.length_map, List.length_map]; exact Nat.le_trans hz (by decide), fun e => ?_, fun _ e => ?_, fun _ _ p hp => ?_⟩))
  · have e' : ns = [] := List.map_eq_nil_iff.mp e
    subst e'
    exact q b H (Ex.refl H) k2
  · have e' : ms = [] := List.map_eq_nil_iff.mp e
    subst e'
    exact q a H (Ex.refl H) ⟨by rw [List.append_nil]; exact k1.eq⟩
  · exact q p _ (Ex.mk hp) ⟨by rw [List.map_append]; exact upd_same⟩
/-- the places a cut takes -/
def cutI (ns : List Int) (lo hi : Option Int) : List Int := (ns.drop (HT.sIx ns.length 0 lo)).take (HT.sIx ns.length ns.length hi - HT.sIx ns.length 0 lo)
theorem cutV_int {lo hi : Option Int} : cutV (ns.map V.int) lo hi = (cutI ns lo hi).map V.int := by
  unfold cutV cutI
  rw [List.length_map, List.map_take, List.map_drop]
theorem g_slTup {lo hi : Option Int} [h : StC K H a (ns.map V.int)] [k : At H a (.tup (ns.map V.int))] (q : ∀ p H2, Ex H H2 → At H2 p (.tup ((cutI ns lo hi).map V.int)) → Q (.ref p) H2) : rSlX K (.ref a) lo hi H Q := by
  refine .inr (.inr ⟨a, _, rfl, h.st, fun e => ?_, fun _ p hp => ?_⟩)
  · refine q a H (Ex.refl H) ⟨?_⟩
    rw [List.length_map] at e
    rw [k.eq, ← cutV_int]
    unfold cutV
    rw [List.length_map, e.1, e.2, List.drop_zero, Nat.sub_zero, List.take_of_length_le (by simp)]
  · exact q p _ (Ex.mk hp) ⟨by rw [← cutV_int]; exact upd_same⟩
theorem g_ixTI {i : Int} [h : StC K H a (ns.map V.int)] (h0 : 0 ≤ i) (h1 : i < (ns.length : Int)) (q : Q (.int (ns.getD i.toNat 0)) H) : rIx K (.ref a) (.int i) H Q := by
  obtain ⟨j, rfl⟩ : ∃ j : Nat, i = (j : Int) := ⟨i.toNat, by omega⟩
  refine g_ixT (atI_nat ?_) q
  have h2 : j < ns.length := by omega
  rw [List.getElem?_map, List.getElem?_eq_getElem h2, Option.map_some, Int.toNat_natCast, List.getD_eq_getElem?_getD, List.getElem?_eq_getElem h2, Option.getD_some]
instance (priority := high) [h : StC K H p (ns.map V.int)] : Step (rLen K [.ref p] H Q) (Q (.int (ns.length : Nat)) H) := ⟨fun q => g_len len_t (by rw [List.length_map]; exact q)⟩
/-! lists and tuples made of a list or a tuple -/
theorem g_listOfT [h : StC K H p xs] (q : ∀ p H2, Nw H p → Ex H H2 → At H2 p (.lst xs) → Q (.ref p) H2) : rListOf K [V.ref p] H Q := ⟨p, xs, rfl, .inr h.st, g_new q⟩
def rTupOf (K : PySem.W.Frag) : List V → Hp → VK → Prop := fun xs H Q => ∃ p ys, xs = [.ref p] ∧ ((SqL K H p ys ∧ ∀ l, H l = none → Q (.ref l) (upd H l (.tup ys))) ∨ (SqT K H p ys ∧ Q (.ref p) H))
theorem callTupOfK (h : X.K = K) : CallR X (.type "tuple") (rTupOf K) := h ▸ call_tuple_of
instance [h : StC K H p xs] : Step (rTupOf K [.ref p] H Q) (Q (.ref p) H) := ⟨fun q => ⟨p, xs, rfl, .inr ⟨h.st, q⟩⟩⟩
theorem g_tupOfL [h : SqC K H p xs] (q : ∀ p H2, Nw H p → Ex H H2 → At H2 p (.tup xs) → Q (.ref p) H2) : rTupOf K [V.ref p] H Q := ⟨p, xs, rfl, .inl ⟨h.sq, g_new q⟩⟩
theorem cdivP {i j : Int} (h : 0 < j ∧ j < 2 ^ 200) (h2 : -(2 ^ 300) < i ∧ i < 2 ^ 300) : CDivP i j := by
  refine divp_ok h.1 ?_
  have b : ∀ x : Int, Builtin.Int.intBits x ≤ x.natAbs.log2 + 1 := fun x => by
    unfold Builtin.Int.intBits
    split
    · omega
    · omega
  have h3 := b i
  have h4 : i.natAbs.log2 < 300 := PySem.Flt.log2_lt_of (k := 300) (by decide) (by omega)
  omega
def rDivmod : List V → Hp → VK → Prop := fun xs H Q => ∃ i j, xs = [.int i, .int j] ∧ CDivP i j ∧ ∀ p, H p = none → Q (.ref p) (upd H p (.tup [.int (i / j), .int (i % j)]))
theorem callDivmod : CallR X (.builtin "divmod") rDivmod := call_divmodW
theorem g_divmod {H : Hp} {Q : VK} {i j : Int} (h : CDivP i j) (q : ∀ p H2, Nw H p → Ex H H2 → At H2 p (.tup [.int (i / j), .int (i % j)]) → Q (.ref p) H2) : rDivmod [.int i, .int j] H Q := ⟨i, j, rfl, h, g_new q⟩
end
/-! ### methods -/
structure DfM (K : PySem.W.Frag) (C : Addr) (m qual : Str) (st : Stmt) (dvs : List V) (kws : List (Str × V)) : Prop where
  ex : ∃ (f : Addr) (fd : FuncData), Meth K C m f ∧ FunD K m qual (defArgs st) (defBody st) (defScope st) dvs kws f fd
structure ClM (CX : CXT) (P : Program) (w : World) (K : PySem.W.Frag) (mg : Str → Option Value) (base : Heap) (k : Nat) (C : Addr) (m qual : Str) (st : Stmt) (ps : List Str) (dvs : List V) (kws : List (Str × V)) (sp : Sp) : Prop where
  ex : ∃ (f : Addr) (fd : FuncData), Meth K C m f ∧ FunD K m qual (defArgs st) (defBody st) (defScope st) dvs kws f fd ∧ FnOk P w K mg base CX k f fd ps sp
section
variable {P : Program} {w : World} {K : PySem.W.Frag} {mg : Str → Option Value} {base : Heap}
theorem DfM.ok {CX : CXT} {C : Addr} {m qual : Str} {st : Stmt} {N ps : List Str} {dvs : List V} {kws : List (Str × V)} {k : Nat} {sp : Sp} (D : DfM K C m qual st dvs kws) (S : FnScope N ps (defScope st)) (len : ∀ vs H Q E, sp vs H Q E → vs.length = ps.length)
    (hbody : ∀ (f : Addr) (cdv : Value) (A : Around) (outer : List Env) (s : Shared) (H : Hp) (vs : List V) (Q : VK) (E : XK), Room k (A.deeper (envOfC qual (defScope st) s.heap.objs.size f cdv)) → sp vs H Q E →
      ∃ t, PSs (cxOf CX P w K mg base N qual (defScope st) f cdv A outer s H E) (defBody st) t ∧ t { nx := fun _ H' => Q .non H', rt := Q } (start N vs) H) : ClM CX P w K mg base (k + 1) C m qual st ps dvs kws sp := by
  obtain ⟨f, fd, h1, h2⟩ := D.ex
  exact ⟨f, fd, h1, h2, h2.ok S len fun cdv A outer s H vs Q E hr h => hbody f cdv A outer s H vs Q E hr h⟩
theorem DfM.okP {C : Addr} {m qual : Str} {st : Stmt} {N ps : List Str} {dvs : List V} {kws : List (Str × V)} {k : Nat} {sp : Sp} (D : DfM K C m qual st dvs kws) (S : FnScope N ps (defScope st)) (len : ∀ vs H Q E, sp vs H Q E → vs.length = ps.length)
    (hbody : ∀ (f : Addr) (cdv : Value) (A : Around) (outer : List Env) (s : Shared) (H : Hp) (vs : List V) (Q : VK) (E : XK), Room k (A.deeper (envOfC qual (defScope st) s.heap.objs.size f cdv)) → sp vs H Q E →
      ∃ t, PSs (cxOf CX0 P w K mg base N qual (defScope st) f cdv A outer s H E).nox (defBody st) t ∧ t { nx := fun _ H' => Q .non H', rt := Q } (start N vs) H) : ClM CX0 P w K mg base (k + 1) C m qual st ps dvs kws sp :=
  D.ok S len fun f cdv A outer s H vs Q E hr h => by
    obtain ⟨t, a, b⟩ := hbody f cdv A outer s H vs Q E hr h
    exact ⟨t, a.nox, b⟩
end
section
variable {X : Cx} {CX : CXT} {k : Nat} {C : Addr} {m qual : Str} {st : Stmt} {ps : List Str} {sp : Sp} {E : XK} {o e : Expr} {es : List Expr} {ta : TE} {t : TA} {apos pos : Pos} {pl : Sem Bool}
theorem pe_m (M : ClM CX X.prog X.w X.K X.mg X.base k C m qual st ps [] [] sp) (c : Cls X.K C) (hr : Room k X.A) (hx : Passes CX X E)
    (h : ∀ (kV doc pm : Value) (an : Option Addr) (cdv ct : Value) (us : List Value), us.length = ps.length → bindArgs (PySem.W.fnOf m qual (defArgs st) (defBody st) (defScope st) .none kV doc pm an cdv ct) ⟨us, []⟩ = pure (ps.zip us))
    (he : PE X o ta) (ha : PA X (e :: es) t)
    (hst : starEach (e :: es) X.env = (false, eval e X.env) :: starEach es X.env := by rfl) (hpl : (backTo pos (starEach es X.env)).any (·.1) = false := by rfl)
    (ht : eval (.Call (.Attribute o m apos) (e :: es) [] pos) X.env = (do
      let ov ← eval o X.env
      standAt apos.atName
      let (f, first) ← holding [ov] (getMethod ov m pl)
      callWith pos f first (backTo pos (starEach (e :: es) X.env)) (backToKw pos (keywordEach [] X.env))) := by rfl) :
    PE X (.Call (.Attribute o m apos) (e :: es) [] pos) (tMeth C m sp [] E ta t) := by
  obtain ⟨f, fd, h1, h2, h4⟩ := M.ex
  exact pe_meth he c h1 h4 hr (h2.bindsN h) .nil hx ha hst hpl ht
theorem pe_m0 (M : ClM CX X.prog X.w X.K X.mg X.base k C m qual st ps [] [] sp) (c : Cls X.K C) (hr : Room k X.A) (hx : Passes CX X E)
    (h : ∀ (kV doc pm : Value) (an : Option Addr) (cdv ct : Value) (us : List Value), us.length = ps.length → bindArgs (PySem.W.fnOf m qual (defArgs st) (defBody st) (defScope st) .none kV doc pm an cdv ct) ⟨us, []⟩ = pure (ps.zip us))
    (he : PE X o ta)
    (ht : eval (.Call (.Attribute o m apos) [] [] pos) X.env = (do
      let ov ← eval o X.env
      standAt apos.atName
      let (f, first) ← holding [ov] (getMethod ov m pl)
      callWith pos f first (backTo pos (starEach [] X.env)) (backToKw pos (keywordEach [] X.env))) := by rfl) :
    PE X (.Call (.Attribute o m apos) [] [] pos) (tMeth C m sp [] E ta tNil) := by
  obtain ⟨f, fd, h1, h2, h4⟩ := M.ex
  exact pe_meth0 he c h1 h4 hr (h2.bindsN h) .nil hx ht
end
section
variable {K : PySem.W.Frag} {σ : L2.St} {H H1 : Hp} {Q : VK} {C a : Addr} {m f : Str} {sp : Sp} {dvs : List V} {E : XK} {ta tv : TE} {t : TA} {x y : V} {bs : List Int} {D : Ends}
def rMeth (C : Addr) (m : Str) (sp : Sp) (dvs : List V) (E : XK) (t : TA) (σ : L2.St) (x : V) (H1 : Hp) (Q : VK) : Prop := ∃ a dx fs, x = .ref a ∧ H1 a = some (.ins C dx fs) ∧ fs.lookup m = none ∧ t σ H1 fun vs H2 => sp (x :: (vs ++ dvs)) H2 Q E
instance : Step (tMeth C m sp dvs E ta t σ H Q) (ta σ H fun x H1 => rMeth C m sp dvs E t σ x H1 Q) := ⟨fun q => q⟩
theorem g_rmeth [h : RdC C H1 a bs] (hm : (m == ("_budgets" : Str)) = false) (q : t σ H1 fun vs H2 => sp (.ref a :: (vs ++ dvs)) H2 Q E) : rMeth C m sp dvs E t σ (.ref a) H1 Q := by
  obtain ⟨dx, p, h1, h2⟩ := h.ex
  refine ⟨a, dx, _, rfl, h1, ?_, q⟩
  rw [List.lookup_cons, hm]
  rfl
def rFld (K : PySem.W.Frag) (f : Str) (x : V) (H1 : Hp) (Q : VK) : Prop := ∃ a C dx fs v, x = .ref a ∧ H1 a = some (.ins C dx fs) ∧ Cls K C ∧ NoAttr K C f ∧ fs.lookup f = some v ∧ Q v H1
instance : Step (tFld K ta f σ H Q) (ta σ H fun x H1 => rFld K f x H1 Q) := ⟨fun q => q⟩
theorem g_fldB [h : RdC C H1 a bs] (c : Cls K C) (n : NoAttr K C "_budgets") (q : ∀ p, At H1 p (.tup (bs.map V.int)) → Q (.ref p) H1) : rFld K "_budgets" (.ref a) H1 Q := by
  obtain ⟨dx, p, h1, h2⟩ := h.ex
  exact ⟨a, C, dx, _, _, rfl, h1, c, n, rfl, q p ⟨h2⟩⟩
def rProp (C : Addr) (sp : Sp) (dvs : List V) (E : XK) (x : V) (H1 : Hp) (Q : VK) : Prop := ∃ a dx fs, x = .ref a ∧ H1 a = some (.ins C dx fs) ∧ sp (.ref a :: dvs) H1 Q E
instance : Step (tProp C sp dvs E ta σ H Q) (ta σ H fun x H1 => rProp C sp dvs E x H1 Q) := ⟨fun q => q⟩
instance [h : RdC C H1 a bs] : Step (rProp C sp dvs E (.ref a) H1 Q) (sp (.ref a :: dvs) H1 Q E) := ⟨fun q => by
  obtain ⟨dx, p, h1, h2⟩ := h.ex
  exact ⟨a, dx, _, rfl, h1, q⟩⟩
end
/-! ### a Round made -/
/-- __init__(self, *budgets): what it is given, at its own frame -/
def spIni (C : Addr) : Sp := fun vs H Q E => ∃ (a dx t : Addr) (bs : List Int), vs = [.ref a, .ref t] ∧ (H a = some (.ins C dx []) ∧ At H t (.tup (bs.map V.int)) ∧ 1 ≤ bs.length ∧ bs.length ≤ 12 ∧ ∀ b ∈ bs, 0 ≤ b) ∧
  ∀ H', (∀ b o, b ≠ a → H b = some o → H' b = some o) → (∀ b, H' b = none → H b = none) → H' a = some (.ins C dx [("_budgets", .ref t)]) → Q .non H'
structure DfI (K : PySem.W.Frag) (C : Addr) (qual : Str) (st : Stmt) : Prop where
  ex : ∃ (f : Addr) (oc doc pm cdv ct : Value) (an od : Option Addr) (osl : Array (Option Value)), Mk K C f ∧ K.lookup f = some ⟨oc, od, .func (PySem.W.fnOf "__init__" qual (defArgs st) (defBody st) (defScope st) .none .none doc pm an cdv ct), osl⟩ ∧ PySem.W.codeIn K cdv qual = true
structure ClI (CX : CXT) (P : Program) (w : World) (K : PySem.W.Frag) (mg : Str → Option Value) (base : Heap) (k : Nat) (C : Addr) : Prop where
  ex : ∃ f, Mk K C f ∧ FnR P w K mg base CX k f (fun vs H Q E => ∃ ws rest, vs = ws ++ rest ∧ ws.length = 1 ∧ rest.length ≤ sizeLine ∧ ∀ p, H p = Option.none → spIni C (ws ++ [V.ref p]) (upd H p (.tup rest)) Q E)
theorem DfI.ok {CX : CXT} {P : Program} {w : World} {K : PySem.W.Frag} {mg : Str → Option Value} {base : Heap} {C : Addr} {qual : Str} {st : Stmt} {N : List Str} {k : Nat} (D : DfI K C qual st) (S : FnScope N ["self", "budgets"] (defScope st)) (hCX : CXUp CX)
    (hb : ∀ (doc pm cdv ct : Value) (an : Option Addr) (us rest : List Value), us.length = 1 → bindArgs (PySem.W.fnOf "__init__" qual (defArgs st) (defBody st) (defScope st) .none .none doc pm an cdv ct) ⟨us ++ rest, []⟩ = (newTuple rest >>= fun t => pure ((["self"] : List Str).zip us ++ [(("budgets" : Str), t)])))
    (hbody : ∀ (f : Addr) (cdv : Value) (A : Around) (outer : List Env) (s : Shared) (H : Hp) (vs : List V) (Q : VK) (E : XK), Room k (A.deeper (envOfC qual (defScope st) s.heap.objs.size f cdv)) → spIni C vs H Q E →
      ∃ t, PSs (cxOf CX P w K mg base N qual (defScope st) f cdv A outer s H E) (defBody st) t ∧ t { nx := fun _ H' => Q .non H', rt := Q } (start N vs) H) : ClI CX P w K mg base (k + 1) C := by
  obtain ⟨f, oc, doc, pm, cdv, ct, an, od, osl, h1, lk, hcd⟩ := D.ex
  exact ⟨f, h1, fn_star (ps := ["self"]) (pv := "budgets") lk hcd S hCX (hb doc pm cdv ct an) fun A outer s H vs Q E hr h => hbody f cdv A outer s H vs Q E hr h⟩
section
variable {X : Cx} {CX : CXT} {k : Nat} {C : Addr} {x : Str} {e : Expr} {es : List Expr} {t : TA} {E : XK} {p pos : Pos}
def rMkR (C : Addr) (E : XK) (vs : List V) (H1 : Hp) (Q : VK) : Prop := ∀ x dx, H1 x = none → H1 dx = none → dx ≠ x → (∃ ws rest, V.ref x :: vs = ws ++ rest ∧ ws.length = 1 ∧ rest.length ≤ sizeLine ∧ ∀ p, (upd (upd H1 dx (.own x)) x (.ins C dx [])) p = Option.none → spIni C (ws ++ [V.ref p]) (upd (upd (upd H1 dx (.own x)) x (.ins C dx [])) p (.tup rest)) (fun v H2 => v = .non ∧ Q (.ref x) H2) E)
def tMkR (C : Addr) (E : XK) (t : TA) : TE := fun σ H Q => t σ H fun vs H1 => rMkR C E vs H1 Q
theorem pe_mkR (M : ClI CX X.prog X.w X.K X.mg X.base k C) (hr : Room (k + 1) X.A) (hg : Gl X x) (hm : X.mg x = some (.ref C)) (hx : Passes CX X E) (ha : PA X (e :: es) t) (hdb : (x == ("__debug__" : Str)) = false := by decide)
    (he : starEach (e :: es) X.env = (false, eval e X.env) :: starEach es X.env := by rfl) (hpl : (backTo pos (starEach es X.env)).any (·.1) = false := by rfl) :
    PE X (.Call (.Name x p) (e :: es) [] pos) (tMkR C E t) := by
  obtain ⟨f, h1, F⟩ := M.ex
  exact pe_makeR h1 F hr hg hm hx ha hdb he hpl
/-- C(*y) -/
def tMkS (K : PySem.W.Frag) (C : Addr) (E : XK) (te : TE) : TE := fun σ H Q => te σ H fun y H1 => ∃ a xs, y = V.ref a ∧ (SqT K H1 a xs ∨ SqL K H1 a xs) ∧ rMkR C E xs H1 Q
theorem pe_mkS {K : PySem.W.Frag} {te : TE} {sp_ : Pos} (hK : X.K = K) (M : ClI CX X.prog X.w X.K X.mg X.base k C) (hr : Room (k + 1) X.A) (hg : Gl X x) (hm : X.mg x = some (.ref C)) (hx : Passes CX X E) (he : PE X e te) (hd : (x == ("__debug__" : Str)) = false := by decide)
    (hst : starEach [.Starred e sp_] X.env = [(true, eval e X.env)] := by rfl) :
    PE X (.Call (.Name x p) [.Starred e sp_] [] pos) (tMkS K C E te) := by
  subst hK
  obtain ⟨f, h1, F⟩ := M.ex
  refine ⟨fun pins s σ H Q I h => ?_⟩
  refine wpAny_Call_Name_kw (ld_glob I hg hm ?_ hd)
  refine PySem.W.callWith_S (h₀ := X.base) I.ok.mod.kin h1.kp (thn (he.run pins s σ H _ I h) fun v s1 ⟨y, H1, I1, ry, a, xs, ey, hxs, q⟩ => ?_) hst
  subst ey
  obtain rfl : v = Value.ref a := ry
  exact star_any I1 hxs fun us s2 I2 rv => ⟨I2.kIn, run_makeR h1 F hr hx I2 rv q⟩
theorem g_mkR {bs : List Int} {H1 : Hp} {Q : VK} (h : 1 ≤ bs.length ∧ bs.length ≤ 12) (h0 : ∀ b ∈ bs, 0 ≤ b) (q : ∀ a H', Nw H1 a → Ex H1 H' → RdC C H' a bs → Q (.ref a) H') : rMkR C E (bs.map V.int) H1 Q := by
  intro x dx hx hdx hne
  refine ⟨[.ref x], bs.map V.int, rfl, rfl, by rw [List.length_map, sizeLine_eq]; omega, fun p hp => ?_⟩
  have hxp : x ≠ p := fun e => by rw [← e, upd_same] at hp; cases hp
  have hdp : dx ≠ p := fun e => by rw [← e, upd_ne hne, upd_same] at hp; cases hp
  have hp1 : H1 p = none := by rw [upd_ne hxp.symm, upd_ne hdp.symm] at hp; exact hp
  refine ⟨x, dx, p, bs, rfl, ⟨by rw [upd_ne hxp, upd_same], ⟨upd_same⟩, h.1, h.2, h0⟩, fun H' keep live hx' => ⟨rfl, q x H' ⟨hx⟩ ?_ ⟨dx, p, hx', ?_⟩⟩⟩
  · have K1 : ∀ b o, H1 b = some o → H' b = some o := fun b o hb => by
      have hbx : b ≠ x := ne_of_none hb hx
      refine keep b o hbx ?_
      rw [upd_ne (ne_of_none hb hp1), upd_ne hbx, upd_ne (ne_of_none hb hdx)]
      exact hb
    refine ⟨fun b o _ => K1 b o, fun b hb => ?_, fun b o _ => K1 b o⟩
    have h2 := live b hb
    by_cases z : b = p
    · rw [z]; exact hp1
    · rw [upd_ne z] at h2
      by_cases y : b = x
      · rw [y]; exact hx
      · rw [upd_ne y] at h2
        by_cases u : b = dx
        · rw [u]; exact hdx
        · rw [upd_ne u] at h2; exact h2
  · exact keep p _ hxp.symm upd_same
instance {σ : L2.St} {H : Hp} {Q : VK} : Step (tMkR C E t σ H Q) (t σ H fun vs H1 => rMkR C E vs H1 Q) := ⟨fun q => q⟩
def rMkS (K : PySem.W.Frag) (C : Addr) (E : XK) (y : V) (H1 : Hp) (Q : VK) : Prop := ∃ a xs, y = V.ref a ∧ (SqT K H1 a xs ∨ SqL K H1 a xs) ∧ rMkR C E xs H1 Q
instance {K : PySem.W.Frag} {σ : L2.St} {te : TE} {H : Hp} {Q : VK} : Step (tMkS K C E te σ H Q) (te σ H fun y H1 => rMkS K C E y H1 Q) := ⟨fun q => q⟩
instance {K : PySem.W.Frag} {a : Addr} {xs : List V} {H : Hp} {Q : VK} [h : StC K H a xs] : Step (rMkS K C E (.ref a) H Q) (rMkR C E xs H Q) := ⟨fun q => ⟨a, xs, rfl, .inl h.st, q⟩⟩
instance {K : PySem.W.Frag} {a : Addr} {xs : List V} {H : Hp} {Q : VK} [h : SqC K H a xs] : Step (rMkS K C E (.ref a) H Q) (rMkR C E xs H Q) := ⟨fun q => ⟨a, xs, rfl, .inr h.sq, q⟩⟩
end
/-! ### chains, loops over tuples -/
section
variable {σ : L2.St} {H H1 : Hp} {Q : VK} {r r' : R2} {ta tb tc : TE} {x y : V} {b : Bool}
def rChain (r r' : R2) (tc : TE) (σ : L2.St) (x y : V) (H2 : Hp) (Q : VK) : Prop := r x y H2 fun z H3 => ∃ k, z = .bl k ∧ (if k = true then tc σ H3 fun w' H4 => r' y w' H4 Q else Q (.bl false) H3)
instance : Step (tChain r r' ta tb tc σ H Q) (ta σ H fun x H1 => tb σ H1 fun y H2 => r x y H2 fun z H3 => ∃ k, z = .bl k ∧ (if k = true then tc σ H3 fun w' H4 => r' y w' H4 Q else Q (.bl false) H3)) := ⟨fun q => q⟩
theorem pi_tupK {X : Cx} {K : PySem.W.Frag} {tg l : Expr} {tl : TE} (h : X.K = K) (hl : PE X l tl) : PI X tg l (iTup K tl) := h ▸ pi_tup hl
end
/-! ### while -/
section
variable {σ : L2.St} {H : Hp} {D : Ends} {tt : TT} {tb : TS}
def rTurn (W : Nat → L2.St → Hp → Prop) (m : Nat) (tb : TS) (D : Ends) (σ : L2.St) (H1 : Hp) : Prop := ∃ N : L2.St → Hp → Prop, (∀ σ' H', N σ' H' → ∃ m', m' < m ∧ W m' σ' H') ∧ tb { D with nx := N, ct := N, bk := D.nx } σ H1
instance {W : Nat → L2.St → Hp → Prop} {m : Nat} : Step (rTurn W m tb D σ H) (tb { D with nx := fun σ' H' => ∃ m', m' < m ∧ W m' σ' H', ct := fun σ' H' => ∃ m', m' < m ∧ W m' σ' H', bk := D.nx } σ H) := ⟨fun q => ⟨_, fun _ _ z => z, q⟩⟩
/-- m falls at each turn -/
theorem whileX (bs : List Addr) (Pv : Nat → L2.St → Hp → Prop) (m : Nat) (h0 : Pv m σ H)
    (hs : ∀ (m : Nat) σ' H', Chg bs H H' → Pv m σ' H' → tt σ' H' fun b H1 => if b = true then rTurn (fun k σ2 H2 => LI bs H (Pv k) σ2 H2) m tb D σ' H1 else D.nx σ' H1) : tWhile tt tb D σ H :=
  ⟨fun k σ' H' => LI bs H (Pv k) σ' H', ⟨m, Chg.refl _ _, h0⟩, fun k σ' H' z => hs k σ' H' z.1 z.2⟩
end
/-! ### what the top says of the class Round -/
structure RdF (K : PySem.W.Frag) (mg : Str → Option Value) (C : Addr) : Prop where
  g : mg "Round" = some (.ref C)
  c : Cls K C
  nb : NoAttr K C "_budgets"
  most : CRead K C (.type "type") ∧ ∃ u : Value, CVal K C (.type "type") "MOST" (.int 12) u
  sf : PySem.W.selfFirst K C = true
  ty : PySem.W.findIn K (.ref C) "__class__" = some (some (.builtin "object.__class__")) ∧ PySem.W.specialIn K (.builtin "object.__class__") "__get__" = some (some (.builtin "getset_descriptor.__get__")) ∧ PySem.W.takesIn K (.builtin "object.__class__") = some true ∧ PySem.W.mroIn K C (.type "object") = some true
theorem rdf_mk {K : PySem.W.Frag} {h : Heap} {mg : Str → Option Value} {C : Addr} {t : Tok} (X : K.In h) (G : h.Ns mainGlobals mg) (a : PySem.W.nsIn K mainGlobals "Round" = some (some (.ref C))) (pg : PySem.W.plainGet K C Str.empty = true) (hd : PySem.W.hasDictIn K C = true) (po : PySem.W.plainOver K C = true)
    (sa : PySem.W.findIn K (.ref C) "__setattr__" = some (some (.builtin "object.__setattr__"))) (nb : PySem.W.findIn K (.ref C) "_budgets" = some none) (rd : PySem.W.readsIn K C (.type "type") = true) (ga : PySem.W.specialIn K (.ref C) "__getattribute__" = some (some (.builtin "type.__getattribute__")))
    (mo : PySem.W.findCls K (.ref C) (.type "type") "MOST" = some (.val (.int 12 t)))
    (sf : PySem.W.selfFirst K C = true) (t1 : PySem.W.findIn K (.ref C) "__class__" = some (some (.builtin "object.__class__"))) (t2 : PySem.W.specialIn K (.builtin "object.__class__") "__get__" = some (some (.builtin "getset_descriptor.__get__"))) (t3 : PySem.W.takesIn K (.builtin "object.__class__") = some true) (t4 : PySem.W.mroIn K C (.type "object") = some true) : RdF K mg C :=
  ⟨PySem.W.mg_of X G a, ⟨pg, hd, po, sa⟩, nb, ⟨⟨rd, ga⟩, _, mo, ⟨_, rfl⟩⟩, sf, t1, t2, t3, t4⟩
theorem dfm_mk {K : PySem.W.Frag} {C : Addr} {m qual : Str} {st : Stmt} {f : Addr} {oc dV kV : Value} {od an : Option Addr} {osl : Array (Option Value)} {doc pm cdv ct : Value} {dvs : List V} {kws : List (Str × V)}
    (a : PySem.W.findIn K (.ref C) m = some (some (.ref f))) (b : PySem.W.isFn K (.ref f) = true) (k : PySem.W.keepIn K (.ref f) = true) (l : K.lookup f = some ⟨oc, od, .func (PySem.W.fnOf m qual (defArgs st) (defBody st) (defScope st) dV kV doc pm an cdv ct), osl⟩)
    (c : PySem.W.codeIn K cdv qual = true) (d : DflV K dV dvs) (q : KwdV K kV kws) : DfM K C m qual st dvs kws :=
  ⟨f, _, ⟨a, b, k⟩, ⟨⟨oc, od, dV, kV, doc, pm, an, cdv, ct, osl, rfl, l, c, d, q⟩, k⟩⟩
theorem dfi_mk {K : PySem.W.Frag} {C : Addr} {qual : Str} {st : Stmt} {f : Addr} {oc : Value} {od an : Option Addr} {osl : Array (Option Value)} {doc pm cdv ct : Value}
    (mk : PySem.W.makesIn K C = true) (a : PySem.W.findIn K (.ref C) "__init__" = some (some (.ref f))) (b : PySem.W.isFn K (.ref f) = true) (k : PySem.W.keepIn K (.ref C) = true) (l : K.lookup f = some ⟨oc, od, .func (PySem.W.fnOf "__init__" qual (defArgs st) (defBody st) (defScope st) .none .none doc pm an cdv ct), osl⟩)
    (c : PySem.W.codeIn K cdv qual = true) : DfI K C qual st := ⟨f, oc, doc, pm, cdv, ct, an, od, osl, ⟨mk, a, b, k⟩, l, c⟩
/-! properties -/
structure DfP (K : PySem.W.Frag) (C : Addr) (m qual : Str) (st : Stmt) : Prop where
  ex : ∃ (p g : Addr) (fd : FuncData), PropOf K C m p g ∧ FunD K m qual (defArgs st) (defBody st) (defScope st) [] [] g fd
structure ClP (CX : CXT) (P : Program) (w : World) (K : PySem.W.Frag) (mg : Str → Option Value) (base : Heap) (k : Nat) (C : Addr) (m qual : Str) (st : Stmt) (sp : Sp) : Prop where
  ex : ∃ (p g : Addr) (fd : FuncData), PropOf K C m p g ∧ FunD K m qual (defArgs st) (defBody st) (defScope st) [] [] g fd ∧ FnOk P w K mg base CX k g fd ["self"] sp
theorem dfp_mk {K : PySem.W.Frag} {C : Addr} {m qual : Str} {st : Stmt} {p g : Addr} {rest : List Value} {oc : Value} {od an : Option Addr} {osl : Array (Option Value)} {doc pm cdv ct : Value}
    (a : PySem.W.findIn K (.ref C) m = some (some (.ref p))) (b : PySem.W.specialIn K (.ref p) "__get__" = some (some (.builtin "property.__get__"))) (t : PySem.W.takesIn K (.ref p) = some true) (r : PySem.W.recIn K p "property" = some (.ref g :: rest))
    (l : K.lookup g = some ⟨oc, od, .func (PySem.W.fnOf m qual (defArgs st) (defBody st) (defScope st) .none .none doc pm an cdv ct), osl⟩) (c : PySem.W.codeIn K cdv qual = true) (k : PySem.W.keepIn K (.ref g) = true) : DfP K C m qual st :=
  ⟨p, g, _, ⟨a, b, t, rest, r⟩, ⟨⟨oc, od, .none, .none, doc, pm, an, cdv, ct, osl, rfl, l, c, .inl ⟨rfl, rfl⟩, .inl rfl⟩, k⟩⟩
theorem DfP.okP {P : Program} {w : World} {K : PySem.W.Frag} {mg : Str → Option Value} {base : Heap} {C : Addr} {m qual : Str} {st : Stmt} {N : List Str} {k : Nat} {sp : Sp} (D : DfP K C m qual st) (S : FnScope N ["self"] (defScope st)) (len : ∀ vs H Q E, sp vs H Q E → vs.length = 1)
    (hbody : ∀ (f : Addr) (cdv : Value) (A : Around) (outer : List Env) (s : Shared) (H : Hp) (vs : List V) (Q : VK) (E : XK), Room k (A.deeper (envOfC qual (defScope st) s.heap.objs.size f cdv)) → sp vs H Q E →
      ∃ t, PSs (cxOf CX0 P w K mg base N qual (defScope st) f cdv A outer s H E).nox (defBody st) t ∧ t { nx := fun _ H' => Q .non H', rt := Q } (start N vs) H) : ClP CX0 P w K mg base (k + 1) C m qual st sp := by
  obtain ⟨p, g, fd, h1, h2⟩ := D.ex
  exact ⟨p, g, fd, h1, h2, h2.ok S len fun cdv A outer s H vs Q E hr h => by
    obtain ⟨t, a, b⟩ := hbody g cdv A outer s H vs Q E hr h
    exact ⟨t, a.nox, b⟩⟩
theorem pe_p {X : Cx} {CX : CXT} {k : Nat} {C : Addr} {m qual : Str} {st : Stmt} {sp : Sp} {E : XK} {e : Expr} {pos : Pos} {ta : TE} (M : ClP CX X.prog X.w X.K X.mg X.base k C m qual st sp) (c : Cls X.K C) (hr : Room (k + 1) X.A) (hx : Passes CX X.nox E)
    (h : ∀ (kV doc pm : Value) (an : Option Addr) (cdv ct : Value) (us : List Value), us.length = (["self"] : List Str).length → bindArgs (PySem.W.fnOf m qual (defArgs st) (defBody st) (defScope st) .none kV doc pm an cdv ct) ⟨us, []⟩ = pure ((["self"] : List Str).zip us))
    (he : PE X e ta) (hab : attributeBase e m X.env (eval e X.env) = eval e X.env := by rfl) : PE X (.Attribute e m pos) (tProp C sp [] E ta) := by
  obtain ⟨p, g, fd, h1, h2, h4⟩ := M.ex
  exact pe_prop he c h1 h4 hr (h2.bindsN h) .nil hx hab
/-! the class's constant -/
section
variable {K : PySem.W.Frag} {σ : L2.St} {H : Hp} {Q : VK} {ta : TE} {f : Str} {C : Addr} {mg : Str → Option Value}
def rCVal (K : PySem.W.Frag) (f : Str) (x : V) (H1 : Hp) (Q : VK) : Prop := ∃ C mc v u, x = .ref C ∧ CRead K C mc ∧ CVal K C mc f v u ∧ Q v H1
instance : Step (tCVal K ta f σ H Q) (ta σ H fun x H1 => rCVal K f x H1 Q) := ⟨fun q => q⟩
theorem g_most (R : RdF K mg C) (q : Q (.int 12) H) : rCVal K "MOST" (.ref C) H Q := by
  obtain ⟨h1, u, h2⟩ := R.most
  exact ⟨C, _, _, u, rfl, h1, h2, q⟩
/-- self._budgets = the tuple at t -/
def rFldS (K : PySem.W.Frag) (f : Str) (D : Ends) (σ : L2.St) (y : V) (x : V) (H2 : Hp) : Prop := ∃ a C dx fs, x = .ref a ∧ H2 a = some (.ins C dx fs) ∧ Cls K C ∧ NoAttr K C f ∧ fs.length < 1000 ∧ D.nx σ (upd H2 a (.ins C dx (putF f y fs)))
instance {tv : TE} {D : Ends} : Step (sFld K ta tv f D σ H) (tv σ H fun y H1 => ta σ H1 fun x H2 => rFldS K f D σ y x H2) := ⟨fun q => q⟩
theorem g_fldS {a dx : Addr} {y : V} {D : Ends} (h : H a = some (.ins C dx [])) (R : RdF K mg C) (q : D.nx σ (upd H a (.ins C dx [("_budgets", y)]))) : rFldS K "_budgets" D σ y (.ref a) H := ⟨a, C, dx, [], rfl, h, R.c, R.nb, by decide, q⟩
end
/-! ### own operators of two of one class -/
section
variable {X : Cx} {CX : CXT} {k : Nat} {C : Addr} {m qual : Str} {st : Stmt} {ps : List Str} {sp : Sp} {E : XK}
/-- own two-place operator: the answer is an object -/
def rOwn2 (C : Addr) (sp : Sp) (E : XK) : R2 := fun x y H Q => ∃ a b dx dy fs gs, x = .ref a ∧ y = .ref b ∧ H a = some (.ins C dx fs) ∧ H b = some (.ins C dy gs) ∧ sp [.ref a, .ref b] H (fun v H' => (∃ q, v = .ref q) ∧ Q v H') E
/-- own ==: the answer is a bool -/
def rOwnEq (C : Addr) (sp : Sp) (E : XK) : R2 := fun x y H Q => ∃ a b dx dy fs gs, x = .ref a ∧ y = .ref b ∧ H a = some (.ins C dx fs) ∧ H b = some (.ins C dy gs) ∧ sp [.ref a, .ref b] H (fun v H' => (∃ q, v = .bl q) ∧ Q v H') E
theorem opOwnAdd (M : ClM CX X.prog X.w X.K X.mg X.base k C "__add__" qual st ps [] [] sp) (c : PySem.W.selfFirst X.K C = true) (hr : Room k X.A) (hx : Passes CX X E)
    (h : ∀ (kV doc pm : Value) (an : Option Addr) (cdv ct : Value) (us : List Value), us.length = ps.length → bindArgs (PySem.W.fnOf "__add__" qual (defArgs st) (defBody st) (defScope st) .none kV doc pm an cdv ct) ⟨us, []⟩ = pure (ps.zip us)) :
    OpR X (binaryOp .Add) (rOwn2 C sp E) := by
  obtain ⟨f, fd, h1, h2, h4⟩ := M.ex
  intro pins s σ H x y v u Q I rx ry d
  obtain ⟨a, b, dx, dy, fs, gs, rfl, rfl, ha, hb', hsp⟩ := d
  cases rx
  cases ry
  obtain ⟨mA, J, _⟩ := ins_get I.hok ha
  obtain ⟨mB, J', _⟩ := ins_get I.hok hb'
  obtain ⟨od, J, _⟩ := J.look
  obtain ⟨od', J', _⟩ := J'.look
  obtain ⟨m', hF⟩ := I.fr
  refine PySem.W.binop_K (op := .Add) hF I.ok.mod.kin J J'.type c h1.at_ h1.fn ?_
  refine wpAny_mono (run_fn (us := [.ref a, .ref b]) (vs := [.ref a, .ref b]) h4 hr (h2.bindsN h) .nil hx I (.cons rfl (.cons rfl .nil)) hsp) (fun r s' z => ?_) fun _ _ e => e
  obtain ⟨z, H', I', rz, ⟨q, ez⟩, hq⟩ := z
  subst ez
  cases rz
  exact ⟨.ref q, H', I', rfl, hq⟩
theorem opOwnEq (M : ClM CX X.prog X.w X.K X.mg X.base k C "__eq__" qual st ps [] [] sp) (hr : Room k X.A) (hx : Passes CX X E)
    (h : ∀ (kV doc pm : Value) (an : Option Addr) (cdv ct : Value) (us : List Value), us.length = ps.length → bindArgs (PySem.W.fnOf "__eq__" qual (defArgs st) (defBody st) (defScope st) .none kV doc pm an cdv ct) ⟨us, []⟩ = pure (ps.zip us)) :
    OpR X (compareOp .Eq) (rOwnEq C sp E) := by
  obtain ⟨f, fd, h1, h2, h4⟩ := M.ex
  intro pins s σ H x y v u Q I rx ry d
  obtain ⟨a, b, dx, dy, fs, gs, rfl, rfl, ha, hb', hsp⟩ := d
  cases rx
  cases ry
  obtain ⟨mA, J, _⟩ := ins_get I.hok ha
  obtain ⟨mB, J', _⟩ := ins_get I.hok hb'
  obtain ⟨od, J, _⟩ := J.look
  obtain ⟨od', J', _⟩ := J'.look
  obtain ⟨m', hF⟩ := I.fr
  show wpAny (model X.prog X.w) X.A (richCompare .Eq (.ref a) (.ref b)) (EP X pins σ Q) X.xe s
  refine PySem.W.cmp_K (op := .Eq) (tb := .ref C) hr.units0 hF I.ok.mod.kin J J'.type (by simp [PySem.W.notFirst]) h1.at_ h1.fn ?_
  refine wpAny_mono (run_fn (us := [.ref a, .ref b]) (vs := [.ref a, .ref b]) h4 hr (h2.bindsN h) .nil hx I (.cons rfl (.cons rfl .nil)) hsp) (fun r s' z => ?_) fun _ _ e => e
  obtain ⟨z, H', I', rz, ⟨q, ez⟩, hq⟩ := z
  subst ez
  cases rz
  exact ⟨.bl q, H', I', rfl, hq⟩
theorem opOr2 {f : Value → Value → Sem Value} {r r' : R2} (a : OpR X f r) (b : OpR X f r') : OpR X f (fun x y H Q => r x y H Q ∨ r' x y H Q) := fun pins s σ H x y v u Q I rx ry d => d.elim (fun d => a pins s σ H x y v u Q I rx ry d) fun d => b pins s σ H x y v u Q I rx ry d
/-- own len -/
def rOwnLen (C : Addr) (sp : Sp) (E : XK) : List V → Hp → VK → Prop := fun vs H Q => ∃ a dx fs, vs = [.ref a] ∧ H a = some (.ins C dx fs) ∧ sp [.ref a] H (fun v H' => (∃ n : Nat, v = .int n ∧ n < 2 ^ 60) ∧ Q v H') E
theorem callOwnLen (M : ClM CX X.prog X.w X.K X.mg X.base k C "__len__" qual st ps [] [] sp) (hr : Room (k + 1) X.A) (hx : Passes CX X E)
    (h : ∀ (kV doc pm : Value) (an : Option Addr) (cdv ct : Value) (us : List Value), us.length = ps.length → bindArgs (PySem.W.fnOf "__len__" qual (defArgs st) (defBody st) (defScope st) .none kV doc pm an cdv ct) ⟨us, []⟩ = pure (ps.zip us)) :
    CallR X (.builtin "len") (rOwnLen C sp E) := by
  obtain ⟨f, fd, h1, h2, h4⟩ := M.ex
  intro pins s σ H xs us Q I r d
  obtain ⟨a, dx, fs, rfl, ha, hsp⟩ := d
  rw [Vals.ref1 r]
  obtain ⟨mA, J, _⟩ := ins_get I.hok ha
  obtain ⟨od, J, _⟩ := J.look
  obtain ⟨m', hF⟩ := I.fr
  refine PySem.W.len_K hF I.ok.mod.kin J h1.at_ h1.fn ?_
  have hb := h2.bindsN h
  have hl := h4.len _ _ _ _ hsp
  have r2 : Vals [V.ref a] [Value.ref a] := .cons rfl .nil
  have e0 : Env0 X.prog X.w X.K X.mg X.base X.A.in1 X.stack s H := by
    have e := I.env0
    exact ⟨e.frames, e.mod, e.bs, e.bsz, e.funs, e.frf, e.hok, e.bare⟩
  refine wpAny_call (codeAny_mono (h4.run X.A.in1 X.stack s H ⟨[.ref a], []⟩ [.ref a] [.ref a] _ E hr.in1 e0 (by
    have := hb s [.ref a] I.kIn (by simpa using hl)
    simpa using this) r2 hsp) fun r s' hq => ?_)
  cases r with
  | error e => exact hx pins σ H s e s' I hq
  | ok fl =>
    cases fl with
    | ret w =>
      obtain ⟨z, H', I', rz, ⟨n, ez, hn⟩, hq2⟩ := I.after hq
      subst ez
      obtain ⟨t, rfl⟩ : ∃ t, w = .int (n : Int) t := rz
      exact ⟨⟨by omega, by omega⟩, .int n, H', I'.tok _, ⟨_, rfl⟩, hq2⟩
    | next => exact False.elim hq
    | brk => exact False.elim hq
    | cont => exact False.elim hq
end
section
variable {K : PySem.W.Frag} {H : Hp} {Q : VK} {a b C : Addr} {bs cs : List Int} {sp : Sp} {E : XK} {mg : Str → Option Value}
instance [h1 : RdC C H a bs] [h2 : RdC C H b cs] : Step (rOwn2 C sp E (.ref a) (.ref b) H Q) (sp [.ref a, .ref b] H (fun v H' => (∃ q, v = .ref q) ∧ Q v H') E) := ⟨fun q => by
  obtain ⟨dx, p, h1, _⟩ := h1.ex
  obtain ⟨dy, p', h2, _⟩ := h2.ex
  exact ⟨a, b, dx, dy, _, _, rfl, rfl, h1, h2, q⟩⟩
instance [h1 : RdC C H a bs] [h2 : RdC C H b cs] : Step (rOwnEq C sp E (.ref a) (.ref b) H Q) (sp [.ref a, .ref b] H (fun v H' => (∃ q, v = .bl q) ∧ Q v H') E) := ⟨fun q => by
  obtain ⟨dx, p, h1, _⟩ := h1.ex
  obtain ⟨dy, p', h2, _⟩ := h2.ex
  exact ⟨a, b, dx, dy, _, _, rfl, rfl, h1, h2, q⟩⟩
instance {p : Addr} : Step ((∃ q, V.ref p = V.ref q) ∧ Q (.ref p) H) (Q (.ref p) H) := ⟨fun q => ⟨⟨p, rfl⟩, q⟩⟩
instance {p : Bool} : Step ((∃ q, V.bl p = V.bl q) ∧ Q (.bl p) H) (Q (.bl p) H) := ⟨fun q => ⟨⟨p, rfl⟩, q⟩⟩
/-- isinstance(a, Round) -/
theorem g_isR [h : RdC C H a bs] (R : RdF K mg C) (q : Q (.bl true) H) : rIsi K [.ref a, .ref C] H Q := by
  obtain ⟨dx, p, h1, _⟩ := h.ex
  refine g_isi (.own C) (.base (.ins h1 R.c R.ty.1 R.ty.2.1 R.ty.2.2.1 R.ty.2.2.2)) ?_ q
  unfold PySem.W.kitOne
  rw [if_pos (beq_self_eq_true _)]
end
/-! ### a staticmethod -/
structure SMet (K : PySem.W.Frag) (C : Addr) (m : Str) (p f : Addr) : Prop where
  at_ : PySem.W.findCls K (.ref C) (.type "type") m = some (.get (.builtin "staticmethod.__get__") (.ref p) .none (.ref C))
  rc : ∃ rest, PySem.W.recIn K p "staticmethod" = some (.ref f :: rest)
  kp : PySem.W.keepIn K (.ref f) = true
structure DfT (K : PySem.W.Frag) (C : Addr) (m qual : Str) (st : Stmt) : Prop where
  ex : ∃ (p f : Addr) (fd : FuncData), SMet K C m p f ∧ FunD K m qual (defArgs st) (defBody st) (defScope st) [] [] f fd
structure ClT (CX : CXT) (P : Program) (w : World) (K : PySem.W.Frag) (mg : Str → Option Value) (base : Heap) (k : Nat) (C : Addr) (m qual : Str) (st : Stmt) (ps : List Str) (sp : Sp) : Prop where
  ex : ∃ (p f : Addr) (fd : FuncData), SMet K C m p f ∧ FunD K m qual (defArgs st) (defBody st) (defScope st) [] [] f fd ∧ FnOk P w K mg base CX k f fd ps sp
theorem dft_mk {K : PySem.W.Frag} {C : Addr} {m qual : Str} {st : Stmt} {p f : Addr} {rest : List Value} {oc : Value} {od an : Option Addr} {osl : Array (Option Value)} {doc pm cdv ct : Value}
    (a : PySem.W.findCls K (.ref C) (.type "type") m = some (.get (.builtin "staticmethod.__get__") (.ref p) .none (.ref C))) (r : PySem.W.recIn K p "staticmethod" = some (.ref f :: rest))
    (l : K.lookup f = some ⟨oc, od, .func (PySem.W.fnOf m qual (defArgs st) (defBody st) (defScope st) .none .none doc pm an cdv ct), osl⟩) (c : PySem.W.codeIn K cdv qual = true) (k : PySem.W.keepIn K (.ref f) = true) : DfT K C m qual st :=
  ⟨p, f, _, ⟨a, ⟨rest, r⟩, k⟩, ⟨⟨oc, od, .none, .none, doc, pm, an, cdv, ct, osl, rfl, l, c, .inl ⟨rfl, rfl⟩, .inl rfl⟩, k⟩⟩
theorem DfT.okP {P : Program} {w : World} {K : PySem.W.Frag} {mg : Str → Option Value} {base : Heap} {C : Addr} {m qual : Str} {st : Stmt} {N ps : List Str} {k : Nat} {sp : Sp} (D : DfT K C m qual st) (S : FnScope N ps (defScope st)) (len : ∀ vs H Q E, sp vs H Q E → vs.length = ps.length)
    (hbody : ∀ (f : Addr) (cdv : Value) (A : Around) (outer : List Env) (s : Shared) (H : Hp) (vs : List V) (Q : VK) (E : XK), Room k (A.deeper (envOfC qual (defScope st) s.heap.objs.size f cdv)) → sp vs H Q E →
      ∃ t, PSs (cxOf CX0 P w K mg base N qual (defScope st) f cdv A outer s H E).nox (defBody st) t ∧ t { nx := fun _ H' => Q .non H', rt := Q } (start N vs) H) : ClT CX0 P w K mg base (k + 1) C m qual st ps sp := by
  obtain ⟨p, f, fd, h1, h2⟩ := D.ex
  exact ⟨p, f, fd, h1, h2, h2.ok S len fun cdv A outer s H vs Q E hr h => by
    obtain ⟨t, a, b⟩ := hbody f cdv A outer s H vs Q E hr h
    exact ⟨t, a.nox, b⟩⟩
section
variable {X : Cx} {CX : CXT} {k : Nat} {C : Addr} {m qual : Str} {st : Stmt} {ps : List Str} {sp : Sp} {E : XK} {o e : Expr} {es : List Expr} {ta : TE} {t : TA} {apos pos : Pos} {pl : Sem Bool}
def tSm (C : Addr) (sp : Sp) (E : XK) (ta : TE) (t : TA) : TE := fun σ H Q => ta σ H fun x H1 => x = .ref C ∧ t σ H1 fun vs H2 => sp vs H2 Q E
theorem pe_sm (M : ClT CX X.prog X.w X.K X.mg X.base k C m qual st ps sp) (r : CRead X.K C (.type "type")) (hr : Room k X.A) (hx : Passes CX X E)
    (h : ∀ (kV doc pm : Value) (an : Option Addr) (cdv ct : Value) (us : List Value), us.length = ps.length → bindArgs (PySem.W.fnOf m qual (defArgs st) (defBody st) (defScope st) .none kV doc pm an cdv ct) ⟨us, []⟩ = pure (ps.zip us))
    (he : PE X o ta) (ha : PA X (e :: es) t)
    (hst : starEach (e :: es) X.env = (false, eval e X.env) :: starEach es X.env := by rfl) (hpl : (backTo pos (starEach es X.env)).any (·.1) = false := by rfl)
    (ht : eval (.Call (.Attribute o m apos) (e :: es) [] pos) X.env = (do
      let ov ← eval o X.env
      standAt apos.atName
      let (f, first) ← holding [ov] (getMethod ov m pl)
      callWith pos f first (backTo pos (starEach (e :: es) X.env)) (backToKw pos (keywordEach [] X.env))) := by rfl) :
    PE X (.Call (.Attribute o m apos) (e :: es) [] pos) (tSm C sp E ta t) := by
  obtain ⟨p, f, fd, c, h2, F⟩ := M.ex
  refine ⟨fun pins s σ H Q I h3 => ?_⟩
  refine PySem.W.methodCall_KW (pl := pl) (thn (he.run pins s σ H _ I h3) fun u s1 ⟨x, H1, I1, rx, ex, q⟩ => ?_) ht
  subst ex
  obtain rfl : u = Value.ref C := rx
  obtain ⟨rest, hp⟩ := c.rc
  refine PySem.W.method_cls I1.kIn r.ga (PySem.W.cls_bind I1.kIn r.rd c.at_ (wpAny_call (PySem.W.sm_get (s := { s1 with toks := s1.toks + 1 }) I1.kIn hp (PySem.W.handed_on rfl ?_))))
  refine PySem.W.callWith_K (first := []) (h₀ := X.base) I.ok.mod.kin c.kp (thn (ha.run pos pins _ σ H1 _ (I1.tok _) q) fun us s2 ⟨vs, H2, I2, rv, q2⟩ => ⟨I2.kIn, ?_⟩) hst hpl
  exact run_fn F hr (h2.bindsN h) .nil hx I2 rv (by rw [List.append_nil]; exact q2)
instance {σ : L2.St} {H : Hp} {Q : VK} : Step (tSm C sp E ta t σ H Q) (ta σ H fun x H1 => x = .ref C ∧ t σ H1 fun vs H2 => sp vs H2 Q E) := ⟨fun q => q⟩
instance {σ : L2.St} {H : Hp} {Q : VK} : Step (V.ref C = V.ref C ∧ t σ H fun vs H2 => sp vs H2 Q E) (t σ H fun vs H2 => sp vs H2 Q E) := ⟨fun q => ⟨rfl, q⟩⟩
end
end Gx

set_option linter.all false
set_option maxRecDepth 100000
set_option maxHeartbeats 2000000
/-! Gs: reversed lists in comprehensions, isqrt, lists of bools compared, the greatest of a list. -/
namespace Gx
open PySem PySem.Spec PyProof.Rows L2 _root_.ClX StX
/-! ### isqrt -/
section
variable {X : Cx} {K : PySem.W.Frag} {H : Hp} {Q : VK}
def rIsqrt : List V → Hp → VK → Prop := fun vs H Q => ∃ a : Int, vs = [.int a] ∧ 0 ≤ a ∧ a < 2 ^ 64 ∧ ∀ r : Int, 0 ≤ r → r * r ≤ a → a < (r + 1) * (r + 1) → Q (.int r) H
theorem callIsqrt : CallR X (.builtin "math.isqrt") rIsqrt := by
  intro pins s σ H vs us Q I r h
  obtain ⟨a, rfl, h0, h1, q⟩ := h
  obtain ⟨u, rfl, t, rfl⟩ := vals1 r
  obtain ⟨h2, h3⟩ := Float64.isqrt_spec a.toNat
  refine PySem.W.mg_isqrt h0 h1 ⟨.int _, H, I.tok _, ⟨_, rfl⟩, q _ (by omega) ?_ ?_⟩
  · have : ((Float64.isqrt a.toNat * Float64.isqrt a.toNat : Nat) : Int) ≤ (a.toNat : Int) := by exact_mod_cast h2
    rw [Int.natCast_mul] at this
    omega
  · have : (a.toNat : Int) < (((Float64.isqrt a.toNat + 1) * (Float64.isqrt a.toNat + 1) : Nat) : Int) := by exact_mod_cast h3
    rw [Int.natCast_mul] at this
    have e : ((Float64.isqrt a.toNat + 1 : Nat) : Int) = (Float64.isqrt a.toNat : Int) + 1 := rfl
    rw [e] at this
    omega
theorem g_isqrt {a : Int} (h : 0 ≤ a ∧ a < 2 ^ 64) (q : ∀ r : Int, 0 ≤ r → r * r ≤ a → a < (r + 1) * (r + 1) → Q (.int r) H) : rIsqrt [.int a] H Q := ⟨a, rfl, h.1, h.2, q⟩
end
/-! ### reversed -/
section
variable {K : PySem.W.Frag} {σ τ : L2.St} {H : Hp} {Q : VK} {ta : TA} {te : TE} {tt : TT} {g : TG}
theorem fd_rev {a : Addr} {xs : List V} : Feeds (Itv K a xs.length) xs.length (fun H => SqL K H a xs) (fun i H x H' => H' = H ∧ xs.reverse[i]? = some x) := by
  refine ⟨fun i H s h => ⟨h, xs, xs[xs.length - 1 - i], s, List.getElem?_eq_getElem (by omega)⟩, fun i H x H' s h y => ⟨y.1, ?_⟩, fun H s => Nat.le_refl _⟩
  rw [List.getElem?_reverse h]
  exact y.2 xs s
def rLcV (K : PySem.W.Frag) (us : List V) (g : TG) (tt : TT) (te : TE) (vs : List Nat) (σ : L2.St) (H : Hp) (Q : VK) : Prop := tLc (iRev K fun _ H R => R us H) g tt te vs σ H Q
instance {vs : List Nat} : Step (tLc (iRev K ta) g tt te vs σ H Q) (ta σ H fun us H1 => rLcV K us g tt te vs σ H1 Q) := ⟨fun q => q⟩
theorem lcV_F {vs : List Nat} {a : Addr} {xs : List V} (F : Nat → List V) [hx : SqC K H a xs] [hw : Wipe σ vs τ] (hF : F 0 = []) (hz : ∀ i, i < xs.length → (F i).length < 100000)
    (hs : ∀ D (i : Nat) x H', xs.reverse[i]? = some x → Nw H D → Ex H H' → At H' D (.lst (F i)) → (F i).length < 100000 → g x τ H' fun σ2 H2 => wipe σ2 vs = τ ∧ tt σ2 H2 fun b H3 =>
      if b = true then te σ2 H3 (rApp D (rW D fun ac H5 => Ex H H5 ∧ ac = F (i + 1))) else rW D (fun ac H5 => Ex H H5 ∧ ac = F (i + 1)) H3)
    (hd : ∀ D H', Nw H D → Ex H H' → At H' D (.lst (F xs.length)) → Q (.ref D) H') : rLcV K [.ref a] g tt te vs σ H Q :=
  ⟨a, xs, rfl, hx.sq, lc_F fd_rev F hF (fun _ e => e.l hx.sq) hz (fun D i H' x H'' hi hD e hp z y => by
    obtain ⟨rfl, y⟩ := y
    exact hs D i x _ y hD e hp z) hd⟩
theorem pi_revK {X : Cx} {K : PySem.W.Frag} {tg : Expr} {e : Expr} {ta : TA} {p pos : Pos} (h : X.K = K) (hg : Gl X "reversed") (hm : X.mg "reversed" = none) (ha : PA X [e] ta) (hs : starEach [e] X.env = [(false, eval e X.env)] := by rfl) : PI X tg (.Call (.Name "reversed" p) [e] [] pos) (iRev K ta) := h ▸ pi_reversed hg hm ha hs
/-- a comprehension that keeps some and turns them: what comes out -/
def fm (p : Int → Bool) (f : Int → Int) (ns : List Int) : List Int := (ns.filter p).map f
theorem fm_take {p : Int → Bool} {f : Int → Int} {ns : List Int} {i : Nat} {x : Int} (h : ns[i]? = some x) : fm p f (ns.take (i + 1)) = if p x = true then fm p f (ns.take i) ++ [f x] else fm p f (ns.take i) := by
  unfold fm
  rw [List.take_succ, h, List.filter_append, List.map_append]
  by_cases z : p x = true
  · simp [z]
  · simp [z]
theorem fm_len {p : Int → Bool} {f : Int → Int} {ns : List Int} {i : Nat} : (fm p f (ns.take i)).length ≤ ns.length := by
  unfold fm
  rw [List.length_map]
  exact Nat.le_trans (List.length_filter_le ..) (by rw [List.length_take]; omega)
end
/-! ### the greatest of a list -/
def IsMax (ns : List Int) (m : Int) : Prop := m ∈ ns ∧ ∀ y ∈ ns, y ≤ m
theorem g_max {K : PySem.W.Frag} {H : Hp} {Q : VK} {p : Addr} {ns : List Int} [h : SqC K H p (ns.map V.int)] (h0 : 0 < ns.length) (q : ∀ m, IsMax ns m → Q (.int m) H) : rMax K [.ref p] H Q := ⟨p, ns, rfl, h.sq, h0, fun m h1 h2 => q m ⟨h1, h2⟩⟩
/-! ### calls with keywords where places have defaults -/
section
variable {X : Cx} {CX : CXT} {k n : Nat} {ps ks : List Str} {sp : Sp} {E : L2.St → XK} {x : Str} {p pos : Pos} {e : Expr} {es : List Expr} {kw : List Keyword} {t tk : TA} {st : Stmt} {dvs : List V} {kws : List (Str × V)}
theorem pe_gkd (C : ClG CX X.prog X.w X.K X.mg X.base k x st ps dvs kws sp) (hr : Room k X.A) (hx : ∀ σ, PassesAt CX X σ (E σ)) (n : Nat) (ks : List Str) (ms : List (Str × V)) (g : {α : Type} → List α → List α → List α → List α → List α) (hd : dvs ≠ []) (hk : kws ≠ []) (hms : ∀ q ∈ ms, q ∈ kws)
    (hrel : ∀ {vs ds mz zs : List V} {us its mv ws : List Value}, Vals vs us → Vals ds its → Vals mz mv → Vals zs ws → Vals (g vs ds mz zs) (g us its mv ws))
    (h : ∀ (T D : Addr) (doc pm : Value) (an : Option Addr) (cdv ct : Value) (us its mv ws : List Value), us.length = n → its.length = dvs.length → mv.length = ms.length → ws.length = ks.length →
      ∃ k, bindArgs (PySem.W.fnOf x x (defArgs st) (defBody st) (defScope st) (.ref T) (.ref D) doc pm an cdv ct) ⟨us, ks.zip ws⟩ = seqItems? (.ref T) >>= k ∧ KwChain D ((ms.map (·.1)).zip mv) (k (some its.toArray)) (ps.zip (g us its mv ws)))
    (ha : PA X (e :: es) t) (hkw : PK X kw tk) (hg : Gl X x := by rfl) (hall : (backToKw pos (keywordEach kw X.env)).all (·.1.isSome) = true := by rfl) (hks : (backToKw pos (keywordEach kw X.env)).filterMap (·.1) = ks := by rfl)
    (hdb : (x == ("__debug__" : Str)) = false := by decide) (he : starEach (e :: es) X.env = (false, eval e X.env) :: starEach es X.env := by rfl)
    (hpl : ((backTo pos (starEach (e :: es) X.env)).any (·.1) || (backToKw pos (keywordEach kw X.env)).any (·.1.isNone)) = false := by rfl) :
    PE X (.Call (.Name x p) (e :: es) kw pos) (tCallNS n ks.length sp (fun vs zs => g vs dvs (ms.map (·.2)) zs) E t tk) := by
  obtain ⟨f, fd, h1, h2, h4⟩ := C.ex
  obtain ⟨its, mv, b⟩ := h2.kbinds n ks ms g hd hk hms hrel h
  exact pe_callNS h4 hr hg h1 h2.kp b hx ha hkw hall hks hdb he hpl
end
/-! ### len of a Round -/
section
variable {K : PySem.W.Frag} {H : Hp} {Q : VK} {C a : Addr} {bs : List Int} {sp : Sp} {E : XK}
instance [h : RdC C H a bs] : Step (rOwnLen C sp E [.ref a] H Q) (sp [.ref a] H (fun v H' => (∃ n : Nat, v = .int n ∧ n < 2 ^ 60) ∧ Q v H') E) := ⟨fun q => by
  obtain ⟨dx, p, h1, _⟩ := h.ex
  exact ⟨a, dx, _, rfl, h1, q⟩⟩
/-- __len__'s spec -/
def spLen (C : Addr) : Sp := fun vs H Q _ => ∃ (a : Addr) (bs : List Int), vs = [.ref a] ∧ RdC C H a bs ∧ Q (.int (bs.length : Nat)) H
theorem use_len [h : RdC C H a bs] (hl : bs.length ≤ 1000) (q : Q (.int (bs.length : Nat)) H) : spLen C [.ref a] H (fun v H' => (∃ n : Nat, v = .int n ∧ n < 2 ^ 60) ∧ Q v H') E := ⟨a, bs, rfl, h, ⟨_, rfl, by omega⟩, q⟩
end
/-! ### lists of bools compared -/
section
variable {K : PySem.W.Frag} {H : Hp} {Q : VK}
theorem ev3 {a b c d e f : Bool} : PyData.eqv (.list [.bool a, .bool b, .bool c]) (.list [.bool d, .bool e, .bool f]) = ((a == d) && ((b == e) && (c == f))) := by
  cases a <;> cases b <;> cases c <;> cases d <;> cases e <;> cases f <;> rfl
end
end Gx

set_option Elab.async false
set_option linter.all false
set_option maxRecDepth 100000
set_option maxHeartbeats 4000000
/-! try with several clauses, some with a name -/
namespace Gx
open PySem PySem.Spec PyProof.Rows L2
/-- an exception that has come down in the frame of the try -/
def Ld (X : Cx) (pins : List (Addr × Obj)) (a : Addr) (cls : Value) (d : Option Addr) (σ : L2.St) (H : Hp) (s : Shared) : Prop :=
  ∃ (B : Heap) (t : Shared), Inv X pins σ H t ∧ (∀ b o, t.heap.get? b = some o → b ∉ frs X.stack → B.get? b = some o) ∧ t.heap.UpToSlots s.heap ∧ HandSPX.FlyingZ B (X.env :: X.outer) a (Zc cls d) s.heap ∧ H a = none ∧ s.os = t.os ∧ AllBare s.gens
section
variable {X : Cx} {pins : List (Addr × Obj)} {a : Addr} {cls c : Value} {d : Option Addr} {σ : L2.St} {H : Hp} {s : Shared} {x n : Str} {i : Nat} {W2 : Ends → WX} {Wout : WX} {hds : List ExceptHandler} {b₀ : Stmt} {suite body : List Stmt} {np pos pos' : Pos} {ts : Addr → Value → Option Addr → TS} {tb : WX → TS}
theorem Ld.inv (L : Ld X pins a cls d σ H s) : Inv X pins σ H s := by
  obtain ⟨B, t, J, nb, up, fl, _, os, ag⟩ := L
  exact Inv.landed J nb fl.1 up os ag
theorem Ld.again {A : Around} {Q : Unit → Shared → Prop} {E : Value → Shared → Prop} (L : Ld X pins a cls d σ H s) (q : ∀ s', Ld X pins a cls d σ H s' → Q () s') : wpAny (model X.prog X.w) A (setFlight (.ref a) none) Q E s := by
  obtain ⟨B, t, J, nb, up, fl, na, os, ag⟩ := L
  exact HandSPX.lands_againZ fl fun h fl' up' => q _ ⟨B, t, J, nb, up.trans up', fl', na, os, ag⟩
theorem Ld.hot (hf : X.env.frame = some X.env.locals) (L : Ld X pins a cls d σ H s) : ∃ oe, s.heap.get? a = some oe ∧ Zc cls d oe ∧ (∃ vs, oe.data = .fields vs) ∧ Inv (X.suite a ((a, oe) :: (X.pn ++ pins))) [] σ H s := by
  have J := L.inv
  obtain ⟨B, t, _, nb, up, fl, na, os, ag⟩ := L
  obtain ⟨oe, vs, e1, z1, d1⟩ := fl.there
  have off : a ∉ frs (X.env :: X.outer) := fun hm => by
    obtain ⟨_, o, e2, h2⟩ := fl.2.2.1.mem hm
    rw [e1] at e2
    cases e2
    exact h2 _ d1
  refine ⟨oe, e1, z1, ⟨vs, d1⟩, Inv.suite J e1 d1 na ?_ ?_⟩
  · intro z
    exact off (List.mem_filterMap.mpr ⟨X.env, List.mem_cons_self .., by rw [hf, z]⟩)
  · intro hm
    obtain ⟨e, h1, h2⟩ := List.mem_filterMap.mp hm
    exact off (List.mem_filterMap.mpr ⟨e, List.mem_cons_of_mem _ h1, h2⟩)
theorem Ld.test {b : Bool} {Q : Bool → Shared → Prop} {E1 E2 : Value → Shared → Prop} (hf : X.env.frame = some X.env.locals) (L : Ld X pins a cls d σ H s) (hc : Names X x c) (hb : PySem.W.exmOne X.K cls c = some b) (q : Q b s) :
    wpAny (model X.prog X.w) (X.A.mark (some (.ref a))) (eval (.Name x np) X.env) (fun v s1 => wpAny (model X.prog X.w) (X.A.mark (some (.ref a))) (excMatches (.ref a) v) Q E2 s1) E1 s := by
  obtain ⟨oe, e1, z1, _, S⟩ := L.hot hf
  have ty : PySem.W.Looks (model X.prog X.w) s.heap (typeOf (.ref a)) cls := fun A Q E s' kp qq => wpAny_typeOf_ref (kp _ _ e1) (by rw [z1.1]; exact qq)
  have ok := (PySem.W.exm_one (M := model X.prog X.w) L.inv.kIn ty hb)
  obtain ⟨g1, g2, g3⟩ := hc
  rcases g3 with g3 | ⟨g3, g4, g5⟩
  · exact ld_glob S g1 g3 (ok.here q) g2
  · exact ld_blt S g1 g3 g4 (ok.here q) g5 g2
theorem Ld.pass {z : String} {D : Ends} (hs : X.stack = X.env :: X.outer) (hf : X.env.frame = some X.env.locals) (L : Ld X pins a cls d σ H s) (tk : Takes X Wout) (w : Wout cls d σ H) : wpAny (model X.prog X.w) X.A (PySem.passOn z (.ref a) X.env : Sem Flow) (SP X pins D) X.xe s := by
  obtain ⟨B, t, J, nb, up, fl, na, os, ag⟩ := L
  have out : ∀ h4, HandSPX.HeldZ B (X.env :: X.outer) a (Zc cls d) X.env.locals h4 → s.heap.UpToSlots h4 → X.xe (.ref a) { s with heap := h4 } := fun h4 hh up4 =>
    tk _ _ ⟨a, B, t, pins, σ, H, cls, d, rfl, J, nb, up.trans up4, .inr (.inr (by rw [hs]; exact hh)), na, os, ag, w⟩
  have go : wpAny (model X.prog X.w) X.A (setFlight (.ref a) X.env.frame) (fun _ s4 => wpAny (model X.prog X.w) X.A (throw (.ref a) : Sem Flow) (SP X pins D) X.xe s4) X.xe s := by
    rw [hf]
    exact HandSPX.setFlight_upZ fl fun h4 hh up4 => wpAny_throw (out h4 hh up4)
  obtain ⟨_, _, _, oe, vs, T, oT, us, e1, _, e3, e4, _⟩ := id fl
  unfold PySem.passOn
  refine wpAny_bind (wpAny_field e1 e3 e4 ?_)
  have hT : ¬ ((Value.ref T == Value.none) = true) := by simp
  rw [if_neg hT]
  first
    | exact wpAny_bind (wpAny_pure (wpAny_bind go))
    | exact wpAny_bind go
/-- clauses, and what they wish of an exception -/
def Clz (X : Cx) (hds : List ExceptHandler) (W : Ends → WX) : Prop := ∀ (pins : List (Addr × Obj)) (a : Addr) (cls : Value) (d : Option Addr) (σ : L2.St) (H : Hp) (s : Shared) (D : Ends), X.stack = X.env :: X.outer → X.env.frame = some X.env.locals → X.Ok →
  Ld X pins a cls d σ H s → W D cls d σ H → wpAny (model X.prog X.w) X.A (handleBy (.ref a) X.env hds) (SP X pins D) X.xe s
theorem cl_nil (tk : Takes X Wout) : Clz X [] (fun _ => Wout) := fun pins a cls d σ H s D hs hf _ L w => wpAny_handleBy_nil (L.pass hs hf tk w)
theorem cl_only (hc : Names X x c) (hsu : ∀ (a : Addr) (oe : Obj) (cls : Value) (d : Option Addr) (pn : List (Addr × Obj)), Zc cls d oe → (∃ vs, oe.data = .fields vs) → PSs (X.suite a ((a, oe) :: pn)) (b₀ :: suite) (ts a cls d))
    (r : Clz X hds W2) : Clz X (.ExceptHandler (some (.Name x np)) none (b₀ :: suite) pos' :: hds) (fun D => wOnly X.K c ts (W2 D) D) := by
  intro pins a cls d σ H s D hs hf ok L w
  obtain ⟨b, hb, yes, no⟩ := w
  refine wpAny_handleBy_cons (codeAny_handlers_test (L.test hf hc hb ?_)) (by intro q; cases q)
  cases b with
  | false => exact r pins a cls d σ H s D hs hf ok L (no rfl)
  | true =>
    refine codeAny_handlers_suite (L.again fun s' L' => ?_)
    obtain ⟨oe, _, z1, dt, S⟩ := L'.hot hf
    have na : H a = none := let ⟨_, _, _, _, _, _, q, _⟩ := L'; q
    refine wpAny_mono ((hsu a oe cls d (X.pn ++ pins) z1 dt).run [] _ _ H _ S (yes rfl a na)) (fun f s6 sp6 => ?_) (fun _ _ z => z.elim)
    cases f with
    | ret u => obtain ⟨v6, σ6, H6, S6, r6, q6⟩ := sp6; exact ⟨v6, σ6, H6, Inv.unsuite S6 ok, r6, q6⟩
    | next => obtain ⟨σ6, H6, S6, q6⟩ := sp6; exact ⟨σ6, H6, Inv.unsuite S6 ok, q6⟩
    | brk => obtain ⟨σ6, H6, S6, q6⟩ := sp6; exact ⟨σ6, H6, Inv.unsuite S6 ok, q6⟩
    | cont => obtain ⟨σ6, H6, S6, q6⟩ := sp6; exact ⟨σ6, H6, Inv.unsuite S6 ok, q6⟩
theorem cl_as (hN : X.N.Nodup) (hi : X.N[i]? = some n) (hln : X.env.kindOf n = some .local) (hc : Names X x c) (hsu : ∀ (a : Addr) (oe : Obj) (cls : Value) (d : Option Addr) (pn : List (Addr × Obj)), Zc cls d oe → (∃ vs, oe.data = .fields vs) → PSs (X.suite a ((a, oe) :: pn)) (b₀ :: suite) (ts a cls d))
    (r : Clz X hds W2) : Clz X (.ExceptHandler (some (.Name x np)) (some n) (b₀ :: suite) pos' :: hds) (fun D => wAs X.K c i ts (W2 D) D) := by
  intro pins a cls d σ H s D hs hf ok L w
  obtain ⟨b, hb, yes, no⟩ := w
  refine wpAny_handleBy_cons (codeAny_handlers_test (L.test hf hc hb ?_)) (by intro q; cases q)
  cases b with
  | false => exact r pins a cls d σ H s D hs hf ok L (no rfl)
  | true =>
    refine codeAny_handlers_suite_as (L.again fun s' L' => ?_)
    obtain ⟨oe, _, z1, dt, S⟩ := L'.hot hf
    have na : H a = none := let ⟨_, _, _, _, _, _, q, _⟩ := L'; q
    have lc : Loc X.env.scope n := .inl hln
    refine store_ok (X := X.suite a ((a, oe) :: (X.pn ++ pins))) (v := .ref a) S hN hi lc rfl (fun s5 S5 => ?_) (.inr hln)
    refine wpAny_mono ((hsu a oe cls d (X.pn ++ pins) z1 dt).run [] s5 _ H _ S5 (yes rfl a na)) (fun f s6 sp6 => ?_) (fun _ _ z => z.elim)
    cases f with
    | ret u => obtain ⟨v6, σ6, H6, S6, r6, q6⟩ := sp6; exact gone_ok (Inv.unsuite S6 ok) hN hi hln fun s7 J7 => ⟨v6, _, H6, J7, r6, q6⟩
    | next => obtain ⟨σ6, H6, S6, q6⟩ := sp6; exact gone_ok (Inv.unsuite S6 ok) hN hi hln fun s7 J7 => ⟨_, H6, J7, q6⟩
    | brk => obtain ⟨σ6, H6, S6, q6⟩ := sp6; exact gone_ok (Inv.unsuite S6 ok) hN hi hln fun s7 J7 => ⟨_, H6, J7, q6⟩
    | cont => obtain ⟨σ6, H6, S6, q6⟩ := sp6; exact gone_ok (Inv.unsuite S6 ok) hN hi hln fun s7 J7 => ⟨_, H6, J7, q6⟩
theorem ps_try_cl {h₀ : ExceptHandler} (hs : X.stack = X.env :: X.outer) (hf : X.env.frame = some X.env.locals)
    (hb : ∀ (W : WX) (pn : List (Addr × Obj)) (xe : Value → Shared → Prop), Takes (X.tr pn xe) W → PassesOwn (model X.prog X.w) X.A X.env xe → PSs (X.tr pn xe) body (tb W))
    (hh : Clz X (h₀ :: hds) W2) : PS X (.Try body (h₀ :: hds) [] [] pos) (fun D σ H => tb (W2 D) D σ H) := by
  constructor
  intro pins s σ H D I h
  have ok := I.ok
  have fr : X.A.frames = some (X.env :: X.outer) := ok.frames.trans (by rw [hs])
  have run := (hb (W2 D) (X.pn ++ pins) (fun e s1 => wpAny (model X.prog X.w) X.A (noteFrame e X.env) (fun _ s2 => wpAny (model X.prog X.w) X.A (setFlight e none) (fun _ s3 => wpAny (model X.prog X.w) X.A (handleBy e X.env (h₀ :: hds)) (SP X pins D) X.xe s3) X.xe s2) X.xe s1) ?_ PassesOwn.looking).run [] s σ H D (I.toTry _) h
  · refine wpAny_Try_except (wpAny_mono run (fun f s1 sp1 => ?_) (fun e s1 he => he))
    cases f with
    | ret u => obtain ⟨v, σ', H', J, r, q⟩ := sp1; exact ⟨v, σ', H', Inv.ofTry J ok, r, q⟩
    | next => obtain ⟨σ', H', J, q⟩ := sp1; exact wpAny_execs_nil ⟨σ', H', Inv.ofTry J ok, q⟩
    | brk => obtain ⟨σ', H', J, q⟩ := sp1; exact ⟨σ', H', Inv.ofTry J ok, q⟩
    | cont => obtain ⟨σ', H', J, q⟩ := sp1; exact ⟨σ', H', Inv.ofTry J ok, q⟩
  · intro u s' xx
    obtain ⟨a, B, t, pins', σ', H', cls, d, rfl, J, nb, up, sky, na, os, ag, w⟩ := xx
    have sk : Sky B (X.env :: X.outer) a (Zc cls d) X.env.locals s'.heap := hs ▸ sky
    exact Sky.land Zc.steady fr hf sk fun h3 fl up3 => hh pins a cls d σ' H' _ D hs hf ok ⟨B, t, Inv.ofTry J ok, nb, up.trans up3, fl, na, os, ag⟩ w
end
end Gx

set_option Elab.async false
set_option linter.all false
set_option maxRecDepth 100000
set_option maxHeartbeats 4000000
/-! texts of any signs; x.replace(c, "") of two written texts -/
namespace Gx
open PySem PySem.Spec PyProof.Rows L2
section
variable {X : Cx} {o a b e : Expr} {rest : List Expr} {to ta tb : TE} {apos cpos pos : Pos} {y z : Str} {j0 j1 : Nat} {c0 c1 : Pos}
/-- a test where a token is out; one behind which a token is out -/
def PTT (X : Cx) (e : Expr) (t : TT) : Prop := ∀ (pins : List (Addr × Obj)) (s : Shared) (σ : L2.St) (H : Hp) (Q : Bool → Hp → Prop), 1 ≤ s.toks → Inv X pins σ H s → t σ H Q →
  wpAny (model X.prog X.w) X.A (isTrue e X.env (eval e X.env)) (TP X pins σ Q) X.xe s
def PT1 (X : Cx) (e : Expr) (t : TT) : Prop := ∀ (pins : List (Addr × Obj)) (s : Shared) (σ : L2.St) (H : Hp) (Q : Bool → Hp → Prop), Inv X pins σ H s → t σ H Q →
  wpAny (model X.prog X.w) X.A (isTrue e X.env (eval e X.env)) (fun v s' => 1 ≤ s'.toks ∧ TP X pins σ Q v s') X.xe s
theorem pet_of {t : TE} (h : PE X e t) : PET X e t := fun pins s σ H Q _ I q => h.run pins s σ H Q I q
def tRepC (y z : Str) (to : TE) : TE := fun σ H Q => to σ H fun x H1 => ∃ u : Str, x = .str u ∧ u.length ≤ 100000 ∧ Q (.str (Txt.replace u y z)) H1
theorem pet_rep (hyz : (y == z) = false) (hz : z.length ≤ 14) (ho : PET X o to)
    (hbase : attributeBase o "replace" X.env (eval o X.env) = eval o X.env := by rfl)
    (hfew : ((backTo cpos (starEach [.Constant (.str y) j0 c0, .Constant (.str z) j1 c1] X.env)).all (fun x => !x.1) && (backToKw cpos (keywordEach [] X.env)).all (fun x => x.1.isSome)
      && decide (([.Constant (.str y) j0 c0, .Constant (.str z) j1 c1] : List Expr).length + ([] : List Keyword).length + (if ([] : List Keyword).isEmpty then 0 else 1) < 30)) = true := by rfl)
    (hline : (apos.endLine == cpos.line) = true := by rfl) :
    PET X (.Call (.Attribute o "replace" apos) [.Constant (.str y) j0 c0, .Constant (.str z) j1 c1] [] cpos) (tRepC y z to) := by
  intro pins s σ H Q h0 I h
  refine wpAny_Call_method_late hbase hfew hline rfl ?_
  refine wpAny_mono (PySem.wpAny_toks (ho pins s σ H _ h0 I h)) (fun v s1 q => ?_) fun _ _ q => q.2
  obtain ⟨hk, x, H1, I1, r1, u, rfl, hu, q1⟩ := q
  obtain ⟨h1, h2⟩ := tyV_is (T := "str") I1 r1 rfl
  refine ⟨"str", "str.replace", PySem.F.plainAttrs_str, PySem.F.slot_str_replace, PySem.F.type_str_replace, h1, h2, ?_⟩
  refine Calls.callWith_builtin (by rfl) (Calls.evalArgs_plain ?_)
  show wpAny _ _ (spliced ((false, eval (.Constant (.str y) j0 c0) X.env) :: backTo cpos (starEach [.Constant (.str z) j1 c1] X.env))) _ _ s1
  refine Calls.spliced_cons (Calls.Constant_str ?_)
  show wpAny _ _ (spliced ((false, eval (.Constant (.str z) j1 c1) X.env) :: backTo cpos (starEach [] X.env))) _ _ _
  refine Calls.spliced_cons (Calls.Constant_str (Calls.spliced_nil ?_))
  obtain ⟨t, rfl⟩ := r1
  have k1 : s1.toks ≠ 0 := by omega
  have k2 : s1.toks + 1 ≠ 0 := by omega
  have k3 : s1.toks ≠ s1.toks + 1 := by omega
  refine SC.replaceW k1 k2 k3 hyz (by omega) hz fun t' n => ?_
  exact ⟨.str (Txt.replace u y z), H1, I1.tok _, ⟨_, rfl⟩, q1⟩
theorem ptt_cmpR {op : CmpOp} {r : R2} (ho : OpR X (compareOp op) r) (ha : PET X a ta) (hb : PE X b tb) (hm : behindInMarks op b = false) : PTT X (.Compare a [op] [b] pos) (tTest (tOp r ta tb)) := by
  intro pins s σ H Q h0 I h
  refine wpAny_isTrue_Compare1 (thn (ha pins s σ H _ h0 I h) fun v s1 ⟨x, H1, I1, r1, q1⟩ => thn (hb.run pins s1 σ H1 _ I1 q1) fun u s2 ⟨w, H2, I2, r2, q2⟩ =>
    thn (ho pins s2 σ H2 x w v u _ I2 r1 r2 q2) fun c s3 q3 => ?_) hm
  obtain ⟨k, H3, I3, r3, d, rfl, q3⟩ := q3
  cases r3
  exact wpAny_truthy_bool ⟨H3, I3, q3⟩
theorem pt1_cmpC {op : CmpOp} {r : R2} (ho : OpR X (compareOp op) r) (ha : PE X a ta) (hm : behindInMarks op (.Constant (.str y) j0 c0) = false) : PT1 X (.Compare a [op] [.Constant (.str y) j0 c0] pos) (tTest (tOp r ta (tC (.str y)))) := by
  intro pins s σ H Q I h
  refine wpAny_isTrue_Compare1 (thn (ha.run pins s σ H _ I h) fun v s1 ⟨x, H1, I1, r1, q1⟩ => Calls.Constant_str ?_) hm
  refine wpAny_mono (PySem.wpAny_toks (ho pins { s1 with toks := s1.toks + 1 } σ H1 x (.str y) v _ _ (I1.tok _) r1 ⟨_, rfl⟩ q1)) (fun c s3 q3 => ?_) fun _ _ q => q.2
  obtain ⟨hk, k, H3, I3, r3, d, rfl, q3⟩ := q3
  have hk : s1.toks + 1 ≤ s3.toks := hk
  cases r3
  exact wpAny_truthy_bool ⟨by omega, H3, I3, q3⟩
theorem pw_orT {tA tB' : TT} (ha : PT1 X a tA) (hb : PTT X b tB') : PW X (.BoolOp .Or [a, b] pos) (tOr tA tB') := by
  refine ⟨fun wh pins s σ H Q I h => ?_⟩
  refine isTrue_or (thn (ha pins s σ H _ I h) fun c s1 ⟨h0, H1, I1, q1⟩ => ?_)
  cases c with
  | true => exact ⟨H1, I1, q1⟩
  | false =>
    refine isTrue_or (thn (hb pins s1 σ H1 Q h0 I1 q1) fun d s2 q2 => ?_)
    cases d with
    | false => exact isTrue_or_nil q2
    | true => exact q2
end
end Gx

set_option linter.all false
set_option maxRecDepth 100000
set_option maxHeartbeats 2000000
/-! Gu: a def that begins with an if whose test strikes signs out of a text. -/
namespace Gx
open PySem PySem.Spec PyProof.Rows L2
section
variable {X : Cx} {a b c e : Expr} {pos : Pos} {st su : List Stmt} {t u : TS} {tc : TT}
theorem ptt_or {tA tB' : TT} (ha : PTT X a tA) (hb : PT X b tB') : PTT X (.BoolOp .Or [a, b] pos) (tOr tA tB') := by
  intro pins s σ H Q h0 I h
  refine isTrue_or (thn (ha pins s σ H _ h0 I h) fun c s1 ⟨H1, I1, q1⟩ => ?_)
  cases c with
  | true => exact ⟨H1, I1, q1⟩
  | false =>
    refine isTrue_or (thn (hb.run pins s1 σ H1 Q I1 q1) fun d s2 q2 => ?_)
    cases d with
    | false => exact isTrue_or_nil q2
    | true => exact q2
theorem pst_ifT (hc : PTT X c tc) (ha : PSs X st t) (hb : PSs X su u) : PST X (.If c st su pos) (tIfS tc t u) := by
  intro pins s σ H D h0 I h
  refine wpAny_If (wpAny_mono (hc pins s σ H _ h0 I h) (fun d s1 q => ?_) fun _ _ z => z)
  obtain ⟨H1, I1, q1⟩ := q
  cases d with
  | true => exact ha.run pins s1 σ H1 D I1 q1
  | false => exact hb.run pins s1 σ H1 D I1 q1
theorem psstNox {st : List Stmt} {t : TS} (h : PSsT X.nox st t) : PSsT X st t := fun pins s σ H D h0 I hw =>
  wpAny_mono (h pins s σ H D h0 (I.wish _) hw) (fun _ _ q => q.unwish) fun _ _ z => False.elim z
end
theorem DfG.okT {P : Program} {w : World} {K : PySem.W.Frag} {mg : Str → Option Value} {base : Heap} {x : Str} {st : Stmt} {N ps : List Str} {k : Nat} {sp : Sp} (D : DfG K mg x st [] []) (S : FnScope N ps (defScope st)) (hnc : ∀ y ∈ (defScope st).names, y.2 ≠ .cell) (hps : 1 ≤ ps.length) (len : ∀ vs H Q E, sp vs H Q E → vs.length = ps.length)
    (hbody : ∀ (f : Addr) (cdv : Value) (A : Around) (outer : List Env) (s : Shared) (H : Hp) (vs : List V) (Q : VK) (E : XK), Room k (A.deeper (envOfC x (defScope st) s.heap.objs.size f cdv)) → sp vs H Q E →
      ∃ t, PSsT (cxOf CX0 P w K mg base N x (defScope st) f cdv A outer s H E).nox (defBody st) t ∧ t { nx := fun _ H' => Q .non H', rt := Q } (start N vs) H) : ClG CX0 P w K mg base (k + 1) x st ps [] [] sp := by
  obtain ⟨f, fd, h1, h2⟩ := D.ex
  obtain ⟨oc, od, dV, kV, doc, pm, an, cdv, ct, osl, rfl, lk, hcd, _, _⟩ := id h2.ex
  refine ⟨f, _, h1, h2, fn_ofT lk hcd S hnc hps len fun A outer s H vs Q E hr h => ?_⟩
  obtain ⟨t, a, b⟩ := hbody f cdv A outer s H vs Q E hr h
  exact ⟨t, psstNox a, b⟩
end Gx

set_option linter.all false
set_option maxRecDepth 100000
set_option maxHeartbeats 2000000
/-! Gv: two promises of one def taken together: one without exceptions, one with. -/
namespace Gx
open PySem PySem.Spec PyProof.Rows L2
def spOr (a b : Sp) : Sp := fun vs H Q E => a vs H Q E ∨ b vs H Q E
section
variable {P : Program} {w : World} {K : PySem.W.Frag} {mg : Str → Option Value} {base : Heap} {CX : CXT} {x : Str} {st : Stmt} {ps : List Str} {dvs : List V} {kws : List (Str × V)} {j k n : Nat} {sp sq : Sp}
theorem fnOr {f : Addr} {fd : FuncData} (F : FnOk P w K mg base CX0 k f fd ps sp) (G : FnOk P w K mg base CX k f fd ps sq) : FnOk P w K mg base CX k f fd ps (spOr sp sq) := by
  refine ⟨fun vs H Q E h => h.elim (F.len _ _ _ _) (G.len _ _ _ _), fun A outer s H args us vs Q E hr e0 hb r h => ?_⟩
  rcases h with h | h
  · refine codeAny_mono (F.run A outer s H args us vs Q E hr e0 hb r h) fun q s' hq => ?_
    cases q with
    | error e => exact False.elim hq
    | ok fl => cases fl <;> exact hq
  · exact G.run A outer s H args us vs Q E hr e0 hb r h
theorem ClG.or (A : ClG CX0 P w K mg base j x st ps dvs kws sp) (B : ClG CX P w K mg base k x st ps dvs kws sq) (hj : j ≤ n) (hk : k ≤ n) : ClG CX P w K mg base n x st ps dvs kws (spOr sp sq) := by
  obtain ⟨f, fd, h1, h2, h3⟩ := A.ex
  obtain ⟨g, gd, k1, k2, k3⟩ := B.ex
  rw [h1] at k1
  cases k1
  obtain ⟨_, _, _, _, _, _, _, _, _, _, e1, l1, _⟩ := id h2.ex
  obtain ⟨_, _, _, _, _, _, _, _, _, _, e2, l2, _⟩ := id k2.ex
  have : fd = gd := by
    rw [l1] at l2
    injection l2 with l2
    injection l2 with _ _ l2
    injection l2
  subst this
  exact ⟨f, fd, h1, h2, fnOr (h3.mono hj) (k3.mono hk)⟩
end
end Gx

set_option Elab.async false
set_option linter.all false
set_option maxRecDepth 100000
set_option maxHeartbeats 4000000
/-! own classes: objects by their fields -/
namespace Gx
open PySem PySem.Spec PyProof.Rows L2
/-- an object of an own class, with its fields -/
class InC (C : outParam Addr) (fs : outParam (List (Str × V))) (H : Hp) (a : Addr) : Prop where
  ex : ∃ dx, H a = some (.ins C dx fs)
section
variable {K : PySem.W.Frag} {σ : L2.St} {H H1 : Hp} {Q : VK} {C a : Addr} {m f : Str} {sp : Sp} {dvs : List V} {E : XK} {ta tv : TE} {t : TA} {x y v : V} {fs : List (Str × V)} {D : Ends} {cs : List Addr} {mg : Str → Option Value}
instance inAt {dx : Addr} [h : At H a (.ins C dx fs)] : InC C fs H a := ⟨⟨dx, h.eq⟩⟩
instance (priority := low) inStep [r : Chg cs H1 H] [n : NotIn a cs] [h : InC C fs H1 a] : InC C fs H a := ⟨by
  obtain ⟨dx, h1⟩ := h.ex
  exact ⟨dx, r.keep a _ n.out h1⟩⟩
instance inLive [h : InC C fs H a] : Live H a := ⟨by
  obtain ⟨dx, h1⟩ := h.ex
  exact ⟨_, h1⟩⟩
theorem g_rmethI [h : InC C fs H1 a] (hm : fs.lookup m = none) (q : t σ H1 fun vs H2 => sp (.ref a :: (vs ++ dvs)) H2 Q E) : rMeth C m sp dvs E t σ (.ref a) H1 Q := by
  obtain ⟨dx, h1⟩ := h.ex
  exact ⟨a, dx, fs, rfl, h1, hm, q⟩
theorem g_fldI [h : InC C fs H1 a] (c : Cls K C) (n : NoAttr K C f) (e : fs.lookup f = some v) (q : Q v H1) : rFld K f (.ref a) H1 Q := by
  obtain ⟨dx, h1⟩ := h.ex
  exact ⟨a, C, dx, fs, v, rfl, h1, c, n, e, q⟩
theorem chg_ins {dx : Addr} {fs gs : List (Str × V)} (h : H a = some (.ins C dx fs)) (ni : ∀ t, fs ≠ [(("_budgets" : Str), V.ref t)]) : Chg [a] H (upd H a (.ins C dx gs)) :=
  ⟨fun b o hb e => by rw [upd_ne (by simpa using hb)]; exact e, fun b e => by
    by_cases z : b = a
    · rw [z, upd_same] at e; cases e
    · rw [upd_ne z] at e; exact e, fun b o i e => by
    by_cases z : b = a
    · exfalso
      rw [z, h] at e
      cases e
      rcases i with ⟨_, i⟩ | ⟨_, i⟩ | ⟨_, _, t, i⟩
      · cases i
      · cases i
      · injection i with i1 i2 i3
        exact ni t i3
    · rw [upd_ne z]; exact e⟩
/-- self.f = v -/
theorem g_fldSI {dx : Addr} [h : At H a (.ins C dx fs)] (c : Cls K C) (n : NoAttr K C f) (hl : fs.length < 1000) (ni : ∀ t, fs ≠ [(("_budgets" : Str), V.ref t)]) (q : ∀ H2, ExB a H H2 → At H2 a (.ins C dx (putF f y fs)) → D.nx σ H2) : rFldS K f D σ y (.ref a) H :=
  ⟨a, C, dx, fs, rfl, h.eq, c, n, hl, q _ (chg_ins h.eq ni) ⟨upd_same⟩⟩
/-! ### an object made -/
def rMkC (C : Addr) (sp : Sp) (dvs : List V) (E : XK) (vs : List V) (H1 : Hp) (Q : VK) : Prop := ∀ x dx, H1 x = none → H1 dx = none → dx ≠ x → sp (.ref x :: (vs ++ dvs)) (upd (upd H1 dx (.own x)) x (.ins C dx [])) (fun v H2 => v = .non ∧ Q (.ref x) H2) E
instance : Step (tMake C sp dvs E t σ H Q) (t σ H fun vs H1 => rMkC C sp dvs E vs H1 Q) := ⟨fun q => q⟩
theorem g_mkC {vs : List V} (q : ∀ x dx H', Nw H1 x → Ex H1 H' → At H' x (.ins C dx []) → sp (.ref x :: (vs ++ dvs)) H' (fun v H2 => v = .non ∧ Q (.ref x) H2) E) : rMkC C sp dvs E vs H1 Q := fun x dx h1 h2 h3 => by
  refine q x dx _ ⟨h1⟩ ?_ ⟨upd_same⟩
  have e1 : Ex H1 (upd H1 dx (.own x)) := Ex.mk h2
  have h4 : upd H1 dx (.own x) x = none := by rw [upd_ne (Ne.symm h3)]; exact h1
  exact e1.trans (Ex.mk h4)
instance {P : Prop} : Step (V.non = V.non ∧ P) P := ⟨fun q => ⟨rfl, q⟩⟩
end
structure DfC (K : PySem.W.Frag) (C : Addr) (qual : Str) (st : Stmt) (dvs : List V) (kws : List (Str × V)) : Prop where
  ex : ∃ (f : Addr) (fd : FuncData), Mk K C f ∧ FunD K "__init__" qual (defArgs st) (defBody st) (defScope st) dvs kws f fd
structure ClC (CX : CXT) (P : Program) (w : World) (K : PySem.W.Frag) (mg : Str → Option Value) (base : Heap) (k : Nat) (C : Addr) (qual : Str) (st : Stmt) (ps : List Str) (dvs : List V) (kws : List (Str × V)) (sp : Sp) : Prop where
  ex : ∃ (f : Addr) (fd : FuncData), Mk K C f ∧ FunD K "__init__" qual (defArgs st) (defBody st) (defScope st) dvs kws f fd ∧ FnOk P w K mg base CX k f fd ps sp
section
variable {P : Program} {w : World} {K : PySem.W.Frag} {mg : Str → Option Value} {base : Heap}
theorem DfC.ok {CX : CXT} {C : Addr} {qual : Str} {st : Stmt} {N ps : List Str} {dvs : List V} {kws : List (Str × V)} {k : Nat} {sp : Sp} (D : DfC K C qual st dvs kws) (S : FnScope N ps (defScope st)) (len : ∀ vs H Q E, sp vs H Q E → vs.length = ps.length)
    (hbody : ∀ (f : Addr) (cdv : Value) (A : Around) (outer : List Env) (s : Shared) (H : Hp) (vs : List V) (Q : VK) (E : XK), Room k (A.deeper (envOfC qual (defScope st) s.heap.objs.size f cdv)) → sp vs H Q E →
      ∃ t, PSs (cxOf CX P w K mg base N qual (defScope st) f cdv A outer s H E) (defBody st) t ∧ t { nx := fun _ H' => Q .non H', rt := Q } (start N vs) H) : ClC CX P w K mg base (k + 1) C qual st ps dvs kws sp := by
  obtain ⟨f, fd, h1, h2⟩ := D.ex
  exact ⟨f, fd, h1, h2, h2.ok S len fun cdv A outer s H vs Q E hr h => hbody f cdv A outer s H vs Q E hr h⟩
theorem DfC.okP {C : Addr} {qual : Str} {st : Stmt} {N ps : List Str} {dvs : List V} {kws : List (Str × V)} {k : Nat} {sp : Sp} (D : DfC K C qual st dvs kws) (S : FnScope N ps (defScope st)) (len : ∀ vs H Q E, sp vs H Q E → vs.length = ps.length)
    (hbody : ∀ (f : Addr) (cdv : Value) (A : Around) (outer : List Env) (s : Shared) (H : Hp) (vs : List V) (Q : VK) (E : XK), Room k (A.deeper (envOfC qual (defScope st) s.heap.objs.size f cdv)) → sp vs H Q E →
      ∃ t, PSs (cxOf CX0 P w K mg base N qual (defScope st) f cdv A outer s H E).nox (defBody st) t ∧ t { nx := fun _ H' => Q .non H', rt := Q } (start N vs) H) : ClC CX0 P w K mg base (k + 1) C qual st ps dvs kws sp :=
  D.ok S len fun f cdv A outer s H vs Q E hr h => by
    obtain ⟨t, a, b⟩ := hbody f cdv A outer s H vs Q E hr h
    exact ⟨t, a.nox, b⟩
theorem dfc_mk {C : Addr} {qual : Str} {st : Stmt} {f : Addr} {oc dV kV : Value} {od an : Option Addr} {osl : Array (Option Value)} {doc pm cdv ct : Value} {dvs : List V} {kws : List (Str × V)}
    (mk : PySem.W.makesIn K C = true) (a : PySem.W.findIn K (.ref C) "__init__" = some (some (.ref f))) (b : PySem.W.isFn K (.ref f) = true) (k : PySem.W.keepIn K (.ref C) = true) (k2 : PySem.W.keepIn K (.ref f) = true) (l : K.lookup f = some ⟨oc, od, .func (PySem.W.fnOf "__init__" qual (defArgs st) (defBody st) (defScope st) dV kV doc pm an cdv ct), osl⟩)
    (c : PySem.W.codeIn K cdv qual = true) (d : DflV K dV dvs) (q : KwdV K kV kws) : DfC K C qual st dvs kws :=
  ⟨f, _, ⟨mk, a, b, k⟩, ⟨⟨oc, od, dV, kV, doc, pm, an, cdv, ct, osl, rfl, l, c, d, q⟩, k2⟩⟩
/-- what is known of an own class -/
structure ClsF (K : PySem.W.Frag) (mg : Str → Option Value) (C : Addr) (name : Str) (fields : List Str) : Prop where
  g : mg name = some (.ref C)
  c : Cls K C
  nf : ∀ f ∈ fields, NoAttr K C f
  ty : PySem.W.findIn K (.ref C) "__class__" = some (some (.builtin "object.__class__")) ∧ PySem.W.specialIn K (.builtin "object.__class__") "__get__" = some (some (.builtin "getset_descriptor.__get__")) ∧ PySem.W.takesIn K (.builtin "object.__class__") = some true ∧ PySem.W.mroIn K C (.type "object") = some true
theorem clsf_mk {h : Heap} {C : Addr} {name : Str} {fields : List Str} (X : K.In h) (G : h.Ns mainGlobals mg) (a : PySem.W.nsIn K mainGlobals name = some (some (.ref C))) (pg : PySem.W.plainGet K C Str.empty = true) (hd : PySem.W.hasDictIn K C = true) (po : PySem.W.plainOver K C = true)
    (sa : PySem.W.findIn K (.ref C) "__setattr__" = some (some (.builtin "object.__setattr__"))) (nf : ∀ f ∈ fields, PySem.W.findIn K (.ref C) f = some none)
    (t1 : PySem.W.findIn K (.ref C) "__class__" = some (some (.builtin "object.__class__"))) (t2 : PySem.W.specialIn K (.builtin "object.__class__") "__get__" = some (some (.builtin "getset_descriptor.__get__"))) (t3 : PySem.W.takesIn K (.builtin "object.__class__") = some true) (t4 : PySem.W.mroIn K C (.type "object") = some true) : ClsF K mg C name fields :=
  ⟨PySem.W.mg_of X G a, ⟨pg, hd, po, sa⟩, nf, t1, t2, t3, t4⟩
end
section
variable {X : Cx} {CX : CXT} {k : Nat} {C : Addr} {qual : Str} {st : Stmt} {ps : List Str} {sp : Sp} {E : XK} {x : Str} {e : Expr} {es : List Expr} {t : TA} {p pos : Pos}
/-- C(e, ..) -/
theorem pe_mk (M : ClC CX X.prog X.w X.K X.mg X.base k C qual st ps [] [] sp) (hr : Room (k + 1) X.A) (hg : Gl X x) (hm : X.mg x = some (.ref C)) (hx : Passes CX X E)
    (h : ∀ (kV doc pm : Value) (an : Option Addr) (cdv ct : Value) (us : List Value), us.length = ps.length → bindArgs (PySem.W.fnOf "__init__" qual (defArgs st) (defBody st) (defScope st) .none kV doc pm an cdv ct) ⟨us, []⟩ = pure (ps.zip us))
    (ha : PA X (e :: es) t) (hdb : (x == ("__debug__" : Str)) = false := by decide) (he : starEach (e :: es) X.env = (false, eval e X.env) :: starEach es X.env := by rfl) (hpl : (backTo pos (starEach es X.env)).any (·.1) = false := by rfl) :
    PE X (.Call (.Name x p) (e :: es) [] pos) (tMake C sp [] E t) := by
  obtain ⟨f, fd, h1, h2, h4⟩ := M.ex
  exact pe_make h1 h4 hr hg hm (h2.bindsN h) .nil hx ha hdb he hpl
end
/-- isinstance(a, D) of an object of an own class -/
theorem g_isC {K : PySem.W.Frag} {mg : Str → Option Value} {C D a : Addr} {fs : List (Str × V)} {H : Hp} {Q : VK} {name : Str} {fields : List Str} {b : Bool} [h : InC C fs H a] (R : ClsF K mg C name fields) (hk : PySem.W.kitOne K (.ref C) (.ref D) = some b) (q : Q (.bl b) H) : rIsi K [.ref a, .ref D] H Q := by
  obtain ⟨dx, h1⟩ := h.ex
  exact g_isi (.own D) (.base (.ins h1 R.c R.ty.1 R.ty.2.1 R.ty.2.2.1 R.ty.2.2.2)) hk q
end Gx

set_option Elab.async false
set_option linter.all false
set_option maxRecDepth 100000
set_option maxHeartbeats 4000000
/-! Gy: either reading; what is never reached; f-strings; classes without an __init__ -/
namespace Gx
open PySem PySem.Spec PyProof.Rows L2
section
variable {X : Cx} {σ : L2.St} {H H1 : Hp} {Q : VK} {te : TE} {ts : List TE}
/-- either of two readings -/
def tEi (t1 t2 : TE) : TE := fun σ H Q => t1 σ H Q ∨ t2 σ H Q
theorem pe_ei {e : Expr} {t1 t2 : TE} (h1 : PE X e t1) (h2 : PE X e t2) : PE X e (tEi t1 t2) := ⟨fun pins s σ H Q I h => h.elim (h1.run pins s σ H Q I) (h2.run pins s σ H Q I)⟩
theorem ei_l {t1 t2 : TE} (h : t1 σ H Q) : tEi t1 t2 σ H Q := .inl h
theorem ei_r {t1 t2 : TE} (h : t2 σ H Q) : tEi t1 t2 σ H Q := .inr h
/-- what is never reached -/
def spNo : L2.Sp := fun _ _ _ _ => False
def tDead : L2.TS := fun _ _ _ => False
theorem pss_dead {ss : List Stmt} : PSs X ss tDead := ⟨fun _ _ _ _ _ _ h => h.elim⟩
/-! f-strings -/
def rFmt (x : V) (H : Hp) (Q : VK) : Prop := (∃ y : Str, x = .str y ∧ y.length ≤ sizeLine ∧ Q (.str y) H) ∨ ∃ i : Int, x = .int i ∧ i.natAbs.log2 < 1920 ∧ Q (.str (toString i)) H
def rJn (ts : List TE) (acc : Str) (σ : L2.St) (x : V) (H : Hp) (Q : Str → Hp → Prop) : Prop := ∃ y : Str, x = .str y ∧ (acc ++ y).length ≤ sizeLine ∧ tJs ts (acc ++ y) σ H Q
def tFs (ts : List TE) : TE := fun σ H Q => tJs ts Str.empty σ H fun out H1 => Q (.str out) H1
instance : Step (tFmt te σ H Q) (te σ H fun x H1 => rFmt x H1 Q) := ⟨fun q => q⟩
instance {acc : Str} {R : Str → Hp → Prop} : Step (tJs (te :: ts) acc σ H R) (te σ H fun x H1 => rJn ts acc σ x H1 R) := ⟨fun q => q⟩
instance {acc : Str} {R : Str → Hp → Prop} : Step (tJs [] acc σ H R) (R acc H) := ⟨fun q => q⟩
instance : Step (tFs ts σ H Q) (tJs ts Str.empty σ H fun out H1 => Q (.str out) H1) := ⟨fun q => q⟩
theorem pe_fs {v1 v2 : Expr} {rest : List Expr} {pos : Pos} (h : PJ X (v1 :: v2 :: rest) ts) : PE X (.JoinedStr (v1 :: v2 :: rest) pos) (tFs ts) := pe_joined h
theorem g_fmtI {i : Int} (h : i.natAbs.log2 < 1920) (q : Q (.str (toString i)) H) : rFmt (.int i) H Q := .inr ⟨i, rfl, h, q⟩
theorem g_jn {acc y : Str} {R : Str → Hp → Prop} (h : (acc ++ y).length ≤ sizeLine) (q : tJs ts (acc ++ y) σ H R) : rJn ts acc σ (.str y) H R := ⟨y, rfl, h, q⟩
/-! C() where there is no __init__ but object's -/
structure MkZ (K : PySem.W.Frag) (C : Addr) : Prop where
  makes : PySem.W.makesIn K C = true
  init : PySem.W.findIn K (.ref C) "__init__" = some (some (.builtin "object.__init__"))
  kp : PySem.W.keepIn K (.ref C) = true
def rMkZ (C : Addr) (H : Hp) (Q : VK) : Prop := ∀ x dx, H x = none → H dx = none → dx ≠ x → Q (.ref x) (upd (upd H dx (.own x)) x (.ins C dx []))
def tMakeZ (C : Addr) : TE := fun _ H Q => rMkZ C H Q
instance {C : Addr} : Step (tMakeZ C σ H Q) (rMkZ C H Q) := ⟨fun q => q⟩
theorem g_mkZ {C : Addr} (q : ∀ x dx H', Nw H x → Ex H H' → At H' x (.ins C dx []) → Q (.ref x) H') : rMkZ C H Q := fun x dx h1 h2 h3 => by
  refine q x dx _ ⟨h1⟩ ?_ ⟨upd_same⟩
  have e1 : Ex H (upd H dx (.own x)) := Ex.mk h2
  have h4 : upd H dx (.own x) x = none := by rw [upd_ne (Ne.symm h3)]; exact h1
  exact e1.trans (Ex.mk h4)
theorem run_makeZ {pins : List (Addr × Obj)} {s : Shared} {C : Addr} (M : MkZ X.K C) (I : Inv X pins σ H s) (h : rMkZ C H Q) : wpAny (model X.prog X.w) X.A (call (.ref C) []) (EP X pins σ Q) X.xe s := by
  have hq := h (s.heap.objs.size + 1) s.heap.objs.size (I.hok.fresh (Nat.le_succ _)) (I.hok.fresh (Nat.le_refl _)) (Nat.ne_of_lt (Nat.lt_succ_self _))
  have I2 := Inv.made (C := C) I
  refine wpAny_call (make_map0 I.kIn M.makes M.init (fun self => PySem.W.Looks.of_pure (PySem.W.oi_bind self)) ?_)
  have Y := PySem.W.makes_of (M := model X.prog X.w) I.kIn M.makes
  have e2 : ((s.heap.push PySem.W.emptyDict).push (PySem.W.instObj C s.heap.objs.size)).get? (s.heap.objs.size + 1) = some (PySem.W.instObj C s.heap.objs.size) := by
    have := Heap.get?_push_size (s.heap.push PySem.W.emptyDict) (o := PySem.W.instObj C s.heap.objs.size) rfl
    rwa [Heap.size_push] at this
  have t1 : PySem.W.Looks (model X.prog X.w) ((s.heap.push PySem.W.emptyDict).push (PySem.W.instObj C s.heap.objs.size)) (typeOf (.ref (s.heap.objs.size + 1))) (.ref C) := (PySem.W.Looks.ld e2).andThen .now
  have t2 : PySem.W.Looks (model X.prog X.w) ((s.heap.push PySem.W.emptyDict).push (PySem.W.instObj C s.heap.objs.size)) (isInstance (.ref (s.heap.objs.size + 1)) (.type "object")) true := t1.andThen (Y.top.keeps fun b o e => Heap.get?_push_of_some _ (Heap.get?_push_of_some _ e))
  refine codeAny_call_builtin PySem.W.oi_plain PySem.W.entry_oi (@PySem.W.check_slot (model X.prog X.w) _ _ _ "object.__init__" "object" "__init__" (.ref (s.heap.objs.size + 1)) [] [] _ PySem.W.oi_kind PySem.W.oi_split t2 (PySem.W.oi_args (.ref (s.heap.objs.size + 1))) ?_)
  rw [PySem.W.oi_run]
  exact wpAny_pure (And.intro rfl ⟨V.ref (s.heap.objs.size + 1), _, I2, rfl, hq⟩)
theorem pe_mkZ {C : Addr} {x : Str} {p pos : Pos} (M : MkZ X.K C) (hg : Gl X x) (hm : X.mg x = some (.ref C)) (hdb : (x == ("__debug__" : Str)) = false := by decide) : PE X (.Call (.Name x p) [] [] pos) (tMakeZ C) := by
  refine ⟨fun pins s σ H Q I h => ?_⟩
  refine wpAny_Call_Name_kw (ld_glob I hg hm ?_ hdb)
  exact PySem.W.callWith_K0 I.kIn M.kp (run_makeZ M I h)
end
section
variable {P : Program} {w : World} {K : PySem.W.Frag} {mg : Str → Option Value} {base : Heap} {CX : CXT} {x : Str} {st : Stmt} {ps : List Str} {dvs : List V} {kws : List (Str × V)} {j k n : Nat} {sp sq : Sp}
theorem fnOrX {f : Addr} {fd : FuncData} (F : FnOk P w K mg base CX k f fd ps sp) (G : FnOk P w K mg base CX k f fd ps sq) : FnOk P w K mg base CX k f fd ps (spOr sp sq) :=
  ⟨fun vs H Q E h => h.elim (F.len _ _ _ _) (G.len _ _ _ _), fun A outer s H args us vs Q E hr e0 hb r h => h.elim (F.run A outer s H args us vs Q E hr e0 hb r) (G.run A outer s H args us vs Q E hr e0 hb r)⟩
theorem ClG.orX (A : ClG CX P w K mg base j x st ps dvs kws sp) (B : ClG CX P w K mg base k x st ps dvs kws sq) (hj : j ≤ n) (hk : k ≤ n) : ClG CX P w K mg base n x st ps dvs kws (spOr sp sq) := by
  obtain ⟨f, fd, h1, h2, h3⟩ := A.ex
  obtain ⟨g, gd, k1, k2, k3⟩ := B.ex
  rw [h1] at k1
  cases k1
  obtain ⟨_, _, _, _, _, _, _, _, _, _, e1, l1, _⟩ := id h2.ex
  obtain ⟨_, _, _, _, _, _, _, _, _, _, e2, l2, _⟩ := id k2.ex
  have : fd = gd := by
    rw [l1] at l2
    injection l2 with l2
    injection l2 with _ _ l2
    injection l2
  subst this
  exact ⟨f, fd, h1, h2, fnOrX (h3.mono hj) (k3.mono hk)⟩
end
end Gx


set_option Elab.async false
set_option linter.all false
set_option maxRecDepth 100000
set_option maxHeartbeats 4000000
set_option pp.deepTerms false
set_option pp.maxSteps 300
namespace Toy
open PySem PySem.Spec PyProof.Rows L2 Gx
open L2H (RoomH roomH_mark cxH)
def top (i : Nat) : Stmt := PySem.Challenge.pw_carrylog_k11_word_refusals.main.body.getD i (.Pass ⟨0, 0, 0, 0⟩)
section
variable {P : Program} {w : World} {K : PySem.W.Frag} {mg : Str → Option Value} {base : Heap}

set_option synthInstance.maxHeartbeats 400000
set_option synthInstance.maxSize 4000
local macro_rules | `(tactic| walk_at "szt") => `(tactic| first | assumption | exact Nat.le_of_ble_eq_true rfl | omega | (simp only [List.length_append, List.length_cons, List.length_nil, List.length_map, List.length_replicate, List.length_take, List.length_drop]; omega))
local macro_rules | `(tactic| walk_at "call") => `(tactic| fail)
local macro_rules | `(tactic| walk_at "go1") => `(tactic| first
  | refine Gx.Step.run ?_
  | ((with_reducible show Gx.rAdd _ _ _ _ _); first
    | with_reducible refine Gx.g_addT (by walk_at "szt") ?_
    | (with_reducible refine Gx.g_cat (by walk_at "szt") ?_; intro p_ H_ np_ e_ hp_))
  | ((with_reducible show Gx.rMul _ _ _ _ _); first
    | with_reducible refine Gx.g_mulT (by omega) ?_
    | with_reducible refine Gx.g_mulR (by omega) ?_
    | with_reducible refine Gx.g_mulL (by omega) ?_
    | with_reducible refine Gx.g_mulS (by omega) ?_
    | with_reducible refine Gx.g_mulX (Gx.mulx128 (by omega) (by omega)) ?_)
  | ((with_reducible show Gx.rMod _ _ _ _); with_reducible refine Gx.g_mod (by omega) ?_)
  | ((with_reducible show Gx.rDiv _ _ _ _); with_reducible refine Gx.g_div (Gx.cdivW (by omega) (by omega)) ?_)
  | ((with_reducible show L2.rIx _ _ _ _ _); first
    | with_reducible refine Gx.g_ixL (by with_unfolding_all rfl) ?_
    | with_reducible refine Gx.g_ixIN (by omega) ?_
    | with_reducible refine Gx.g_ixI (by omega) (by omega) ?_
    | with_reducible refine Gx.g_ixTx (by walk_at "szt") (by with_unfolding_all rfl) ?_
    | with_reducible refine Gx.g_ixT (by with_unfolding_all rfl) ?_)
  | ((with_reducible show Gx.rLen _ _ _ _); first
    | with_reducible refine Gx.g_lenT (by walk_at "szt") ?_
    | with_reducible refine Gx.g_len (Gx.len_s (by omega)) ?_)
  | ((with_reducible show Gx.rLstripC _ _ _ _); with_reducible refine Gx.g_lstrip0 (by walk_at "szt") ?_)
  | ((with_reducible show Gx.rStripC _ _ _ _); with_reducible refine Gx.g_strip01 (by walk_at "szt") ?_)
  | ((with_reducible show Gx.rNewL _ _ _); (with_reducible refine Gx.g_newL (by walk_at "szt") ?_; intro p_ H_ np_ e_ hp_))
  | ((with_reducible show Gx.rNewT _ _ _); (with_reducible refine Gx.g_newT (by walk_at "szt") ?_; intro p_ H_ np_ e_ hp_))
  | ((with_reducible show Gx.rSlX _ _ _ _ _ _); first
    | with_reducible refine Gx.g_slT (by walk_at "szt") ?_
    | (with_reducible refine Gx.g_slL ?_; intro p_ H_ np_ e_ hp_))
  | ((with_reducible show Gx.rListOf _ _ _ _); (with_reducible refine Gx.g_listOf ?_; intro p_ H_ np_ e_ hp_))
  | ((with_reducible show Gx.rRevL _ _ _ _); (with_reducible refine Gx.g_revL ?_; intro p_ H_ np_ e_ hp_))
  | ((with_reducible show L2.rSetL _ _ _ _ _); (with_reducible refine Gx.g_setI (by omega) (by omega) ?_; intro H_ e_ hp_))
  | ((with_reducible show L2.rSetL _ _ _ _ _); (with_reducible refine Gx.g_set (by with_unfolding_all rfl) ?_; intro H_ e_ hp_; try simp only [Int.reduceToNat, List.set_cons_zero, List.set_cons_succ] at hp_))
  | ((with_reducible show L2.rAppend _ _ _ _); (with_reducible refine Gx.g_app (by walk_at "szt") ?_; intro H_ e_ hp_))
  | ((with_reducible show Gx.rPow _ _ _ _); with_reducible refine Gx.g_pow (Gx.cpow_ok (by decide) (by decide) (by decide)) (by simp only [Int.reduceToNat, Int.reducePow]; exact rfl) ?_)
  | ((with_reducible show Gx.rApp _ _ _ _); (with_reducible refine Gx.g_rapp (by walk_at "szt") ?_; intro H_ e_ hp_))
  | ((with_reducible show L2.rSum _ _ _ _); (with_reducible refine Gx.g_sum ?_))
  | ((with_reducible show Gx.rStr _ _ _); (with_reducible refine Gx.g_str (by omega) ?_; intro hz_))
  | ((with_reducible show (L2.wipe _ _ = _ ∧ _)); refine ⟨rfl, ?_⟩)
  | ((with_reducible show L2.rAll _ _ _ _); first | refine Gx.g_allT ?_ | refine Gx.g_all ?_)
  | ((with_reducible show (List.length _ = _ ∧ List.length _ = _ ∧ _)); refine ⟨rfl, rfl, ?_⟩)
  | ((with_reducible show L2.gTup _ _ _ _ _ _ _); first
    | (refine Gx.g_pair (by assumption) ?_; intro T_ np_ e_ hp_)
    | refine Gx.g_gtup (by rfl) ?_)
  | walk_at "call")
local macro_rules | `(tactic| walk_at "go") => `(tactic| repeat walk_at "go1")
local macro_rules | `(tactic| walk_at "if1") => `(tactic| first
  | with_reducible refine Gx.g_ite (fun hI => ?_) (fun hI => ?_)
  | with_reducible refine Gx.g_iteN (fun hI => ?_) (fun hI => ?_)
  | with_reducible refine Gx.g_itB (fun hI => ?_) (fun hI => ?_)
  | with_reducible refine Gx.g_itNB (fun hI => ?_) (fun hI => ?_))
local macro_rules | `(tactic| walk_at "dead") => `(tactic| first | (exfalso; omega) | contradiction)
local macro_rules | `(tactic| walk_at "gos") => `(tactic| (walk_at "go"; first | (walk_at "if1" <;> first | walk_at "dead" | walk_at "gos") | skip))


abbrev s_InvalidInput___init__ : Stmt := (inClass (top 2) 0)
abbrev s_NoPlace___init__ : Stmt := (inClass (top 3) 0)
structure EcF (P : Program) (K : PySem.W.Frag) (mg : Str → Option Value) (c_StoreError c_InvalidInput c_NoPlace : Addr) : Prop where
  g_StoreError : mg "StoreError" = some (.ref c_StoreError)
  g_InvalidInput : mg "InvalidInput" = some (.ref c_InvalidInput)
  g_NoPlace : mg "NoPlace" = some (.ref c_NoPlace)
  d_InvalidInput : ExD P K mg "InvalidInput" "InvalidInput.__init__" s_InvalidInput___init__ ["self", "field"] c_InvalidInput
  xf_InvalidInput : XfC K c_InvalidInput
  xc_InvalidInput : ExcC K c_InvalidInput
  em_InvalidInput_StoreError : PySem.W.exmOne K (.ref c_InvalidInput) (.ref c_StoreError) = some true
  kt_InvalidInput_StoreError : PySem.W.kitOne K (.ref c_InvalidInput) (.ref c_StoreError) = some true
  em_InvalidInput_InvalidInput : PySem.W.exmOne K (.ref c_InvalidInput) (.ref c_InvalidInput) = some true
  kt_InvalidInput_InvalidInput : PySem.W.kitOne K (.ref c_InvalidInput) (.ref c_InvalidInput) = some true
  em_InvalidInput_NoPlace : PySem.W.exmOne K (.ref c_InvalidInput) (.ref c_NoPlace) = some false
  kt_InvalidInput_NoPlace : PySem.W.kitOne K (.ref c_InvalidInput) (.ref c_NoPlace) = some false
  em_InvalidInput_ValueError : PySem.W.exmOne K (.ref c_InvalidInput) (.type "ValueError") = some true
  kt_InvalidInput_ValueError : PySem.W.kitOne K (.ref c_InvalidInput) (.type "ValueError") = some true
  ns_InvalidInput : PySem.W.subIn K (.ref c_InvalidInput) (.type "StopIteration") = some false
  d_NoPlace : ExD P K mg "NoPlace" "NoPlace.__init__" s_NoPlace___init__ ["self", "length"] c_NoPlace
  xf_NoPlace : XfC K c_NoPlace
  xc_NoPlace : ExcC K c_NoPlace
  em_NoPlace_StoreError : PySem.W.exmOne K (.ref c_NoPlace) (.ref c_StoreError) = some true
  kt_NoPlace_StoreError : PySem.W.kitOne K (.ref c_NoPlace) (.ref c_StoreError) = some true
  em_NoPlace_InvalidInput : PySem.W.exmOne K (.ref c_NoPlace) (.ref c_InvalidInput) = some false
  kt_NoPlace_InvalidInput : PySem.W.kitOne K (.ref c_NoPlace) (.ref c_InvalidInput) = some false
  em_NoPlace_NoPlace : PySem.W.exmOne K (.ref c_NoPlace) (.ref c_NoPlace) = some true
  kt_NoPlace_NoPlace : PySem.W.kitOne K (.ref c_NoPlace) (.ref c_NoPlace) = some true
  em_NoPlace_ValueError : PySem.W.exmOne K (.ref c_NoPlace) (.type "ValueError") = some true
  kt_NoPlace_ValueError : PySem.W.kitOne K (.ref c_NoPlace) (.type "ValueError") = some true
  ns_NoPlace : PySem.W.subIn K (.ref c_NoPlace) (.type "StopIteration") = some false
variable {c_StoreError c_InvalidInput c_NoPlace : Addr}
local macro_rules | `(tactic| walk_at "exm") => `(tactic| first | exact EcF.em_InvalidInput_StoreError (by assumption) | exact EcF.em_InvalidInput_InvalidInput (by assumption) | exact EcF.em_InvalidInput_NoPlace (by assumption) | exact EcF.em_InvalidInput_ValueError (by assumption) | exact EcF.em_NoPlace_StoreError (by assumption) | exact EcF.em_NoPlace_InvalidInput (by assumption) | exact EcF.em_NoPlace_NoPlace (by assumption) | exact EcF.em_NoPlace_ValueError (by assumption))
local macro_rules | `(tactic| walk_at "kit") => `(tactic| first | exact EcF.kt_InvalidInput_StoreError (by assumption) | exact EcF.kt_InvalidInput_InvalidInput (by assumption) | exact EcF.kt_InvalidInput_NoPlace (by assumption) | exact EcF.kt_InvalidInput_ValueError (by assumption) | exact EcF.kt_NoPlace_StoreError (by assumption) | exact EcF.kt_NoPlace_InvalidInput (by assumption) | exact EcF.kt_NoPlace_NoPlace (by assumption) | exact EcF.kt_NoPlace_ValueError (by assumption))
local macro_rules | `(tactic| walk_at "xcc") => `(tactic| first | exact EcF.xc_InvalidInput (by assumption) | exact EcF.xc_NoPlace (by assumption))
local macro_rules | `(tactic| walk_at "xfc") => `(tactic| first | exact EcF.xf_InvalidInput (by assumption) | exact EcF.xf_NoPlace (by assumption))
local macro_rules | `(tactic| walk_at "xfd") => `(tactic| first | exact (EcF.d_InvalidInput (by assumption)).fld _ rfl | exact (EcF.d_NoPlace (by assumption)).fld _ rfl)
theorem ns_InvalidInput___init__ : NdefX.NScope ["self", "field", "__class__"] ["self", "field"] ["__class__"] (defScope s_InvalidInput___init__) := NdefX.nscope_by (by decide +kernel)
theorem ex_InvalidInput {C : Addr} (D : ExD P K mg "InvalidInput" "InvalidInput.__init__" s_InvalidInput___init__ ["self", "field"] C) : ExK P w K mg base 1 "InvalidInput" C "field" := by
  obtain ⟨f, fd, i1, i2, F⟩ := D.ini
  have hb : ∀ (c cc : Addr) (doc pm ct : Value) (us : List Value), us.length = ["self", "field"].length → bindArgs (PySem.W.fnX "__init__" "InvalidInput.__init__" (defArgs s_InvalidInput___init__) (defBody s_InvalidInput___init__) (defScope s_InvalidInput___init__) [("__class__", cc)] .none .none doc pm none (.ref c) ct) ⟨us, []⟩ = pure ((["self", "field"] : List Str).zip us) := fun c cc doc pm ct us hl => match us, hl with | [_, _], _ => rfl
  refine ⟨D.mgC, D.sup.oex, f, fd, i1, i2, sup_ok (k := 0) (sp := spEx1 C "field") F ns_InvalidInput___init__ rfl rfl rfl rfl rfl hb (fun _ _ _ _ => rfl) (fun _ _ _ _ => rfl) (fun _ _ _ _ => ⟨_, rfl⟩) (fun _ _ _ _ => rfl) (fun vs H Q E h => by obtain ⟨a, v, rfl, _⟩ := h; rfl) ?_, Binds.all fun us hl => by
    obtain ⟨c, cc, oc, doc, pm, ct, _, _, _, _, _, _, _, _, _, _, _, _, e, _⟩ := F.ex
    rw [e]
    exact hb c cc doc pm ct us hl⟩
  intro c cc A outer s H vs Q E hr h
  obtain ⟨a, v, rfl, ⟨ha, hv⟩, k⟩ := h
  refine ⟨_, _, a, C, [v], (pa_cons (pe_joined (PJ.cons pe_str (PJ.cons (pe_fmt (pv 1)) PJ.nil))) pa_nil), (pss_one (ps_ost (pv 0) (pv 1))), rfl, D.sup, ha, ?_⟩
  refine Gx.Step.run ?_
  refine js_any (fun out => ?_) _ _ (List.forall_mem_cons.mpr ⟨shorty_c (by decide +kernel), List.forall_mem_cons.mpr ⟨shorty_f rfl hv, fun t ht => by cases ht⟩⟩) (by decide +kernel)
  refine Gx.Step.run ?_
  exact ⟨by simp, ha, g_ost ha D.sup.oex (D.fld _ rfl) rfl rfl k⟩
theorem ns_NoPlace___init__ : NdefX.NScope ["self", "length", "__class__"] ["self", "length"] ["__class__"] (defScope s_NoPlace___init__) := NdefX.nscope_by (by decide +kernel)
theorem ex_NoPlace {C : Addr} (D : ExD P K mg "NoPlace" "NoPlace.__init__" s_NoPlace___init__ ["self", "length"] C) : ExK P w K mg base 1 "NoPlace" C "length" := by
  obtain ⟨f, fd, i1, i2, F⟩ := D.ini
  have hb : ∀ (c cc : Addr) (doc pm ct : Value) (us : List Value), us.length = ["self", "length"].length → bindArgs (PySem.W.fnX "__init__" "NoPlace.__init__" (defArgs s_NoPlace___init__) (defBody s_NoPlace___init__) (defScope s_NoPlace___init__) [("__class__", cc)] .none .none doc pm none (.ref c) ct) ⟨us, []⟩ = pure ((["self", "length"] : List Str).zip us) := fun c cc doc pm ct us hl => match us, hl with | [_, _], _ => rfl
  refine ⟨D.mgC, D.sup.oex, f, fd, i1, i2, sup_ok (k := 0) (sp := spEx1 C "length") F ns_NoPlace___init__ rfl rfl rfl rfl rfl hb (fun _ _ _ _ => rfl) (fun _ _ _ _ => rfl) (fun _ _ _ _ => ⟨_, rfl⟩) (fun _ _ _ _ => rfl) (fun vs H Q E h => by obtain ⟨a, v, rfl, _⟩ := h; rfl) ?_, Binds.all fun us hl => by
    obtain ⟨c, cc, oc, doc, pm, ct, _, _, _, _, _, _, _, _, _, _, _, _, e, _⟩ := F.ex
    rw [e]
    exact hb c cc doc pm ct us hl⟩
  intro c cc A outer s H vs Q E hr h
  obtain ⟨a, v, rfl, ⟨ha, hv⟩, k⟩ := h
  refine ⟨_, _, a, C, [v], (pa_cons (pe_joined (PJ.cons pe_str (PJ.cons (pe_fmt (pv 1)) (PJ.cons pe_str PJ.nil)))) pa_nil), (pss_one (ps_ost (pv 0) (pv 1))), rfl, D.sup, ha, ?_⟩
  refine Gx.Step.run ?_
  refine js_any (fun out => ?_) _ _ (List.forall_mem_cons.mpr ⟨shorty_c (by decide +kernel), List.forall_mem_cons.mpr ⟨shorty_f rfl hv, List.forall_mem_cons.mpr ⟨shorty_c (by decide +kernel), fun t ht => by cases ht⟩⟩⟩) (by decide +kernel)
  refine Gx.Step.run ?_
  exact ⟨by simp, ha, g_ost ha D.sup.oex (D.fld _ rfl) rfl rfl k⟩

local macro_rules | `(tactic| walk_at "fmt") => `(tactic| first | assumption | exact .inr ⟨_, rfl, by omega, by omega⟩ | exact .inl ⟨_, rfl, by decide +kernel⟩ | exact .inl ⟨_, rfl, by assumption⟩)
local macro_rules | `(tactic| walk_at "call") => `(tactic| ((with_reducible show Gx.rMk1 _ _ _ _ _); refine Gx.g_mk1 (by walk_at "fmt") ?_; intro d_ H_ np_ e_ hp_))
local macro_rules | `(tactic| walk_at "call") => `(tactic| first
  | ((with_reducible show L2.wAs _ _ _ _ _ _ _ _ _ _); first | (refine Gx.g_wasT (by walk_at "exm") ?_; intro a_ na_) | refine Gx.g_wasF (by walk_at "exm") ?_)
  | ((with_reducible show L2.wOnly _ _ _ _ _ _ _ _ _); first | (refine Gx.g_wonT (by walk_at "exm") ?_; intro a_ na_) | refine Gx.g_wonF (by walk_at "exm") ?_)
  | ((with_reducible show Gx.rIsS _ _ _ _ _ _ _); refine Gx.g_isS (by walk_at "xcc") (fun u h => h) (by walk_at "kit") ?_)
  | ((with_reducible show Gx.rXs _ _ _ _ _ _ _ _); refine Gx.g_xs (by walk_at "xfc") (by walk_at "xfd") (by exact rfl) ?_))

class Bx (b : Addr) (c : outParam Addr) (H : Hp) : Prop where
  ex : ∃ (ns : List Int) (i cur st cnt : Int), H b = some (.lst [.ref c, .int i, .int cur, .int st, .int cnt]) ∧ H c = some (.lst (ns.map V.int)) ∧ c ≠ b ∧ 0 ≤ i
instance (priority := low) bxStep {b c : Addr} {cs : List Addr} {H1 H : Hp} [h : Bx b c H1] [r : Chg cs H1 H] [n : NotIn b cs] [m : NotIn c cs] : Bx b c H := ⟨by
  obtain ⟨ns, i, cu, st, cn, h1, h2, h3⟩ := h.ex
  exact ⟨ns, i, cu, st, cn, r.keep _ _ n.out h1, r.keep _ _ m.out h2, h3⟩⟩
instance liveBx1 {b c : Addr} {H : Hp} [h : Bx b c H] : Live H b := ⟨by
  obtain ⟨ns, i, cu, st, cn, h1, h2, h3⟩ := h.ex
  exact ⟨_, h1⟩⟩
theorem liveBx2 {b c : Addr} {H : Hp} (h : Bx b c H) : Live H c := ⟨by
  obtain ⟨ns, i, cu, st, cn, h1, h2, h3⟩ := h.ex
  exact ⟨_, h2⟩⟩
def spBox (K : PySem.W.Frag) : Sp := fun vs H Q _ => ∃ (a : Addr) (ns : List Int), vs = [.ref a] ∧ (SqC K H a (ns.map V.int) ∧ ns.length < 90000) ∧ ∀ b c H', Nw H b → Ex H H' → Bx b c H' → Q (.ref b) H'
theorem use_box {K : PySem.W.Frag} {a : Addr} {ns : List Int} {H : Hp} {Q : VK} {E : XK} [hs : SqC K H a (ns.map V.int)] (h : ns.length < 90000) (q : ∀ b c H', Nw H b → Ex H H' → Bx b c H' → Q (.ref b) H') : spBox K ([.ref a] ++ []) H Q E := ⟨a, ns, rfl, ⟨hs, h⟩, q⟩
abbrev s_law_box : Stmt := (top 31)
abbrev N_law_box : List Str := ["_law_script", "_law_cell"]
theorem sc_law_box : FnScope N_law_box ["_law_script"] (defScope s_law_box) := ⟨rfl, rfl, rfl, by decide +kernel, rfl, by decide +kernel, by decide +kernel⟩
theorem cl_law_box (T : Bl mg) (Z : EcF P K mg c_StoreError c_InvalidInput c_NoPlace) (D : DfG K mg "_law_box" s_law_box [] [])  : ClG CX0 P w K mg base 3 "_law_box" s_law_box ["_law_script"] [] [] (spBox K) := by
  have nd := sc_law_box.nd
  refine D.okP sc_law_box (fun vs H Q E h => ?_) (fun f cdv A outer s H vs Q E hr h => ?_)
  · obtain ⟨a, ns, rfl, _⟩ := h
    rfl
  · obtain ⟨a, ns, rfl, ⟨hs, hl⟩, k⟩ := h
    have hu := hu64 hr
    refine ⟨_, (pss_one (ps_ret (pe_lst (pa_cons (pe_lc (own := [("_law_cell", 1)]) (g := gName 1) rfl nd (pi_listK (K := K) (by rfl) (pe_slice (slAnyK (K := K) (by rfl)) (pv 0) po_none (po_some pe_int))) (blkOk_by (own := [("_law_cell", 1)]) (N := N_law_box) (sc := defScope s_law_box) (by decide +kernel)) (fun _ _ _ _ _ => (pg_name (i := 1) nd rfl (Or.inl rfl))) (fun _ _ _ _ _ => pts_nil) (fun _ _ _ _ _ => (pe_callB callAbs (by rfl) T.abs (by decide +kernel) (pa_cons (pe_callTy callInt (by rfl) T.int (by decide +kernel) (pa_cons (pv 1) pa_nil)) pa_nil)))) (pa_cons pe_int (pa_cons pe_int (pa_cons pe_int (pa_cons pe_int pa_nil)))))))), ?_⟩
    try dsimp only [L2.cxOf, L2.Cx.nox]
    simp only [L2.start, N_law_box, List.map_cons, List.map_nil, List.length_cons, List.length_nil, Nat.reduceAdd, Nat.reduceSub, List.replicate_succ, List.replicate_zero, List.cons_append, List.nil_append]

    walk_at "gos"
    rename_i p H1 np1 e1 hp1
    refine Gx.lcL_A (fun v => ∃ m, v = V.int m) (Nat.le_trans (cutV_length _ _ _) (by rw [List.length_map]; omega)) (fun D i x acc H' hx hD e hp hz => ?_) (fun D acc H' hD e hp hl hP => ?_)
    · obtain ⟨m, rfl⟩ : ∃ m, x = V.int m := by
        have h1 := List.mem_of_getElem? hx
        have h2 := List.mem_of_mem_take h1
        have h3 := List.mem_of_mem_drop h2
        obtain ⟨m, _, h⟩ := List.mem_map.mp h3
        exact ⟨m, h.symm⟩
      walk_at "gos"
      exact ⟨Gx.rel, _, rfl, _, rfl⟩
    · obtain ⟨ms, rfl⟩ := Gx.of_all hP
      walk_at "gos"
      exact k _ D _ Gx.new Gx.rel ⟨ms, 0, 0, _, 0, At.eq, At.eq, Gx.ne_, by omega⟩
local macro_rules | `(tactic| walk_at "call") => `(tactic| ((with_reducible show spBox _ _ _ _ _); refine use_box (by omega) ?_; intro b_ c_ H_ np_ e_ hB_))
def spTake : Sp := fun vs H Q _ => ∃ (b c : Addr) (size : Int), vs = [.ref b, .int size] ∧ (Bx b c H ∧ 0 < size ∧ size < 2 ^ 200) ∧ ∀ d H', 0 ≤ d → d < size → ExB b H H' → Bx b c H' → Q (.int d) H'
theorem use_take {b c : Addr} {size : Int} {H : Hp} {Q : VK} {E : XK} [hb : Bx b c H] (h1 : 0 < size) (h2 : size < 2 ^ 200) (q : ∀ d H', 0 ≤ d → d < size → ExB b H H' → Bx b c H' → Q (.int d) H') : spTake ([.ref b, .int size] ++ []) H Q E := ⟨b, c, size, rfl, ⟨hb, h1, h2⟩, q⟩
abbrev s_law_take : Stmt := (top 32)
abbrev N_law_take : List Str := ["_law_box_here", "_law_size", "_law_cell", "_law_digit"]
theorem sc_law_take : FnScope N_law_take ["_law_box_here", "_law_size"] (defScope s_law_take) := ⟨rfl, rfl, rfl, by decide +kernel, rfl, by decide +kernel, by decide +kernel⟩
theorem cl_law_take (T : Bl mg) (Z : EcF P K mg c_StoreError c_InvalidInput c_NoPlace) (D : DfG K mg "_law_take" s_law_take [] [])  : ClG CX0 P w K mg base 3 "_law_take" s_law_take ["_law_box_here", "_law_size"] [] [] spTake := by
  have nd := sc_law_take.nd
  refine D.okP sc_law_take (fun vs H Q E h => ?_) (fun f cdv A outer s H vs Q E hr h => ?_)
  · obtain ⟨b, c, size, rfl, _⟩ := h
    rfl
  · obtain ⟨b, c, size, rfl, ⟨⟨ns, i, cur, st, cnt, hb, hc, ncb, hi⟩, hm, hm2⟩, k⟩ := h
    have hu := hu64 hr
    refine ⟨_, (pss_cons (ps_if (PW.pt (pw_and (pt_cmpR (opEqK (K := K) (by rfl) (by exact hu)) (pe_ix (ixSeqK (K := K) (by rfl)) (pv 0) pe_int (fun _ _ => rfl)) pe_int (nomark _)) (pw_and1 (pt_cmpR opLt (pe_ix (ixSeqK (K := K) (by rfl)) (pv 0) pe_int (fun _ _ => rfl)) (pe_callB (callLenK (K := K) (by rfl)) (by rfl) T.len (by decide +kernel) (pa_cons (pe_ix (ixSeqK (K := K) (by rfl)) (pv 0) pe_int (fun _ _ => rfl)) pa_nil)) (nomark _)))))
      (pss_cons (ps_set (i := 2) nd rfl (Or.inl rfl) (pe_callTy callInt (by rfl) T.int (by decide +kernel) (pa_cons (pe_ix (ixSeqK (K := K) (by rfl)) (pe_ix (ixSeqK (K := K) (by rfl)) (pv 0) pe_int (fun _ _ => rfl)) (pe_ix (ixSeqK (K := K) (by rfl)) (pv 0) pe_int (fun _ _ => rfl)) (fun _ _ => rfl)) pa_nil)))
    (pss_cons (ps_asg (pe_op (opAddK (K := K) (by rfl)) (pe_ix (ixSeqK (K := K) (by rfl)) (pv 0) pe_int (fun _ _ => rfl)) pe_int) (pg_sub (pv 0) pe_int set_list))
    (pss_cons (ps_asg (pe_op opMod (pe_callTy callInt (by rfl) T.int (by decide +kernel) (pa_cons (pe_op (opAddK (K := K) (by rfl)) (pe_op (opAddK (K := K) (by rfl)) (pe_op (opMulK (K := K) (by rfl)) (pe_ix (ixSeqK (K := K) (by rfl)) (pv 0) pe_int (fun _ _ => rfl)) pe_int) (pe_op (opMulK (K := K) (by rfl)) (pe_op opMod (pv 2) pe_int) pe_int)) pe_int) pa_nil)) pe_int) (pg_sub (pv 0) pe_int set_list))
    (pss_one (ps_if (pt_cmpR opGe (pv 2) (pe_op opPow pe_int pe_int) (nomark _))
      (pss_one (ps_asg (pv 2) (pg_sub (pv 0) pe_int set_list)))
      pss_nil)))))
      pss_nil)
    (pss_cons (ps_if (pt_cmpR opGt (pe_ix (ixSeqK (K := K) (by rfl)) (pv 0) pe_int (fun _ _ => rfl)) pe_int (nomark _))
      (pss_cons (ps_set (i := 3) nd rfl (Or.inl rfl) (pe_op opMod (pe_callTy callInt (by rfl) T.int (by decide +kernel) (pa_cons (pe_ix (ixSeqK (K := K) (by rfl)) (pv 0) pe_int (fun _ _ => rfl)) pa_nil)) (pv 1)))
    (pss_cons (ps_asg (pe_op opDiv (pe_ix (ixSeqK (K := K) (by rfl)) (pv 0) pe_int (fun _ _ => rfl)) (pv 1)) (pg_sub (pv 0) pe_int set_list))
    (pss_one (ps_ret (pv 3)))))
      pss_nil)
    (pss_cons (ps_asg (pe_op (opAddK (K := K) (by rfl)) (pe_ix (ixSeqK (K := K) (by rfl)) (pv 0) pe_int (fun _ _ => rfl)) pe_int) (pg_sub (pv 0) pe_int set_list))
    (pss_cons (ps_asg (pe_op opMod (pe_callTy callInt (by rfl) T.int (by decide +kernel) (pa_cons (pe_op (opAddK (K := K) (by rfl)) (pe_op (opMulK (K := K) (by rfl)) (pe_ix (ixSeqK (K := K) (by rfl)) (pv 0) pe_int (fun _ _ => rfl)) pe_int) (pe_op (opMulK (K := K) (by rfl)) (pe_ix (ixSeqK (K := K) (by rfl)) (pv 0) pe_int (fun _ _ => rfl)) pe_int)) pa_nil)) pe_int) (pg_sub (pv 0) pe_int set_list))
    (pss_one (ps_ret (pe_op opMod (pe_op opDiv (pe_op opMod (pe_callTy callInt (by rfl) T.int (by decide +kernel) (pa_cons (pe_op (opAddK (K := K) (by rfl)) (pe_op (opMulK (K := K) (by rfl)) (pe_ix (ixSeqK (K := K) (by rfl)) (pv 0) pe_int (fun _ _ => rfl)) pe_int) (pe_ix (ixSeqK (K := K) (by rfl)) (pv 0) pe_int (fun _ _ => rfl))) pa_nil)) pe_int) pe_int) (pv 1)))))))), ?_⟩
    try dsimp only [L2.cxOf, L2.Cx.nox]
    simp only [L2.start, N_law_take, List.map_cons, List.map_nil, List.length_cons, List.length_nil, Nat.reduceAdd, Nat.reduceSub, List.replicate_succ, List.replicate_zero, List.cons_append, List.nil_append]

    have hb : At H b _ := ⟨hb⟩
    have hc : At H c _ := ⟨hc⟩
    have ncb : NeC c b := ⟨ncb⟩
    walk_at "gos"
    all_goals exact k _ _ (Int.emod_nonneg _ (by omega)) (Int.emod_lt_of_pos _ hm) Gx.rel ⟨ns, _, _, _, _, At.eq, At.eq, ncb.ne, by omega⟩
local macro_rules | `(tactic| walk_at "call") => `(tactic| ((with_reducible show spTake _ _ _ _); refine use_take (by omega) (by omega) ?_; intro d_ H_ h0_ h1_ e_ hB_))

/-! words, plainly -/
def Wd (l : List Bool) : Prop := l.length ≤ 64 ∧ l.head? ≠ some false
theorem Wd.nil : Wd [] := ⟨by simp, by simp⟩
theorem Wd.start {l : List Bool} (h : Wd l) : (l.take ([false] : List Bool).length == [false]) = false := by
  obtain ⟨_, h⟩ := h
  cases l with
  | nil => rfl
  | cons b r => cases b <;> simp_all
theorem wd_one {r : List Bool} (h : r.length ≤ 63) : Wd (true :: r) := ⟨by simp; omega, by simp⟩
theorem dw_wd {l : List Bool} (h : l.head? ≠ some false) (n : Nat) : (List.replicate n false ++ l).dropWhile (! ·) = l := by
  induction n with
  | zero =>
    cases l with
    | nil => rfl
    | cons b r => cases b <;> simp_all
  | succ n ih => rw [List.replicate_succ, List.cons_append, List.dropWhile_cons]; simpa using ih
theorem dw_self {l : List Bool} (h : l.head? ≠ some false) : l.dropWhile (! ·) = l := dw_wd h 0
theorem cnt2 (l : List Bool) : l.count false + l.count true = l.length := by
  induction l with
  | nil => rfl
  | cons b r ih => cases b <;> simp [List.count_cons] <;> omega
/-- the depths of the ones among the first i -/
def depTo (l : List Bool) (i : Nat) : List Int := ((List.range i).filter fun k => l[k]? == some true).map fun k => (l.length : Int) - (k : Nat)
def dep (l : List Bool) : List Int := depTo l l.length
theorem depTo_zero (l : List Bool) : depTo l 0 = [] := rfl
theorem depTo_succ {l : List Bool} {i : Nat} {b : Bool} (h : l[i]? = some b) : depTo l (i + 1) = depTo l i ++ (if b = true then [(l.length : Int) - (i : Nat)] else []) := by
  unfold depTo
  rw [List.range_succ, List.filter_append, List.map_append]
  congr 1
  cases b <;> simp [h]
theorem depTo_len (l : List Bool) (i : Nat) : (depTo l i).length ≤ i := by
  unfold depTo
  rw [List.length_map]
  exact Nat.le_trans (List.length_filter_le _ _) (by simp)
theorem dep_nil : dep [] = [] := rfl
theorem dep_cons (b : Bool) (r : List Bool) : dep (b :: r) = (if b = true then [((r.length : Int) + 1)] else []) ++ dep r := by
  unfold dep depTo
  rw [List.length_cons, List.range_succ_eq_map, List.filter_cons]
  have e : ((List.map Nat.succ (List.range r.length)).filter fun k => (b :: r)[k]? == some true).map (fun k => ((r.length + 1 : Nat) : Int) - (k : Nat)) = ((List.range r.length).filter fun k => r[k]? == some true).map fun k => (r.length : Int) - (k : Nat) := by
    rw [List.filter_map, List.map_map]
    have e1 : ((fun k => (b :: r)[k]? == some true) ∘ Nat.succ) = fun k => r[k]? == some true := by
      funext k
      simp
    rw [e1]
    apply List.map_congr_left
    intro k _
    simp only [Function.comp]
    omega
  cases b with
  | true => simp only [List.getElem?_cons_zero, beq_self_eq_true, if_true, List.map_cons, e, List.singleton_append]; simp
  | false =>
    rw [if_neg (by simp), if_neg (by simp), e]
    rfl
theorem dep_len (l : List Bool) : (dep l).length = l.count true := by
  induction l with
  | nil => rfl
  | cons b r ih => rw [dep_cons, List.length_append, ih, List.count_cons]; cases b <;> simp <;> omega
theorem dep_le (l : List Bool) : ∀ d ∈ dep l, 1 ≤ d ∧ d ≤ l.length := by
  induction l with
  | nil => intro d h; simp [dep_nil] at h
  | cons b r ih =>
    intro d h
    rw [dep_cons] at h
    rcases List.mem_append.mp h with h | h
    · cases b <;> simp at h
      subst h
      simp only [List.length_cons]
      omega
    · have := ih d h
      simp only [List.length_cons]
      omega
/-- each is greater than what follows, the last than 0 -/
def Dec : List Int → Prop
  | [] => True
  | d :: r => d > r.headD 0 ∧ Dec r
def wof : List Int → List (List Bool)
  | [] => []
  | d :: r => (true :: List.replicate (d - r.headD 0 - 1).toNat false) :: wof r
theorem dec_dep (l : List Bool) : Dec (dep l) := by
  induction l with
  | nil => trivial
  | cons b r ih =>
    rw [dep_cons]
    cases b with
    | false => simpa using ih
    | true =>
      refine ⟨?_, ih⟩
      show (r.length : Int) + 1 > (dep r).headD 0
      cases e : dep r with
      | nil => show (r.length : Int) + 1 > 0; omega
      | cons x y =>
        have := (dep_le r x (by rw [e]; exact List.mem_cons_self ..)).2
        simp
        omega
theorem dep_zeros (n : Nat) (r : List Bool) : dep (List.replicate n false ++ r) = dep r := by
  induction n with
  | zero => rfl
  | succ n ih => rw [List.replicate_succ, List.cons_append, dep_cons]; simpa using ih
theorem tw_dw (r : List Bool) : r = List.replicate (r.takeWhile (! ·)).length false ++ r.dropWhile (! ·) := by
  induction r with
  | nil => rfl
  | cons b r ih =>
    cases b with
    | true => rfl
    | false =>
      rw [List.takeWhile_cons, List.dropWhile_cons]
      simp only [Bool.not_false, if_true, List.length_cons, List.replicate_succ, List.cons_append]
      rw [← ih]
theorem dw_head (r : List Bool) : (r.dropWhile (! ·)).head? ≠ some false := by
  induction r with
  | nil => simp
  | cons b r ih => cases b <;> simp [List.dropWhile_cons, ih]
theorem head_dep {l : List Bool} (h : l.head? ≠ some false) : (dep l).headD 0 = (l.length : Int) := by
  cases l with
  | nil => rfl
  | cons b r =>
    cases b with
    | false => simp at h
    | true => rw [dep_cons]; simp
theorem wof_dep : ∀ (n : Nat) (l : List Bool), l.length ≤ n → l.head? ≠ some false → (wof (dep l)).flatten = l
  | 0, l, hn, _ => by
    have e : l = [] := List.length_eq_zero_iff.mp (by omega)
    rw [e]
    rfl
  | n + 1, [], _, _ => rfl
  | n + 1, false :: r, _, h => by simp at h
  | n + 1, true :: r, hn, _ => by
    have h2 := dw_head r
    have e := tw_dw r
    generalize hk : (r.takeWhile (! ·)).length = k at e
    generalize hm : r.dropWhile (! ·) = m at e h2
    have hl : r.length = k + m.length := by
      have := congrArg List.length e
      simpa using this
    rw [dep_cons, e, dep_zeros]
    simp only [if_true, List.singleton_append, wof, List.flatten_cons]
    rw [wof_dep n m (by simp only [List.length_cons] at hn; omega) h2, head_dep h2]
    have e3 : (((List.replicate k false ++ m).length : Int) + 1 - (m.length : Int) - 1).toNat = k := by
      simp
      omega
    rw [e3]
    rfl
theorem wof_at : ∀ (ds : List Int) (i : Nat) (d e : Int), ds[i]? = some d → (ds.drop 1 ++ [0])[i]? = some e → (wof ds)[i]? = some (true :: List.replicate (d - e - 1).toNat false)
  | [], i, d, e, h, _ => by simp at h
  | x :: r, 0, d, e, h, k => by
    simp at h
    subst h
    cases r with
    | nil => simp at k; subst k; simp [wof]
    | cons y r => simp at k; subst k; simp [wof]
  | x :: r, i + 1, d, e, h, k => by
    have h' : r[i]? = some d := by simpa using h
    show (wof r)[i]? = _
    refine wof_at r i d e h' ?_
    cases r with
    | nil => simp at h'
    | cons y r => simpa using k
theorem dec_at : ∀ (ds : List Int) (i : Nat) (d e : Int), Dec ds → ds[i]? = some d → (ds.drop 1 ++ [0])[i]? = some e → d > e
  | [], i, d, e, _, h, _ => by simp at h
  | x :: r, 0, d, e, hd, h, k => by
    simp at h
    subst h
    cases r with
    | nil => simp at k; subst k; simpa using hd.1
    | cons y r => simp at k; subst k; simpa using hd.1
  | x :: r, i + 1, d, e, hd, h, k => by
    have h' : r[i]? = some d := by simpa using h
    refine dec_at r i d e hd.2 h' ?_
    cases r with
    | nil => simp at h'
    | cons y r => simpa using k
theorem wof_len (ds : List Int) : (wof ds).length = ds.length := by
  induction ds with
  | nil => rfl
  | cons d r ih => simp [wof, ih]
theorem dec_pos : ∀ (ds : List Int), Dec ds → ∀ d ∈ ds, 0 < d
  | [], _, d, h => by simp at h
  | [x], hd, d, h => by
    have := hd.1
    simp at this h
    omega
  | x :: y :: r, hd, d, h => by
    have h2 := dec_pos (y :: r) hd.2
    rcases List.mem_cons.mp h with e | h
    · have := hd.1
      have := h2 y (List.mem_cons_self ..)
      simp at *
      omega
    · exact h2 d h

def spAtLeast : Sp := fun vs H Q _ => ∃ (v m : Int) (z : Str), vs = [.int v, .int m, .str z] ∧ m ≤ v ∧ Q .non H
def spAtMost : Sp := fun vs H Q _ => ∃ (v m : Int) (z : Str), vs = [.int v, .int m, .str z] ∧ v ≤ m ∧ Q .non H
def spWhole : Sp := fun vs H Q _ => ∃ (v : Int) (z : Str), vs = [.int v, .str z] ∧ Q .non H
def spGood : Sp := fun vs H Q _ => ∃ (l : List Bool) (z : Str), vs = [.str (tx l), .str z] ∧ Wd l ∧ Q .non H
abbrev s_at_least : Stmt := (top 5)
abbrev N_at_least : List Str := ["value", "least", "field"]
theorem sc_at_least : FnScope N_at_least ["value", "least", "field"] (defScope s_at_least) := ⟨rfl, rfl, rfl, by decide +kernel, rfl, by decide +kernel, by decide +kernel⟩
theorem cl_at_least (T : Bl mg) (Z : EcF P K mg c_StoreError c_InvalidInput c_NoPlace) (D : DfG K mg "at_least" s_at_least [] [])  : ClG CX0 P w K mg base 3 "at_least" s_at_least ["value", "least", "field"] [] [] spAtLeast := by
  have nd := sc_at_least.nd
  refine D.okP sc_at_least (fun vs H Q E h => ?_) (fun f cdv A outer s H vs Q E hr h => ?_)
  · obtain ⟨v, m, z, rfl, _⟩ := h
    rfl
  · obtain ⟨v, m, z, rfl, h, k⟩ := h
    have hu := hu64 hr
    refine ⟨_, (pss_one (ps_if (pt_cmpR opLt (pv 0) (pv 1) (nomark _))
      (pss_one ps_never)
      pss_nil)), ?_⟩
    try dsimp only [L2.cxOf, L2.Cx.nox]
    simp only [L2.start, N_at_least, List.map_cons, List.map_nil, List.length_cons, List.length_nil, Nat.reduceAdd, Nat.reduceSub, List.replicate_succ, List.replicate_zero, List.cons_append, List.nil_append]

    walk_at "gos"
    exact k
abbrev s_at_most : Stmt := (top 6)
abbrev N_at_most : List Str := ["value", "most", "field"]
theorem sc_at_most : FnScope N_at_most ["value", "most", "field"] (defScope s_at_most) := ⟨rfl, rfl, rfl, by decide +kernel, rfl, by decide +kernel, by decide +kernel⟩
theorem cl_at_most (T : Bl mg) (Z : EcF P K mg c_StoreError c_InvalidInput c_NoPlace) (D : DfG K mg "at_most" s_at_most [] [])  : ClG CX0 P w K mg base 3 "at_most" s_at_most ["value", "most", "field"] [] [] spAtMost := by
  have nd := sc_at_most.nd
  refine D.okP sc_at_most (fun vs H Q E h => ?_) (fun f cdv A outer s H vs Q E hr h => ?_)
  · obtain ⟨v, m, z, rfl, _⟩ := h
    rfl
  · obtain ⟨v, m, z, rfl, h, k⟩ := h
    have hu := hu64 hr
    refine ⟨_, (pss_one (ps_if (pt_cmpR opGt (pv 0) (pv 1) (nomark _))
      (pss_one ps_never)
      pss_nil)), ?_⟩
    try dsimp only [L2.cxOf, L2.Cx.nox]
    simp only [L2.start, N_at_most, List.map_cons, List.map_nil, List.length_cons, List.length_nil, Nat.reduceAdd, Nat.reduceSub, List.replicate_succ, List.replicate_zero, List.cons_append, List.nil_append]

    walk_at "gos"
    exact k
abbrev s_whole_number : Stmt := (top 7)
abbrev N_whole_number : List Str := ["value", "field"]
theorem sc_whole_number : FnScope N_whole_number ["value", "field"] (defScope s_whole_number) := ⟨rfl, rfl, rfl, by decide +kernel, rfl, by decide +kernel, by decide +kernel⟩
theorem cl_whole_number (T : Bl mg) (Z : EcF P K mg c_StoreError c_InvalidInput c_NoPlace) (D : DfG K mg "whole_number" s_whole_number [] [])  : ClG CX0 P w K mg base 3 "whole_number" s_whole_number ["value", "field"] [] [] spWhole := by
  have nd := sc_whole_number.nd
  refine D.okP sc_whole_number (fun vs H Q E h => ?_) (fun f cdv A outer s H vs Q E hr h => ?_)
  · obtain ⟨v, z, rfl, _⟩ := h
    rfl
  · obtain ⟨v, z, rfl, k⟩ := h
    have hu := hu64 hr
    refine ⟨_, (pss_one (ps_if (PW.pt (pw_or (pt_val (pe_callB (callIsiK (K := K) (by rfl)) (by rfl) T.isinstance (by decide +kernel) (pa_cons (pv 0) (pa_cons (pe_bltn (v := .ty "bool") (by rfl) T.bool (by decide +kernel) rfl) pa_nil)))) (pw_or1 (pt_not (pt_val (pe_callB (callIsiK (K := K) (by rfl)) (by rfl) T.isinstance (by decide +kernel) (pa_cons (pv 0) (pa_cons (pe_bltn (v := .ty "int") (by rfl) T.int (by decide +kernel) rfl) pa_nil))))))))
      (pss_one ps_never)
      pss_nil)), ?_⟩
    try dsimp only [L2.cxOf, L2.Cx.nox]
    simp only [L2.start, N_whole_number, List.map_cons, List.map_nil, List.length_cons, List.length_nil, Nat.reduceAdd, Nat.reduceSub, List.replicate_succ, List.replicate_zero, List.cons_append, List.nil_append]

    walk_at "gos"
    exact k
abbrev s_good_word : Stmt := (top 8)
abbrev N_good_word : List Str := ["word", "field"]
theorem sc_good_word : FnScope N_good_word ["word", "field"] (defScope s_good_word) := ⟨rfl, rfl, rfl, by decide +kernel, rfl, by decide +kernel, by decide +kernel⟩
theorem cl_good_word (T : Bl mg) (Z : EcF P K mg c_StoreError c_InvalidInput c_NoPlace) (D : DfG K mg "good_word" s_good_word [] [])  : ClG CX0 P w K mg base 3 "good_word" s_good_word ["word", "field"] [] [] spGood := by
  have nd := sc_good_word.nd
  refine D.okP sc_good_word (fun vs H Q E h => ?_) (fun f cdv A outer s H vs Q E hr h => ?_)
  · obtain ⟨l, z, rfl, _⟩ := h
    rfl
  · obtain ⟨l, z, rfl, h, k⟩ := h
    have hu := hu64 hr
    refine ⟨_, (pss_one (ps_if (PW.pt (pw_or (pt_val (pe_bmK (K := K) (by rfl) PySem.F.plainAttrs_str PySem.F.slot_str_startswith PySem.F.type_str_startswith mtStarts (pv 0) (pa_cons pe_str pa_nil))) (pw_or1 (pt_cmpR (opNeK (K := K) (by rfl) (by exact hu)) (pe_bmK (K := K) (by rfl) PySem.F.plainAttrs_str PySem.F.slot_str_strip PySem.F.type_str_strip mtStripC (pv 0) (pa_cons pe_str pa_nil)) pe_str (nomark _)))))
      (pss_one ps_never)
      pss_nil)), ?_⟩
    try dsimp only [L2.cxOf, L2.Cx.nox]
    simp only [L2.start, N_good_word, List.map_cons, List.map_nil, List.length_cons, List.length_nil, Nat.reduceAdd, Nat.reduceSub, List.replicate_succ, List.replicate_zero, List.cons_append, List.nil_append]

    have h1 := h.1
    walk_at "go"
    rw [h.start]
    walk_at "gos"
    exact k
local macro_rules | `(tactic| walk_at "call") => `(tactic| first
  | ((with_reducible show spAtLeast _ _ _ _); refine ⟨_, _, _, rfl, by omega, ?_⟩)
  | ((with_reducible show spAtMost _ _ _ _); refine ⟨_, _, _, rfl, by omega, ?_⟩)
  | ((with_reducible show spWhole _ _ _ _); refine ⟨_, _, rfl, ?_⟩)
  | ((with_reducible show spGood _ _ _ _); refine ⟨_, _, rfl, by assumption, ?_⟩))
def spTrim : Sp := fun vs H Q _ => ∃ (l : List Bool), vs = [.str (tx l)] ∧ l.length ≤ 1000 ∧ Q (.str (tx (l.dropWhile (! ·)))) H
def spOnes : Sp := fun vs H Q _ => ∃ (l : List Bool), vs = [.str (tx l)] ∧ Q (.int (l.count true : Nat)) H
def spDeps : Sp := fun vs H Q _ => ∃ (l : List Bool), vs = [.str (tx l)] ∧ l.length ≤ 1000 ∧ ∀ p H', Nw H p → Ex H H' → At H' p (.lst ((dep l).map V.int)) → Q (.ref p) H'
abbrev s_trimmed : Stmt := (top 23)
abbrev N_trimmed : List Str := ["text"]
theorem sc_trimmed : FnScope N_trimmed ["text"] (defScope s_trimmed) := ⟨rfl, rfl, rfl, by decide +kernel, rfl, by decide +kernel, by decide +kernel⟩
theorem cl_trimmed (T : Bl mg) (Z : EcF P K mg c_StoreError c_InvalidInput c_NoPlace) (D : DfG K mg "_trimmed" s_trimmed [] [])  : ClG CX0 P w K mg base 3 "_trimmed" s_trimmed ["text"] [] [] spTrim := by
  have nd := sc_trimmed.nd
  refine D.okP sc_trimmed (fun vs H Q E h => ?_) (fun f cdv A outer s H vs Q E hr h => ?_)
  · obtain ⟨l, rfl, _⟩ := h
    rfl
  · obtain ⟨l, rfl, h, k⟩ := h
    have hu := hu64 hr
    refine ⟨_, (pss_one (ps_ret (pe_bmK (K := K) (by rfl) PySem.F.plainAttrs_str PySem.F.slot_str_lstrip PySem.F.type_str_lstrip mtLstripC (pv 0) (pa_cons pe_str pa_nil)))), ?_⟩
    try dsimp only [L2.cxOf, L2.Cx.nox]
    simp only [L2.start, N_trimmed, List.map_cons, List.map_nil, List.length_cons, List.length_nil, Nat.reduceAdd, Nat.reduceSub, List.replicate_succ, List.replicate_zero, List.cons_append, List.nil_append]

    walk_at "gos"
    exact k
abbrev s_ones : Stmt := (top 24)
abbrev N_ones : List Str := ["word"]
theorem sc_ones : FnScope N_ones ["word"] (defScope s_ones) := ⟨rfl, rfl, rfl, by decide +kernel, rfl, by decide +kernel, by decide +kernel⟩
theorem cl_ones (T : Bl mg) (Z : EcF P K mg c_StoreError c_InvalidInput c_NoPlace) (D : DfG K mg "_ones" s_ones [] [])  : ClG CX0 P w K mg base 3 "_ones" s_ones ["word"] [] [] spOnes := by
  have nd := sc_ones.nd
  refine D.okP sc_ones (fun vs H Q E h => ?_) (fun f cdv A outer s H vs Q E hr h => ?_)
  · obtain ⟨l, rfl, _⟩ := h
    rfl
  · obtain ⟨l, rfl, k⟩ := h
    have hu := hu64 hr
    refine ⟨_, (pss_one (ps_ret (pe_bmK (K := K) (by rfl) PySem.F.plainAttrs_str PySem.F.slot_str_count PySem.F.type_str_count mtCount (pv 0) (pa_cons pe_str pa_nil)))), ?_⟩
    try dsimp only [L2.cxOf, L2.Cx.nox]
    simp only [L2.start, N_ones, List.map_cons, List.map_nil, List.length_cons, List.length_nil, Nat.reduceAdd, Nat.reduceSub, List.replicate_succ, List.replicate_zero, List.cons_append, List.nil_append]

    walk_at "gos"
    exact k
abbrev s_depth_list : Stmt := (top 25)
abbrev N_depth_list : List Str := ["word", "place", "mark"]
theorem sc_depth_list : FnScope N_depth_list ["word"] (defScope s_depth_list) := ⟨rfl, rfl, rfl, by decide +kernel, rfl, by decide +kernel, by decide +kernel⟩
theorem cl_depth_list (T : Bl mg) (Z : EcF P K mg c_StoreError c_InvalidInput c_NoPlace) (D : DfG K mg "_depth_list" s_depth_list [] [])  : ClG CX0 P w K mg base 3 "_depth_list" s_depth_list ["word"] [] [] spDeps := by
  have nd := sc_depth_list.nd
  refine D.okP sc_depth_list (fun vs H Q E h => ?_) (fun f cdv A outer s H vs Q E hr h => ?_)
  · obtain ⟨l, rfl, _⟩ := h
    rfl
  · obtain ⟨l, rfl, h, k⟩ := h
    have hu := hu64 hr
    refine ⟨_, (pss_one (ps_ret (pe_lc (own := [("place", 1), ("mark", 2)]) (g := gTup K 2 (gCons (gName 1) (gCons (gName 2) gNil))) rfl nd (pi_enumS (by rfl) T.enumerate (pa_cons (pv 0) pa_nil)) (blkOk_by (own := [("place", 1), ("mark", 2)]) (N := N_depth_list) (sc := defScope s_depth_list) (by decide +kernel)) (fun _ _ _ _ _ => (pg_tup rfl (pgs_cons (pg_name (i := 1) nd rfl (Or.inl rfl)) (pgs_cons (pg_name (i := 2) nd rfl (Or.inl rfl)) pgs_nil)))) (fun _ _ _ _ _ => (pts_one (pt_cmpR (opEqK (K := K) (by rfl) (by exact hu)) (pv 2) pe_str (nomark _)))) (fun _ _ _ _ _ => (pe_op opSub (pe_callB (callLenK (K := K) (by rfl)) (by rfl) T.len (by decide +kernel) (pa_cons (pv 0) pa_nil)) (pv 1)))))), ?_⟩
    try dsimp only [L2.cxOf, L2.Cx.nox]
    simp only [L2.start, N_depth_list, List.map_cons, List.map_nil, List.length_cons, List.length_nil, Nat.reduceAdd, Nat.reduceSub, List.replicate_succ, List.replicate_zero, List.cons_append, List.nil_append]

    walk_at "gos"
    refine Gx.lcE_F (fun i => (depTo l i).map V.int) rfl (fun i hi => ?_) (fun D i c x H' H'' hi hc hD e hp hz y => ?_) (fun D H' hD e hp => ?_)
    · rw [tx_size] at hi
      rw [List.length_map]
      have := depTo_len l i
      omega
    · obtain ⟨b, hb, eb⟩ := Gx.tx_char hc
      rw [eb] at y
      have hs := depTo_succ hb
      walk_at "go"
      cases b with
      | true =>
        walk_at "go"
        rw [show decide ([true] = [true]) = true from rfl]
        walk_at "go"
        refine ⟨Gx.rel, ?_⟩
        rw [hs]
        simp
      | false =>
        walk_at "go"
        rw [show decide ([false] = [true]) = false from rfl]
        walk_at "go"
        refine ⟨Gx.rel, ?_⟩
        rw [hs]
        simp
    · rw [tx_size] at hp
      exact k D H' hD e hp
local macro_rules | `(tactic| walk_at "call") => `(tactic| first
  | ((with_reducible show spTrim _ _ _ _); refine ⟨_, rfl, by walk_at "szt", ?_⟩)
  | ((with_reducible show spOnes _ _ _ _); refine ⟨_, rfl, ?_⟩)
  | ((with_reducible show spDeps _ _ _ _); refine ⟨_, rfl, by walk_at "szt", ?_⟩; intro p_ H_ np_ e_ hp_))

/-! texts of any signs: which are words -/
def Good (z : Str) : Prop := ∃ l : List Bool, z = tx l ∧ l.head? ≠ some false
theorem bits_or : ∀ cs : List Nat, (∃ l : List Bool, cs = l.map bc) ∨ ∃ c ∈ cs, c ≠ 48 ∧ c ≠ 49
  | [] => .inl ⟨[], rfl⟩
  | c :: r => by
    by_cases h0 : c = 48
    · rcases bits_or r with ⟨l, h⟩ | ⟨d, h1, h2⟩
      · exact .inl ⟨false :: l, by rw [h, h0]; rfl⟩
      · exact .inr ⟨d, List.mem_cons_of_mem _ h1, h2⟩
    · by_cases h1 : c = 49
      · rcases bits_or r with ⟨l, h⟩ | ⟨d, h3, h2⟩
        · exact .inl ⟨true :: l, by rw [h, h1]; rfl⟩
        · exact .inr ⟨d, List.mem_cons_of_mem _ h3, h2⟩
      · exact .inr ⟨c, List.mem_cons_self .., h0, h1⟩
theorem str_or (z : Str) : (∃ l : List Bool, z = tx l) ∨ ∃ c ∈ z.cps.toList, c ≠ 48 ∧ c ≠ 49 := by
  rcases bits_or z.cps.toList with ⟨l, h⟩ | h
  · exact .inl ⟨l, Gx.str_ext (by rw [h, tx_list])⟩
  · exact .inr h
theorem tw_lt {p : Nat → Bool} : ∀ {cs : List Nat} {c : Nat}, c ∈ cs → p c = false → (cs.takeWhile p).length < cs.length
  | [], c, h, _ => absurd h (by simp)
  | a :: r, c, h, hp => by
    rw [List.takeWhile_cons]
    by_cases z : p a = true
    · rw [if_pos z, List.length_cons, List.length_cons]
      rcases List.mem_cons.mp h with e | e
      · rw [e, z] at hp; cases hp
      · have := tw_lt e hp
        omega
    · rw [if_neg z]; simp
theorem dw_mem {p : Nat → Bool} : ∀ {cs : List Nat} {c : Nat}, c ∈ cs → p c = false → c ∈ cs.drop (cs.takeWhile p).length
  | [], c, h, _ => absurd h (by simp)
  | a :: r, c, h, hp => by
    rw [List.takeWhile_cons]
    by_cases z : p a = true
    · rw [if_pos z, List.length_cons, List.drop_succ_cons]
      rcases List.mem_cons.mp h with e | e
      · rw [e, z] at hp; cases hp
      · exact dw_mem e hp
    · rw [if_neg z]
      exact h
theorem strip_bad {z : Str} {c : Nat} (hc : c ∈ z.cps.toList) (h0 : c ≠ 48) (h1 : c ≠ 49) : Txt.stripChars z (tx [false, true]) ≠ tx [] := by
  intro h
  have h2 : (Txt.stripChars z (tx [false, true])).cps.toList = (tx []).cps.toList := by rw [h]
  unfold Txt.stripChars at h2
  rw [PyProof.Rows.stripBy_eq, Gx.strSub_list, tx_list] at h2
  have hp : (tx [false, true]).cps.contains c = false := by
    simp [tx, bc, h0, h1]
  obtain ⟨p, hpe⟩ : ∃ p : Nat → Bool, p = (tx [false, true]).cps.contains := ⟨_, rfl⟩
  rw [← hpe] at h2 hp
  have e1 : PySem.stripLo p true z = (z.cps.toList.takeWhile p).length := by unfold PySem.stripLo; rw [if_pos rfl]
  rw [e1] at h2
  have hm := dw_mem hc hp
  have hl := tw_lt hc hp
  have hr := tw_lt (cs := (z.cps.toList.drop (z.cps.toList.takeWhile p).length).reverse) (List.mem_reverse.mpr hm) hp
  rw [List.length_reverse, List.length_drop] at hr
  have e2 : PySem.stripHi p true z (z.cps.toList.takeWhile p).length = z.length - ((z.cps.toList.drop (z.cps.toList.takeWhile p).length).reverse.takeWhile p).length := by unfold PySem.stripHi; rw [if_pos rfl]
  rw [e2] at h2
  have hz : z.length = z.cps.toList.length := by simp [Str.length]
  have h3 := congrArg List.length h2
  rw [List.length_take, List.length_drop, hz] at h3
  simp at h3
  simp at hr hl
  omega
theorem rep_good {z : Str} : Txt.replace (Txt.replace z (tx [false]) (tx [])) (tx [true]) (tx []) = tx [] ↔ ∃ l : List Bool, z = tx l := by
  have e0 : tx [false] = (⟨#[48]⟩ : Str) := rfl
  have e1 : tx [true] = (⟨#[49]⟩ : Str) := rfl
  have e2 : tx [] = (⟨#[]⟩ : Str) := rfl
  have h1 := PyProof.Rows.replace_strikes (Txt.replace z (tx [false]) (tx [])) 49
  have h2 := PyProof.Rows.replace_strikes z 48
  rw [← e0, ← e2] at h2
  rw [← e1, ← e2, h2] at h1
  constructor
  · intro h
    rw [h, tx_list] at h1
    rcases str_or z with h3 | ⟨c, hc, h4, h5⟩
    · exact h3
    · have : c ∈ (z.cps.toList.filter (· != 48)).filter (· != 49) := List.mem_filter.mpr ⟨List.mem_filter.mpr ⟨hc, by simpa using h4⟩, by simpa using h5⟩
      rw [← h1] at this
      simp at this
  · rintro ⟨l, rfl⟩
    refine Gx.str_ext ?_
    rw [h1, tx_list]
    rw [List.filter_eq_nil_iff.mpr]
    · rfl
    · intro c hc
      rw [List.mem_filter] at hc
      obtain ⟨hc, h6⟩ := hc
      try rw [tx_list] at hc
      obtain ⟨b, _, rfl⟩ := List.mem_map.mp hc
      cases b
      · simp [bc] at h6
      · simp [bc]
def spAtlX (cI : Addr) : Sp := fun vs H Q E => ∃ (v l : Int) (z : Str), vs = [.int v, .int l, .str z] ∧ z.length ≤ 1000 ∧ (l ≤ v → Q .non H) ∧ (v < l → ∀ d H', Nw H d → Ex H H' → At H' d (.xd [("field", .str z)]) → E (.ref cI) (some d) H')
abbrev s_at_least_X : Stmt := (top 5)
abbrev N_at_least_X : List Str := ["value", "least", "field"]
theorem sc_at_least_X : FnScope N_at_least_X ["value", "least", "field"] (defScope s_at_least_X) := ⟨rfl, rfl, rfl, by decide +kernel, rfl, by decide +kernel, by decide +kernel⟩
theorem cl_at_least_X (T : Bl mg) (Z : EcF P K mg c_StoreError c_InvalidInput c_NoPlace) (D : DfG K mg "at_least" s_at_least_X [] [])  : ClG (L2.CX P w) P w K mg base 3 "at_least" s_at_least_X ["value", "least", "field"] [] [] (spAtlX c_InvalidInput) := by
  have nd := sc_at_least_X.nd
  refine D.ok sc_at_least_X (fun vs H Q E h => ?_) (fun f cdv A outer s H vs Q E hr h => ?_)
  · obtain ⟨v, l, z, rfl, _⟩ := h
    rfl
  · obtain ⟨v, l, z, rfl, hz, k, k2⟩ := h
    have hu := hu64 hr
    refine ⟨_, (pss_one (ps_if (pt_cmpR opLt (pv 0) (pv 1) (nomark _))
      (pss_one (ps_raise rfl takesX (pmk1 (ex_InvalidInput Z.d_InvalidInput) (by exact hr.mono (by decide)) rfl (pa_cons (pv 2) pa_nil))))
      pss_nil)), ?_⟩
    try dsimp only [L2.cxOf, L2.Cx.nox]
    simp only [L2.start, N_at_least_X, List.map_cons, List.map_nil, List.length_cons, List.length_nil, Nat.reduceAdd, Nat.reduceSub, List.replicate_succ, List.replicate_zero, List.cons_append, List.nil_append]

    have hf : FmtV (.str z) := .inl ⟨z, rfl, hz⟩
    walk_at "gos"
    · rename_i h _ _ _ _ _
      exact k2 h _ _ ‹_› Gx.rel Gx.at_
    · exact k (by omega)
def spAtmX (cI : Addr) : Sp := fun vs H Q E => ∃ (v l : Int) (z : Str), vs = [.int v, .int l, .str z] ∧ z.length ≤ 1000 ∧ (v ≤ l → Q .non H) ∧ (l < v → ∀ d H', Nw H d → Ex H H' → At H' d (.xd [("field", .str z)]) → E (.ref cI) (some d) H')
abbrev s_at_most_X : Stmt := (top 6)
abbrev N_at_most_X : List Str := ["value", "most", "field"]
theorem sc_at_most_X : FnScope N_at_most_X ["value", "most", "field"] (defScope s_at_most_X) := ⟨rfl, rfl, rfl, by decide +kernel, rfl, by decide +kernel, by decide +kernel⟩
theorem cl_at_most_X (T : Bl mg) (Z : EcF P K mg c_StoreError c_InvalidInput c_NoPlace) (D : DfG K mg "at_most" s_at_most_X [] [])  : ClG (L2.CX P w) P w K mg base 3 "at_most" s_at_most_X ["value", "most", "field"] [] [] (spAtmX c_InvalidInput) := by
  have nd := sc_at_most_X.nd
  refine D.ok sc_at_most_X (fun vs H Q E h => ?_) (fun f cdv A outer s H vs Q E hr h => ?_)
  · obtain ⟨v, l, z, rfl, _⟩ := h
    rfl
  · obtain ⟨v, l, z, rfl, hz, k, k2⟩ := h
    have hu := hu64 hr
    refine ⟨_, (pss_one (ps_if (pt_cmpR opGt (pv 0) (pv 1) (nomark _))
      (pss_one (ps_raise rfl takesX (pmk1 (ex_InvalidInput Z.d_InvalidInput) (by exact hr.mono (by decide)) rfl (pa_cons (pv 2) pa_nil))))
      pss_nil)), ?_⟩
    try dsimp only [L2.cxOf, L2.Cx.nox]
    simp only [L2.start, N_at_most_X, List.map_cons, List.map_nil, List.length_cons, List.length_nil, Nat.reduceAdd, Nat.reduceSub, List.replicate_succ, List.replicate_zero, List.cons_append, List.nil_append]

    have hf : FmtV (.str z) := .inl ⟨z, rfl, hz⟩
    walk_at "gos"
    · rename_i h _ _ _ _ _
      exact k2 h _ _ ‹_› Gx.rel Gx.at_
    · exact k (by omega)
def spGw (cI : Addr) : Sp := fun vs H Q E => ∃ (z f : Str), vs = [.str z, .str f] ∧ (z.length ≤ 1000 ∧ f.length ≤ 1000) ∧ (Good z → Q .non H) ∧ (¬ Good z → ∀ d H', Nw H d → Ex H H' → At H' d (.xd [("field", .str f)]) → E (.ref cI) (some d) H')
abbrev s_good_word_X : Stmt := (top 8)
abbrev N_good_word_X : List Str := ["word", "field"]
theorem sc_good_word_X : FnScope N_good_word_X ["word", "field"] (defScope s_good_word_X) := ⟨rfl, rfl, rfl, by decide +kernel, rfl, by decide +kernel, by decide +kernel⟩
theorem cl_good_word_X (T : Bl mg) (Z : EcF P K mg c_StoreError c_InvalidInput c_NoPlace) (D : DfG K mg "good_word" s_good_word_X [] [])  : ClG (L2.CX P w) P w K mg base 3 "good_word" s_good_word_X ["word", "field"] [] [] (spGw c_InvalidInput) := by
  have nd := sc_good_word_X.nd
  refine D.ok sc_good_word_X (fun vs H Q E h => ?_) (fun f cdv A outer s H vs Q E hr h => ?_)
  · obtain ⟨z, f, rfl, _⟩ := h
    rfl
  · obtain ⟨z, f, rfl, ⟨hz, hf2⟩, k, k2⟩ := h
    have hu := hu64 hr
    refine ⟨_, (pss_one (ps_if (PW.pt (pw_or (pt_val (pe_bmK (K := K) (by rfl) PySem.F.plainAttrs_str PySem.F.slot_str_startswith PySem.F.type_str_startswith mtStarts (pv 0) (pa_cons pe_str pa_nil))) (pw_or1 (pt_cmpR (opNeK (K := K) (by rfl) (by exact hu)) (pe_bmK (K := K) (by rfl) PySem.F.plainAttrs_str PySem.F.slot_str_strip PySem.F.type_str_strip mtStripC (pv 0) (pa_cons pe_str pa_nil)) pe_str (nomark _)))))
      (pss_one (ps_raise rfl takesX (pmk1 (ex_InvalidInput Z.d_InvalidInput) (by exact hr.mono (by decide)) rfl (pa_cons (pv 1) pa_nil))))
      pss_nil)), ?_⟩
    try dsimp only [L2.cxOf, L2.Cx.nox]
    simp only [L2.start, N_good_word_X, List.map_cons, List.map_nil, List.length_cons, List.length_nil, Nat.reduceAdd, Nat.reduceSub, List.replicate_succ, List.replicate_zero, List.cons_append, List.nil_append]

    have hf : FmtV (.str f) := .inl ⟨f, rfl, hf2⟩
    rcases str_or z with ⟨l, rfl⟩ | ⟨c, hc, h0, h1⟩
    · rw [tx_len] at hz
      have hbad : (l.take ([false] : List Bool).length == [false]) = true → ¬ Good (tx l) := fun h => by
        rintro ⟨m, e, hm⟩
        have := tx_inj e
        subst this
        cases l with
        | nil => cases h
        | cons b r =>
          cases b
          · exact hm rfl
          · cases h
      have hok : (l.take ([false] : List Bool).length == [false]) = false → Good (tx l) := fun h => ⟨l, rfl, fun y => by
        cases l with
        | nil => cases y
        | cons b r =>
          cases y
          cases h⟩
      cases hb : (l.take ([false] : List Bool).length == [false]) with
      | true =>
        have hb2 := hbad hb
        walk_at "go"
        rw [hb]
        walk_at "go"
        rename_i d H1 n1 e1 h1
        exact k2 hb2 _ _ n1 e1 h1
      | false =>
        have hb2 := hok hb
        walk_at "go"
        rw [hb]
        walk_at "go"
        exact k hb2
    · have hg : ¬ Good z := by
        rintro ⟨m, rfl, _⟩
        rw [tx_list] at hc
        obtain ⟨b, _, rfl⟩ := List.mem_map.mp hc
        cases b
        · exact h0 rfl
        · exact h1 rfl
      have hs := strip_bad hc h0 h1
      walk_at "go"
      refine ⟨z, tx [false], rfl, rfl, ?_⟩
      cases Txt.startswith z (tx [false]) with
      | true =>
        walk_at "go"
        rename_i d H1 n1 e1 h1
        exact k2 hg _ _ n1 e1 h1
      | false =>
        walk_at "go"
        refine ⟨z, tx [false, true], rfl, rfl, Nat.le_trans hz (by decide), ?_⟩
        walk_at "go"
        refine Gx.g_iteN (fun _ => ?_) (fun h => absurd h hs)
        walk_at "go"
        rename_i d H1 n1 e1 h1
        exact k2 hg _ _ n1 e1 h1
local macro_rules | `(tactic| walk_at "call") => `(tactic| first
  | ((with_reducible show spAtlX _ _ _ _ _); refine ⟨_, _, _, rfl, by decide +kernel, fun hA => ?_, fun hA d_ H_ np_ e_ hp_ => ?_⟩)
  | ((with_reducible show spAtmX _ _ _ _ _); refine ⟨_, _, _, rfl, by decide +kernel, fun hA => ?_, fun hA d_ H_ np_ e_ hp_ => ?_⟩)
  | ((with_reducible show spGw _ _ _ _ _); refine ⟨_, _, rfl, ⟨by assumption, by decide +kernel⟩, fun hA => ?_, fun hA d_ H_ np_ e_ hp_ => ?_⟩))
theorem g_lenS {K : PySem.W.Frag} {H : Hp} {Q : VK} {z : Str} (h : z.length ≤ 100000) (q : Q (.int (z.length : Nat)) H) : Gx.rLen K [.str z] H Q := Gx.g_len (Gx.len_s h) q


/-! words: put steps, plainly -/
def trimW (l : List Bool) : List Bool := l.dropWhile (! ·)
def carW (n : Nat) (l : List Bool) : List Bool := if l = [] ∨ n ≤ l.length then l else trimW (l.drop 1 ++ [true])
def carN (n : Nat) : Nat → List Bool → List Bool
  | 0, l => l
  | k + 1, l => carN n k (carW n l)
theorem carN_fix {n : Nat} {l : List Bool} (h : carW n l = l) : ∀ k, carN n k l = l
  | 0 => rfl
  | k + 1 => by rw [carN, h, carN_fix h k]
theorem trim_len (l : List Bool) : (trimW l).length ≤ l.length := by
  unfold trimW
  rw [← Gx.drop_tw, List.length_drop]
  omega
theorem car_len (n : Nat) (l : List Bool) : (carW n l).length ≤ max l.length 1 := by
  unfold carW
  split
  · omega
  · have := trim_len (l.drop 1 ++ [true])
    simp only [List.length_append, List.length_drop, List.length_cons, List.length_nil] at this
    rename_i h
    have : l.length ≠ 0 := fun z => h (.inl (List.length_eq_zero_iff.mp z))
    omega
/-- the place of the index-th one -/
def placeW (l : List Bool) (i : Nat) : Nat := l.length - ((dep l).getD i 0).toNat
def relW (l : List Bool) (i : Nat) : List Bool := trimW (l.take (placeW l i) ++ [false] ++ l.drop (placeW l i + 1))
theorem head_trim (l : List Bool) : (trimW l).head? ≠ some false := dw_head l
theorem wd_trim {l : List Bool} (h : l.length ≤ 64) : Wd (trimW l) := ⟨Nat.le_trans (trim_len l) h, head_trim l⟩
theorem wd_car {n : Nat} {l : List Bool} (h : Wd l) : Wd (carW n l) := by
  refine ⟨?_, ?_⟩
  · by_cases z : l = []
    · subst z; simp [carW]
    · have h1 := car_len n l
      have h2 := h.1
      have : l.length ≠ 0 := fun y => z (List.length_eq_zero_iff.mp y)
      omega
  · unfold carW
    split
    · exact h.2
    · exact head_trim _
def spRel : Sp := fun vs H Q _ => ∃ (l : List Bool) (i : Nat), vs = [.str (tx l), .int (i : Nat)] ∧ (l.length ≤ 100 ∧ i < l.count true) ∧ ∀ H', Ex H H' → Q (.str (tx (relW l i))) H'
def spRelN : Sp := fun vs H Q _ => ∃ (l : List Bool) (v : V), vs = [.str (tx l), v] ∧ l.length ≤ 100 ∧ ((v = .non ∧ ∀ H', Ex H H' → Q (.str (tx l)) H') ∨ ∃ i : Nat, v = .int (i : Nat) ∧ i < l.count true ∧ ∀ H', Ex H H' → Q (.str (tx (relW l i))) H')
abbrev s_released : Stmt := (top 26)
abbrev N_released : List Str := ["word", "index", "place"]
theorem sc_released : FnScope N_released ["word", "index"] (defScope s_released) := ⟨rfl, rfl, rfl, by decide +kernel, rfl, by decide +kernel, by decide +kernel⟩
theorem cl_released (T : Bl mg) (Z : EcF P K mg c_StoreError c_InvalidInput c_NoPlace) (D : DfG K mg "_released" s_released [] []) (C_trimmed : ClG CX0 P w K mg base 3 "_trimmed" s_trimmed ["text"] [] [] spTrim) (C_depth_list : ClG CX0 P w K mg base 3 "_depth_list" s_depth_list ["word"] [] [] spDeps) : ClG CX0 P w K mg base 5 "_released" s_released ["word", "index"] [] [] spRelN := by
  have nd := sc_released.nd
  refine D.okP sc_released (fun vs H Q E h => ?_) (fun f cdv A outer s H vs Q E hr h => ?_)
  · obtain ⟨l, v, rfl, _⟩ := h
    rfl
  · obtain ⟨l, v, rfl, hl, k⟩ := h
    have hu := hu64 hr
    refine ⟨_, (pss_cons (ps_if (pt_cmpR opIsN (pv 1) pe_non (nomark _))
      (pss_one (ps_ret (pv 0)))
      pss_nil)
    (pss_cons (ps_set (i := 2) nd rfl (Or.inl rfl) (pe_op opSub (pe_callB (callLenK (K := K) (by rfl)) (by rfl) T.len (by decide +kernel) (pa_cons (pv 0) pa_nil)) (pe_ix (ixSeqK (K := K) (by rfl)) (pe_g C_depth_list (by exact hr.mono (by decide)) (E := fun _ => E0) (fun σ => passC0 σ) (fun _ _ _ _ _ _ us hl => match us, hl with | [_], _ => rfl) (pa_cons (pv 0) pa_nil)) (pv 1) (fun _ _ => rfl))))
    (pss_one (ps_ret (pe_g C_trimmed (by exact hr.mono (by decide)) (E := fun _ => E0) (fun σ => passC0 σ) (fun _ _ _ _ _ _ us hl => match us, hl with | [_], _ => rfl) (pa_cons (pe_op (opAddK (K := K) (by rfl)) (pe_op (opAddK (K := K) (by rfl)) (pe_slice (slAnyK (K := K) (by rfl)) (pv 0) po_none (po_some (pv 2))) pe_str) (pe_slice (slAnyK (K := K) (by rfl)) (pv 0) (po_some (pe_op (opAddK (K := K) (by rfl)) (pv 2) pe_int)) po_none)) pa_nil)))))), ?_⟩
    try dsimp only [L2.cxOf, L2.Cx.nox]
    simp only [L2.start, N_released, List.map_cons, List.map_nil, List.length_cons, List.length_nil, Nat.reduceAdd, Nat.reduceSub, List.replicate_succ, List.replicate_zero, List.cons_append, List.nil_append]

    have hdl := dep_len l
    rcases k with ⟨rfl, k⟩ | ⟨i, rfl, hi, k⟩
    · walk_at "gos"
      exact k _ Gx.rel
    ·
      have hm : (dep l).getD i 0 ∈ dep l := Gx.getD_mem (by omega)
      have hb := dep_le l _ hm
      obtain ⟨p, hp⟩ : ∃ p : Nat, (p : Int) = (l.length : Int) - (dep l).getD i 0 := ⟨((l.length : Int) - (dep l).getD i 0).toNat, by omega⟩
      have epl : placeW l i = p := by unfold placeW; omega
      walk_at "gos"
      rw [← hp]
      walk_at "gos"
      rw [show ((p : Nat) : Int) + 1 = ((p + 1 : Nat) : Int) from by omega, Gx.cutB_to, Gx.cutB_from]
      rw [← epl]
      exact k _ Gx.rel
local macro_rules | `(tactic| walk_at "call") => `(tactic| ((with_reducible show spRelN _ _ _ _); first
  | (refine ⟨_, _, rfl, by walk_at "szt", .inl ⟨rfl, ?_⟩⟩; intro H_ e_)
  | (refine ⟨_, _, rfl, by walk_at "szt", .inr ⟨_, rfl, by assumption, ?_⟩⟩; intro H_ e_)))
def spCar : Sp := fun vs H Q _ => ∃ (l : List Bool) (n : Nat), vs = [.str (tx l), .int (n : Nat)] ∧ l.length ≤ 100 ∧ Q (.str (tx (carW n l))) H
abbrev s_carried : Stmt := (top 27)
abbrev N_carried : List Str := ["word", "places"]
theorem sc_carried : FnScope N_carried ["word", "places"] (defScope s_carried) := ⟨rfl, rfl, rfl, by decide +kernel, rfl, by decide +kernel, by decide +kernel⟩
theorem cl_carried (T : Bl mg) (Z : EcF P K mg c_StoreError c_InvalidInput c_NoPlace) (D : DfG K mg "_carried" s_carried [] []) (C_trimmed : ClG CX0 P w K mg base 3 "_trimmed" s_trimmed ["text"] [] [] spTrim) : ClG CX0 P w K mg base 5 "_carried" s_carried ["word", "places"] [] [] spCar := by
  have nd := sc_carried.nd
  refine D.okP sc_carried (fun vs H Q E h => ?_) (fun f cdv A outer s H vs Q E hr h => ?_)
  · obtain ⟨l, n, rfl, _⟩ := h
    rfl
  · obtain ⟨l, n, rfl, hl, k⟩ := h
    have hu := hu64 hr
    refine ⟨_, (pss_cons (ps_if (PW.pt (pw_or (pt_cmpR (opEqK (K := K) (by rfl) (by exact hu)) (pv 0) pe_str (nomark _)) (pw_or1 (pt_cmpR opGe (pe_callB (callLenK (K := K) (by rfl)) (by rfl) T.len (by decide +kernel) (pa_cons (pv 0) pa_nil)) (pv 1) (nomark _)))))
      (pss_one (ps_ret (pv 0)))
      pss_nil)
    (pss_one (ps_ret (pe_g C_trimmed (by exact hr.mono (by decide)) (E := fun _ => E0) (fun σ => passC0 σ) (fun _ _ _ _ _ _ us hl => match us, hl with | [_], _ => rfl) (pa_cons (pe_op (opAddK (K := K) (by rfl)) (pe_slice (slAnyK (K := K) (by rfl)) (pv 0) (po_some pe_int) po_none) pe_str) pa_nil))))), ?_⟩
    try dsimp only [L2.cxOf, L2.Cx.nox]
    simp only [L2.start, N_carried, List.map_cons, List.map_nil, List.length_cons, List.length_nil, Nat.reduceAdd, Nat.reduceSub, List.replicate_succ, List.replicate_zero, List.cons_append, List.nil_append]

    walk_at "gos"
    · rename_i h
      rw [show carW n l = l from if_pos (.inl h)] at k
      exact k
    · rename_i h
      rw [show carW n l = l from if_pos (.inr (by omega))] at k
      exact k
    · rename_i h1 h2
      rw [Gx.cutB_1]
      rw [show carW n l = trimW (l.drop 1 ++ [true]) from if_neg (fun z => z.elim h1 (fun z => h2 (by omega)))] at k
      exact k
local macro_rules | `(tactic| walk_at "call") => `(tactic| ((with_reducible show spCar _ _ _ _); refine ⟨_, _, rfl, by walk_at "szt", ?_⟩))
def spCarN : Sp := fun vs H Q _ => ∃ (l : List Bool) (c n : Nat), vs = [.str (tx l), .int (c : Nat), .int (n : Nat)] ∧ (l.length ≤ 99 ∧ c < 2 ^ 60) ∧ ∀ H', Ex H H' → Q (.str (tx (carN n c l))) H'
theorem carN_len (n : Nat) : ∀ (k : Nat) (l : List Bool), (carN n k l).length ≤ max l.length 1
  | 0, l => by show l.length ≤ _; omega
  | k + 1, l => by
    have := carN_len n k (carW n l)
    have := car_len n l
    rw [carN]
    omega
theorem carN_add (n : Nat) : ∀ (a b : Nat) (l : List Bool), carN n (a + b) l = carN n b (carN n a l)
  | 0, b, l => by rw [Nat.zero_add]; rfl
  | a + 1, b, l => by rw [Nat.succ_add, carN, carN, carN_add n a b]
abbrev s_carried_often : Stmt := (top 28)
abbrev N_carried_often : List Str := ["word", "count", "places", "current", "_", "moved"]
theorem sc_carried_often : FnScope N_carried_often ["word", "count", "places"] (defScope s_carried_often) := ⟨rfl, rfl, rfl, by decide +kernel, rfl, by decide +kernel, by decide +kernel⟩
theorem cl_carried_often (T : Bl mg) (Z : EcF P K mg c_StoreError c_InvalidInput c_NoPlace) (D : DfG K mg "_carried_often" s_carried_often [] []) (C_carried : ClG CX0 P w K mg base 5 "_carried" s_carried ["word", "places"] [] [] spCar) : ClG CX0 P w K mg base 7 "_carried_often" s_carried_often ["word", "count", "places"] [] [] spCarN := by
  have nd := sc_carried_often.nd
  refine D.okP sc_carried_often (fun vs H Q E h => ?_) (fun f cdv A outer s H vs Q E hr h => ?_)
  · obtain ⟨l, c, n, rfl, _⟩ := h
    rfl
  · obtain ⟨l, c, n, rfl, ⟨hl, hc⟩, k⟩ := h
    have hu := hu64 hr
    refine ⟨_, (pss_cons (ps_set (i := 3) nd rfl (Or.inl rfl) (pv 0))
    (pss_cons (ps_for PassesOwn.never rfl (pi_range1 rfl T.range (pa_cons (pv 1) pa_nil)) (pg_name (i := 4) nd rfl (Or.inl rfl))
      (pss_cons (ps_set (i := 5) nd rfl (Or.inl rfl) (pe_g C_carried (by exact hr.mono (by decide)) (E := fun _ => E0) (fun σ => passC0 σ) (fun _ _ _ _ _ _ us hl => match us, hl with | [_, _], _ => rfl) (pa_cons (pv 3) (pa_cons (pv 2) pa_nil))))
    (pss_cons (ps_if (pt_cmpR (opEqK (K := K) (by rfl) (by exact hu)) (pv 5) (pv 3) (nomark _))
      (pss_one (ps_ret (pv 3)))
      pss_nil)
    (pss_one (ps_set (i := 3) nd rfl (Or.inl rfl) (pv 5))))))
    (pss_one (ps_ret (pv 3))))), ?_⟩
    try dsimp only [L2.cxOf, L2.Cx.nox]
    simp only [L2.start, N_carried_often, List.map_cons, List.map_nil, List.length_cons, List.length_nil, Nat.reduceAdd, Nat.reduceSub, List.replicate_succ, List.replicate_zero, List.cons_append, List.nil_append]

    walk_at "gos"
    refine Gx.for1 [] (fun i σ' H' => ∃ s4 s5, σ' = [some (.str (tx l)), some (.int (c : Nat)), some (.int (n : Nat)), some (.str (tx (carN n i l))), s4, s5]) (by omega) ⟨_, _, rfl⟩ ?_ ?_
    · rintro i σ' H' hi e ⟨s4, s5, rfl⟩
      have hlen := carN_len n i l
      have hs : carW n (carN n i l) = carN n (i + 1) l := by rw [carN_add]; rfl
      walk_at "gos"
      · rename_i h
        have hf := carN_fix h (c - i)
        rw [← carN_add, show i + (c - i) = c from by omega] at hf
        rw [← hf]
        exact k _ Gx.rel
      · rw [hs]
        exact Gx.li ⟨_, _, rfl⟩
    · rintro σ' H' e ⟨s4, s5, rfl⟩
      walk_at "gos"
      exact k _ Gx.rel
local macro_rules | `(tactic| walk_at "call") => `(tactic| ((with_reducible show spCarN _ _ _ _); refine ⟨_, _, _, rfl, ⟨by omega, by omega⟩, ?_⟩; intro H_ e_))
def spApp (cN : Addr) : Sp := fun vs H Q E => ∃ (l r : List Bool) (n : Nat), vs = [.str (tx l), .int (n : Nat), .str (tx r)] ∧ (l.length ≤ 99 ∧ r.length = 1) ∧ (l.length < n → Q (.str (tx (trimW (l ++ r)))) H) ∧ (¬ l.length < n → ∀ d H', Nw H d → Ex H H' → At H' d (.xd [("length", .int (l.length : Nat))]) → E (.ref cN) (some d) H')
abbrev s_appended : Stmt := (top 29)
abbrev N_appended : List Str := ["word", "places", "record"]
theorem sc_appended : FnScope N_appended ["word", "places", "record"] (defScope s_appended) := ⟨rfl, rfl, rfl, by decide +kernel, rfl, by decide +kernel, by decide +kernel⟩
theorem cl_appended (T : Bl mg) (Z : EcF P K mg c_StoreError c_InvalidInput c_NoPlace) (D : DfG K mg "_appended" s_appended [] []) (C_trimmed : ClG CX0 P w K mg base 3 "_trimmed" s_trimmed ["text"] [] [] spTrim) : ClG (L2.CX P w) P w K mg base 5 "_appended" s_appended ["word", "places", "record"] [] [] (spApp c_NoPlace) := by
  have nd := sc_appended.nd
  refine D.ok sc_appended (fun vs H Q E h => ?_) (fun f cdv A outer s H vs Q E hr h => ?_)
  · obtain ⟨l, r, n, rfl, _⟩ := h
    rfl
  · obtain ⟨l, r, n, rfl, ⟨hl, hrr⟩, k, k2⟩ := h
    have hu := hu64 hr
    refine ⟨_, (pss_cons (ps_if (pt_cmpR opGe (pe_callB (callLenK (K := K) (by rfl)) (by rfl) T.len (by decide +kernel) (pa_cons (pv 0) pa_nil)) (pv 1) (nomark _))
      (pss_one (ps_raise rfl takesX (pmk1 (ex_NoPlace Z.d_NoPlace) (by exact hr.mono (by decide)) rfl (pa_cons (pe_callB (callLenK (K := K) (by rfl)) (by rfl) T.len (by decide +kernel) (pa_cons (pv 0) pa_nil)) pa_nil))))
      pss_nil)
    (pss_one (ps_ret (pe_g C_trimmed (by exact hr.mono (by decide)) (E := fun _ => E0) (fun σ => passC0 σ) (fun _ _ _ _ _ _ us hl => match us, hl with | [_], _ => rfl) (pa_cons (pe_op (opAddK (K := K) (by rfl)) (pv 0) (pv 2)) pa_nil))))), ?_⟩
    try dsimp only [L2.cxOf, L2.Cx.nox]
    simp only [L2.start, N_appended, List.map_cons, List.map_nil, List.length_cons, List.length_nil, Nat.reduceAdd, Nat.reduceSub, List.replicate_succ, List.replicate_zero, List.cons_append, List.nil_append]

    walk_at "gos"
    · rename_i h _ _ _ _ _
      exact k2 (by omega) _ _ ‹_› Gx.rel Gx.at_
    · exact k (by omega)
local macro_rules | `(tactic| walk_at "call") => `(tactic| ((with_reducible show spApp _ _ _ _ _); refine ⟨_, _, _, rfl, ⟨by omega, by first | rfl | assumption⟩, fun hA => ?_, fun hA d_ H_ np_ e_ hp_ => ?_⟩))
def spRelease : Sp := fun vs H Q _ => ∃ (l : List Bool) (i : Int), vs = [.str (tx l), .int i] ∧ (Wd l ∧ 0 ≤ i ∧ i < (l.count true : Nat)) ∧ ∀ H', Ex H H' → Q (.str (tx (relW l i.toNat))) H'
def spCarry : Sp := fun vs H Q _ => ∃ (l : List Bool) (n : Nat), vs = [.str (tx l), .int (n : Nat)] ∧ (Wd l ∧ 1 ≤ n ∧ l.length ≤ n) ∧ Q (.str (tx (carW n l))) H
def spCarries : Sp := fun vs H Q _ => ∃ (l : List Bool) (c n : Nat), vs = [.str (tx l), .int (c : Nat), .int (n : Nat)] ∧ (Wd l ∧ c < 2 ^ 60 ∧ 1 ≤ n ∧ l.length ≤ n) ∧ ∀ H', Ex H H' → Q (.str (tx (carN n c l))) H'
abbrev s_release : Stmt := (top 14)
abbrev N_release : List Str := ["word", "index"]
theorem sc_release : FnScope N_release ["word", "index"] (defScope s_release) := ⟨rfl, rfl, rfl, by decide +kernel, rfl, by decide +kernel, by decide +kernel⟩
theorem cl_release (T : Bl mg) (Z : EcF P K mg c_StoreError c_InvalidInput c_NoPlace) (D : DfG K mg "release" s_release [] []) (C_released : ClG CX0 P w K mg base 5 "_released" s_released ["word", "index"] [] [] spRelN) (C_at_most : ClG CX0 P w K mg base 3 "at_most" s_at_most ["value", "most", "field"] [] [] spAtMost) (C_ones : ClG CX0 P w K mg base 3 "_ones" s_ones ["word"] [] [] spOnes) (C_at_least : ClG CX0 P w K mg base 3 "at_least" s_at_least ["value", "least", "field"] [] [] spAtLeast) (C_good_word : ClG CX0 P w K mg base 3 "good_word" s_good_word ["word", "field"] [] [] spGood) : ClG CX0 P w K mg base 7 "release" s_release ["word", "index"] [] [] spRelease := by
  have nd := sc_release.nd
  refine D.okP sc_release (fun vs H Q E h => ?_) (fun f cdv A outer s H vs Q E hr h => ?_)
  · obtain ⟨l, i, rfl, _⟩ := h
    rfl
  · obtain ⟨l, i, rfl, ⟨h, h0, h1⟩, k⟩ := h
    have hu := hu64 hr
    refine ⟨_, (pss_cons (ps_expr (pe_g C_good_word (by exact hr.mono (by decide)) (E := fun _ => E0) (fun σ => passC0 σ) (fun _ _ _ _ _ _ us hl => match us, hl with | [_, _], _ => rfl) (pa_cons (pv 0) (pa_cons pe_str pa_nil))))
    (pss_cons (ps_expr (pe_g C_at_least (by exact hr.mono (by decide)) (E := fun _ => E0) (fun σ => passC0 σ) (fun _ _ _ _ _ _ us hl => match us, hl with | [_, _, _], _ => rfl) (pa_cons (pv 1) (pa_cons pe_int (pa_cons pe_str pa_nil)))))
    (pss_cons (ps_expr (pe_g C_at_most (by exact hr.mono (by decide)) (E := fun _ => E0) (fun σ => passC0 σ) (fun _ _ _ _ _ _ us hl => match us, hl with | [_, _, _], _ => rfl) (pa_cons (pv 1) (pa_cons (pe_op opSub (pe_g C_ones (by exact hr.mono (by decide)) (E := fun _ => E0) (fun σ => passC0 σ) (fun _ _ _ _ _ _ us hl => match us, hl with | [_], _ => rfl) (pa_cons (pv 0) pa_nil)) pe_int) (pa_cons pe_str pa_nil)))))
    (pss_one (ps_ret (pe_g C_released (by exact hr.mono (by decide)) (E := fun _ => E0) (fun σ => passC0 σ) (fun _ _ _ _ _ _ us hl => match us, hl with | [_, _], _ => rfl) (pa_cons (pv 0) (pa_cons (pv 1) pa_nil)))))))), ?_⟩
    try dsimp only [L2.cxOf, L2.Cx.nox]
    simp only [L2.start, N_release, List.map_cons, List.map_nil, List.length_cons, List.length_nil, Nat.reduceAdd, Nat.reduceSub, List.replicate_succ, List.replicate_zero, List.cons_append, List.nil_append]

    have hl := h.1
    obtain ⟨i, rfl⟩ : ∃ j : Nat, i = j := ⟨i.toNat, by omega⟩
    have hi : i < l.count true := by omega
    walk_at "gos"
    exact k _ Gx.rel
abbrev s_carry : Stmt := (top 15)
abbrev N_carry : List Str := ["word", "places"]
theorem sc_carry : FnScope N_carry ["word", "places"] (defScope s_carry) := ⟨rfl, rfl, rfl, by decide +kernel, rfl, by decide +kernel, by decide +kernel⟩
theorem cl_carry (T : Bl mg) (Z : EcF P K mg c_StoreError c_InvalidInput c_NoPlace) (D : DfG K mg "carry" s_carry [] []) (C_carried : ClG CX0 P w K mg base 5 "_carried" s_carried ["word", "places"] [] [] spCar) (C_at_least : ClG CX0 P w K mg base 3 "at_least" s_at_least ["value", "least", "field"] [] [] spAtLeast) (C_good_word : ClG CX0 P w K mg base 3 "good_word" s_good_word ["word", "field"] [] [] spGood) : ClG CX0 P w K mg base 7 "carry" s_carry ["word", "places"] [] [] spCarry := by
  have nd := sc_carry.nd
  refine D.okP sc_carry (fun vs H Q E h => ?_) (fun f cdv A outer s H vs Q E hr h => ?_)
  · obtain ⟨l, n, rfl, _⟩ := h
    rfl
  · obtain ⟨l, n, rfl, ⟨h, h0, h1⟩, k⟩ := h
    have hu := hu64 hr
    refine ⟨_, (pss_cons (ps_expr (pe_g C_good_word (by exact hr.mono (by decide)) (E := fun _ => E0) (fun σ => passC0 σ) (fun _ _ _ _ _ _ us hl => match us, hl with | [_, _], _ => rfl) (pa_cons (pv 0) (pa_cons pe_str pa_nil))))
    (pss_cons (ps_expr (pe_g C_at_least (by exact hr.mono (by decide)) (E := fun _ => E0) (fun σ => passC0 σ) (fun _ _ _ _ _ _ us hl => match us, hl with | [_, _, _], _ => rfl) (pa_cons (pv 1) (pa_cons pe_int (pa_cons pe_str pa_nil)))))
    (pss_cons (ps_expr (pe_g C_at_least (by exact hr.mono (by decide)) (E := fun _ => E0) (fun σ => passC0 σ) (fun _ _ _ _ _ _ us hl => match us, hl with | [_, _, _], _ => rfl) (pa_cons (pv 1) (pa_cons (pe_callB (callLenK (K := K) (by rfl)) (by rfl) T.len (by decide +kernel) (pa_cons (pv 0) pa_nil)) (pa_cons pe_str pa_nil)))))
    (pss_one (ps_ret (pe_g C_carried (by exact hr.mono (by decide)) (E := fun _ => E0) (fun σ => passC0 σ) (fun _ _ _ _ _ _ us hl => match us, hl with | [_, _], _ => rfl) (pa_cons (pv 0) (pa_cons (pv 1) pa_nil)))))))), ?_⟩
    try dsimp only [L2.cxOf, L2.Cx.nox]
    simp only [L2.start, N_carry, List.map_cons, List.map_nil, List.length_cons, List.length_nil, Nat.reduceAdd, Nat.reduceSub, List.replicate_succ, List.replicate_zero, List.cons_append, List.nil_append]

    have hl := h.1
    walk_at "gos"
    exact k
abbrev s_carries : Stmt := (top 16)
abbrev N_carries : List Str := ["word", "count", "places"]
theorem sc_carries : FnScope N_carries ["word", "count", "places"] (defScope s_carries) := ⟨rfl, rfl, rfl, by decide +kernel, rfl, by decide +kernel, by decide +kernel⟩
theorem cl_carries (T : Bl mg) (Z : EcF P K mg c_StoreError c_InvalidInput c_NoPlace) (D : DfG K mg "carries" s_carries [] []) (C_carried_often : ClG CX0 P w K mg base 7 "_carried_often" s_carried_often ["word", "count", "places"] [] [] spCarN) (C_at_least : ClG CX0 P w K mg base 3 "at_least" s_at_least ["value", "least", "field"] [] [] spAtLeast) (C_good_word : ClG CX0 P w K mg base 3 "good_word" s_good_word ["word", "field"] [] [] spGood) : ClG CX0 P w K mg base 9 "carries" s_carries ["word", "count", "places"] [] [] spCarries := by
  have nd := sc_carries.nd
  refine D.okP sc_carries (fun vs H Q E h => ?_) (fun f cdv A outer s H vs Q E hr h => ?_)
  · obtain ⟨l, c, n, rfl, _⟩ := h
    rfl
  · obtain ⟨l, c, n, rfl, ⟨h, h0, h1, h2⟩, k⟩ := h
    have hu := hu64 hr
    refine ⟨_, (pss_cons (ps_expr (pe_g C_good_word (by exact hr.mono (by decide)) (E := fun _ => E0) (fun σ => passC0 σ) (fun _ _ _ _ _ _ us hl => match us, hl with | [_, _], _ => rfl) (pa_cons (pv 0) (pa_cons pe_str pa_nil))))
    (pss_cons (ps_expr (pe_g C_at_least (by exact hr.mono (by decide)) (E := fun _ => E0) (fun σ => passC0 σ) (fun _ _ _ _ _ _ us hl => match us, hl with | [_, _, _], _ => rfl) (pa_cons (pv 1) (pa_cons pe_int (pa_cons pe_str pa_nil)))))
    (pss_cons (ps_expr (pe_g C_at_least (by exact hr.mono (by decide)) (E := fun _ => E0) (fun σ => passC0 σ) (fun _ _ _ _ _ _ us hl => match us, hl with | [_, _, _], _ => rfl) (pa_cons (pv 2) (pa_cons pe_int (pa_cons pe_str pa_nil)))))
    (pss_cons (ps_expr (pe_g C_at_least (by exact hr.mono (by decide)) (E := fun _ => E0) (fun σ => passC0 σ) (fun _ _ _ _ _ _ us hl => match us, hl with | [_, _, _], _ => rfl) (pa_cons (pv 2) (pa_cons (pe_callB (callLenK (K := K) (by rfl)) (by rfl) T.len (by decide +kernel) (pa_cons (pv 0) pa_nil)) (pa_cons pe_str pa_nil)))))
    (pss_one (ps_ret (pe_g C_carried_often (by exact hr.mono (by decide)) (E := fun _ => E0) (fun σ => passC0 σ) (fun _ _ _ _ _ _ us hl => match us, hl with | [_, _, _], _ => rfl) (pa_cons (pv 0) (pa_cons (pv 1) (pa_cons (pv 2) pa_nil)))))))))), ?_⟩
    try dsimp only [L2.cxOf, L2.Cx.nox]
    simp only [L2.start, N_carries, List.map_cons, List.map_nil, List.length_cons, List.length_nil, Nat.reduceAdd, Nat.reduceSub, List.replicate_succ, List.replicate_zero, List.cons_append, List.nil_append]

    have hl := h.1
    walk_at "gos"
    exact k _ Gx.rel
def spAppR (cN : Addr) : Sp := fun vs H Q E => ∃ (l : List Bool) (b : Bool) (n : Nat), vs = [.str (tx l), .int (n : Nat), .str (tx [b])] ∧ (Wd l ∧ 1 ≤ n ∧ l.length ≤ n) ∧ (l.length < n → ∀ H', Ex H H' → Q (.str (tx (trimW (l ++ [b])))) H') ∧ (¬ l.length < n → ∀ d H', Nw H d → Ex H H' → At H' d (.xd [("length", .int (l.length : Nat))]) → E (.ref cN) (some d) H')
abbrev s_append_record : Stmt := (top 17)
abbrev N_append_record : List Str := ["word", "places", "record"]
theorem sc_append_record : FnScope N_append_record ["word", "places", "record"] (defScope s_append_record) := ⟨rfl, rfl, rfl, by decide +kernel, rfl, by decide +kernel, by decide +kernel⟩
theorem cl_append_record (T : Bl mg) (Z : EcF P K mg c_StoreError c_InvalidInput c_NoPlace) (D : DfG K mg "append_record" s_append_record [.str "1"] []) (C_appended : ClG (L2.CX P w) P w K mg base 5 "_appended" s_appended ["word", "places", "record"] [] [] (spApp c_NoPlace)) (C_at_least : ClG CX0 P w K mg base 3 "at_least" s_at_least ["value", "least", "field"] [] [] spAtLeast) (C_good_word : ClG CX0 P w K mg base 3 "good_word" s_good_word ["word", "field"] [] [] spGood) : ClG (L2.CX P w) P w K mg base 7 "append_record" s_append_record ["word", "places", "record"] [.str "1"] [] (spAppR c_NoPlace) := by
  have nd := sc_append_record.nd
  refine D.ok sc_append_record (fun vs H Q E h => ?_) (fun f cdv A outer s H vs Q E hr h => ?_)
  · obtain ⟨l, b, n, rfl, _⟩ := h
    rfl
  · obtain ⟨l, b, n, rfl, ⟨h, h0, h1⟩, k, k2⟩ := h
    have hu := hu64 hr
    refine ⟨_, (pss_cons (ps_expr (pe_g C_good_word (by exact hr.mono (by decide)) (E := fun _ => E0) (fun σ => passC0 σ) (fun _ _ _ _ _ _ us hl => match us, hl with | [_, _], _ => rfl) (pa_cons (pv 0) (pa_cons pe_str pa_nil))))
    (pss_cons (ps_expr (pe_g C_at_least (by exact hr.mono (by decide)) (E := fun _ => E0) (fun σ => passC0 σ) (fun _ _ _ _ _ _ us hl => match us, hl with | [_, _, _], _ => rfl) (pa_cons (pv 1) (pa_cons pe_int (pa_cons pe_str pa_nil)))))
    (pss_cons (ps_if (pt_cmpR (opNotInK (K := K) (by rfl)) (pv 2) (pe_tup (pa_cons pe_str (pa_cons pe_str pa_nil))) (by rfl))
      (pss_one ps_never)
      pss_nil)
    (pss_cons (ps_expr (pe_g C_at_least (by exact hr.mono (by decide)) (E := fun _ => E0) (fun σ => passC0 σ) (fun _ _ _ _ _ _ us hl => match us, hl with | [_, _, _], _ => rfl) (pa_cons (pv 1) (pa_cons (pe_callB (callLenK (K := K) (by rfl)) (by rfl) T.len (by decide +kernel) (pa_cons (pv 0) pa_nil)) (pa_cons pe_str pa_nil)))))
    (pss_one (ps_ret (pe_g C_appended (by exact hr.mono (by decide)) (fun σ => passC takesX σ) (fun _ _ _ _ _ _ us hl => match us, hl with | [_, _, _], _ => rfl) (pa_cons (pv 0) (pa_cons (pv 1) (pa_cons (pv 2) pa_nil)))))))))), ?_⟩
    try dsimp only [L2.cxOf, L2.Cx.nox]
    simp only [L2.start, N_append_record, List.map_cons, List.map_nil, List.length_cons, List.length_nil, Nat.reduceAdd, Nat.reduceSub, List.replicate_succ, List.replicate_zero, List.cons_append, List.nil_append]

    have hl := h.1
    walk_at "gos"
    refine Gx.g_inT (b := true) rfl rfl (by cases b <;> decide +kernel) ?_
    walk_at "gos"
    · exact k (by assumption) _ Gx.rel
    · exact k2 (by assumption) _ _ Gx.new Gx.rel Gx.at_
local macro_rules | `(tactic| walk_at "call") => `(tactic| ((with_reducible show spAtMost _ _ _ _); refine ⟨_, _, _, rfl, by omega, ?_⟩))
/-- the release, if there is one -/
def relO (l : List Bool) : Option Nat → List Bool
  | none => l
  | some i => relW l i
/-- what step gives: none where no place is left -/
def stepW (l : List Bool) (o : Option Nat) (c n : Nat) (late : Bool) : Option (List Bool) :=
  if late = true then
    if l.length < n then
      some (carN n (min c ((relO (trimW (l ++ [true])) o).count true - 1)) (relO (trimW (l ++ [true])) o))
    else none
  else
    if (carN n (min c ((relO l o).count true)) (relO l o)).length < n then some (trimW (carN n (min c ((relO l o).count true)) (relO l o) ++ [true])) else none
def spStep (cN : Addr) : Sp := fun vs H Q E => ∃ (l : List Bool) (v : V) (o : Option Nat) (c n : Nat) (late : Bool), vs = [.str (tx l), v, .int (c : Nat), .int (n : Nat), .bl late] ∧ ((v = .non ∧ o = none) ∨ ∃ i : Nat, v = .int (i : Nat) ∧ o = some i ∧ i < l.count true) ∧ (Wd l ∧ 1 ≤ n ∧ l.length ≤ n ∧ n ≤ 65) ∧
  (∀ v, stepW l o c n late = some v → ∀ H', Ex H H' → Q (.str (tx v)) H') ∧ (stepW l o c n late = none → ∀ d H' (m : Nat), Nw H d → Ex H H' → m = n → At H' d (.xd [("length", .int (m : Nat))]) → E (.ref cN) (some d) H')
theorem rel_len {l : List Bool} {i : Nat} (hi : i < l.count true) : (relW l i).length ≤ l.length := by
  have hdl := dep_len l
  have hm : (dep l).getD i 0 ∈ dep l := Gx.getD_mem (by omega)
  have hb := dep_le l _ hm
  have h1 := trim_len (l.take (placeW l i) ++ [false] ++ l.drop (placeW l i + 1))
  simp only [List.length_append, List.length_take, List.length_drop, List.length_cons, List.length_nil] at h1
  have h2 : placeW l i < l.length := by unfold placeW; omega
  unfold relW
  omega
theorem cnt_le (l : List Bool) : l.count true ≤ l.length := List.count_le_length
theorem minI {a b : Nat} : (if (b : Int) < (a : Int) then (b : Int) else (a : Int)) = ((min a b : Nat) : Int) := by
  split <;> omega
theorem trim_cnt (l : List Bool) : (trimW l).count true = l.count true := by
  induction l with
  | nil => rfl
  | cons a l ih => cases a with
    | false => rw [show trimW (false :: l) = trimW l from rfl, ih]; rfl
    | true => rfl
theorem add1_cnt (l : List Bool) : (trimW (l ++ [true])).count true = l.count true + 1 := by
  rw [trim_cnt, List.count_append]; rfl
theorem add1_len (l : List Bool) : (trimW (l ++ [true])).length ≤ l.length + 1 := by
  have := trim_len (l ++ [true])
  rw [List.length_append] at this
  exact this
/-- the index-th one struck out -/
def clr : List Bool → Nat → List Bool
  | [], _ => []
  | true :: r, 0 => false :: r
  | true :: r, i + 1 => true :: clr r i
  | false :: r, i => false :: clr r i
theorem place_at {l : List Bool} {i : Nat} (hi : i < l.count true) : 1 ≤ (dep l).getD i 0 ∧ (dep l).getD i 0 ≤ l.length :=
  dep_le l _ (Gx.getD_mem (by have := dep_len l; omega))
theorem clr_eq : ∀ {l : List Bool} {i : Nat}, i < l.count true → l.take (placeW l i) ++ [false] ++ l.drop (placeW l i + 1) = clr l i
  | [], i, h => absurd h (by simp)
  | true :: r, 0, h => by
    have e : placeW (true :: r) 0 = 0 := by
      unfold placeW
      rw [dep_cons]
      simp
    rw [e]
    rfl
  | true :: r, i + 1, h => by
    have h' : i < r.count true := by simpa using h
    have e : placeW (true :: r) (i + 1) = placeW r i + 1 := by
      have := place_at h'
      unfold placeW
      rw [dep_cons]
      simp
      simp at this
      omega
    rw [e, show clr (true :: r) (i + 1) = true :: clr r i from rfl, ← clr_eq h']
    rfl
  | false :: r, i, h => by
    have h' : i < r.count true := by simpa using h
    have e : placeW (false :: r) i = placeW r i + 1 := by
      have := place_at h'
      unfold placeW
      rw [dep_cons]
      simp
      simp at this
      omega
    rw [e, show clr (false :: r) i = false :: clr r i from by cases i <;> rfl, ← clr_eq h']
    rfl
theorem clr_cnt : ∀ {l : List Bool} {i : Nat}, i < l.count true → (clr l i).count true + 1 = l.count true
  | [], i, h => absurd h (by simp)
  | true :: r, 0, h => by simp [clr]
  | true :: r, i + 1, h => by
    have h' : i < r.count true := by simpa using h
    have := clr_cnt h'
    simp [clr]
    omega
  | false :: r, i, h => by
    have h' : i < r.count true := by simpa using h
    have := clr_cnt h'
    rw [show clr (false :: r) i = false :: clr r i from by cases i <;> rfl]
    simp
    omega
theorem rel_clr {l : List Bool} {i : Nat} (hi : i < l.count true) : relW l i = trimW (clr l i) := by
  unfold relW; rw [clr_eq hi]
theorem rel_cnt {l : List Bool} {i : Nat} (hi : i < l.count true) : (relW l i).count true + 1 = l.count true := by
  rw [rel_clr hi, trim_cnt, clr_cnt hi]
theorem minI1 {a b : Nat} (h : 1 ≤ b) : (if (b : Int) - 1 < (a : Int) then (b : Int) - 1 else (a : Int)) = ((min a (b - 1) : Nat) : Int) := by
  split <;> omega
theorem step_e1 {l : List Bool} {o : Option Nat} {c n : Nat} (h : (carN n (min c ((relO l o).count true)) (relO l o)).length < n) : stepW l o c n false = some (trimW (carN n (min c ((relO l o).count true)) (relO l o) ++ [true])) :=
  (if_neg (by decide)).trans (if_pos h)
theorem step_e0 {l : List Bool} {o : Option Nat} {c n : Nat} (h : ¬ (carN n (min c ((relO l o).count true)) (relO l o)).length < n) : stepW l o c n false = none :=
  (if_neg (by decide)).trans (if_neg h)
theorem step_l1 {l : List Bool} {o : Option Nat} {c n : Nat} (h : l.length < n) : stepW l o c n true = some (carN n (min c ((relO (trimW (l ++ [true])) o).count true - 1)) (relO (trimW (l ++ [true])) o)) :=
  (if_pos rfl).trans (if_pos h)
theorem step_l0 {l : List Bool} {o : Option Nat} {c n : Nat} (h : ¬ l.length < n) : stepW l o c n true = none :=
  (if_pos rfl).trans (if_neg h)
abbrev s_step : Stmt := (top 18)
abbrev N_step : List Str := ["word", "index", "count", "places", "late", "written", "others", "left"]
theorem sc_step : FnScope N_step ["word", "index", "count", "places", "late"] (defScope s_step) := ⟨rfl, rfl, rfl, by decide +kernel, rfl, by decide +kernel, by decide +kernel⟩
theorem cl_step (T : Bl mg) (Z : EcF P K mg c_StoreError c_InvalidInput c_NoPlace) (D : DfG K mg "step" s_step [] [("late", .bl false)]) (C_appended : ClG (L2.CX P w) P w K mg base 5 "_appended" s_appended ["word", "places", "record"] [] [] (spApp c_NoPlace)) (C_carried_often : ClG CX0 P w K mg base 7 "_carried_often" s_carried_often ["word", "count", "places"] [] [] spCarN) (C_ones : ClG CX0 P w K mg base 3 "_ones" s_ones ["word"] [] [] spOnes) (C_released : ClG CX0 P w K mg base 5 "_released" s_released ["word", "index"] [] [] spRelN) (C_at_least : ClG CX0 P w K mg base 3 "at_least" s_at_least ["value", "least", "field"] [] [] spAtLeast) (C_at_most : ClG CX0 P w K mg base 3 "at_most" s_at_most ["value", "most", "field"] [] [] spAtMost) (C_good_word : ClG CX0 P w K mg base 3 "good_word" s_good_word ["word", "field"] [] [] spGood) : ClG (L2.CX P w) P w K mg base 9 "step" s_step ["word", "index", "count", "places", "late"] [] [("late", .bl false)] (spStep c_NoPlace) := by
  have nd := sc_step.nd
  refine D.ok sc_step (fun vs H Q E h => ?_) (fun f cdv A outer s H vs Q E hr h => ?_)
  · obtain ⟨l, v, o, c, n, late, rfl, _⟩ := h
    rfl
  · obtain ⟨l, v, o, c, n, late, rfl, hv, ⟨h, h0, h1, h2⟩, k, k2⟩ := h
    have hu := hu64 hr
    refine ⟨_, (pss_cons (ps_expr (pe_g C_good_word (by exact hr.mono (by decide)) (E := fun _ => E0) (fun σ => passC0 σ) (fun _ _ _ _ _ _ us hl => match us, hl with | [_, _], _ => rfl) (pa_cons (pv 0) (pa_cons pe_str pa_nil))))
    (pss_cons (ps_if (pt_cmpR opNotN (pv 1) pe_non (nomark _))
      (pss_one (ps_expr (pe_g C_at_least (by exact hr.mono (by decide)) (E := fun _ => E0) (fun σ => passC0 σ) (fun _ _ _ _ _ _ us hl => match us, hl with | [_, _, _], _ => rfl) (pa_cons (pv 1) (pa_cons pe_int (pa_cons pe_str pa_nil))))))
      pss_nil)
    (pss_cons (ps_expr (pe_g C_at_least (by exact hr.mono (by decide)) (E := fun _ => E0) (fun σ => passC0 σ) (fun _ _ _ _ _ _ us hl => match us, hl with | [_, _, _], _ => rfl) (pa_cons (pv 2) (pa_cons pe_int (pa_cons pe_str pa_nil)))))
    (pss_cons (ps_expr (pe_g C_at_least (by exact hr.mono (by decide)) (E := fun _ => E0) (fun σ => passC0 σ) (fun _ _ _ _ _ _ us hl => match us, hl with | [_, _, _], _ => rfl) (pa_cons (pv 3) (pa_cons pe_int (pa_cons pe_str pa_nil)))))
    (pss_cons (ps_if (pt_cmpR opNotN (pv 1) pe_non (nomark _))
      (pss_one (ps_expr (pe_g C_at_most (by exact hr.mono (by decide)) (E := fun _ => E0) (fun σ => passC0 σ) (fun _ _ _ _ _ _ us hl => match us, hl with | [_, _, _], _ => rfl) (pa_cons (pv 1) (pa_cons (pe_op opSub (pe_g C_ones (by exact hr.mono (by decide)) (E := fun _ => E0) (fun σ => passC0 σ) (fun _ _ _ _ _ _ us hl => match us, hl with | [_], _ => rfl) (pa_cons (pv 0) pa_nil)) pe_int) (pa_cons pe_str pa_nil))))))
      pss_nil)
    (pss_cons (ps_expr (pe_g C_at_least (by exact hr.mono (by decide)) (E := fun _ => E0) (fun σ => passC0 σ) (fun _ _ _ _ _ _ us hl => match us, hl with | [_, _, _], _ => rfl) (pa_cons (pv 3) (pa_cons (pe_callB (callLenK (K := K) (by rfl)) (by rfl) T.len (by decide +kernel) (pa_cons (pv 0) pa_nil)) (pa_cons pe_str pa_nil)))))
    (pss_cons (ps_if (pt_val (pv 4))
      (pss_cons (ps_set (i := 5) nd rfl (Or.inl rfl) (pe_g C_released (by exact hr.mono (by decide)) (E := fun _ => E0) (fun σ => passC0 σ) (fun _ _ _ _ _ _ us hl => match us, hl with | [_, _], _ => rfl) (pa_cons (pe_g C_appended (by exact hr.mono (by decide)) (fun σ => passC takesX σ) (fun _ _ _ _ _ _ us hl => match us, hl with | [_, _, _], _ => rfl) (pa_cons (pv 0) (pa_cons (pv 3) (pa_cons pe_str pa_nil)))) (pa_cons (pv 1) pa_nil))))
    (pss_cons (ps_set (i := 6) nd rfl (Or.inl rfl) (pe_op opSub (pe_g C_ones (by exact hr.mono (by decide)) (E := fun _ => E0) (fun σ => passC0 σ) (fun _ _ _ _ _ _ us hl => match us, hl with | [_], _ => rfl) (pa_cons (pv 5) pa_nil)) pe_int))
    (pss_one (ps_ret (pe_g C_carried_often (by exact hr.mono (by decide)) (E := fun _ => E0) (fun σ => passC0 σ) (fun _ _ _ _ _ _ us hl => match us, hl with | [_, _, _], _ => rfl) (pa_cons (pv 5) (pa_cons (pe_callB (callMin2 rfl) (by rfl) T.min (by decide +kernel) (pa_cons (pv 2) (pa_cons (pv 6) pa_nil))) (pa_cons (pv 3) pa_nil))))))))
      pss_nil)
    (pss_cons (ps_set (i := 7) nd rfl (Or.inl rfl) (pe_g C_released (by exact hr.mono (by decide)) (E := fun _ => E0) (fun σ => passC0 σ) (fun _ _ _ _ _ _ us hl => match us, hl with | [_, _], _ => rfl) (pa_cons (pv 0) (pa_cons (pv 1) pa_nil))))
    (pss_cons (ps_set (i := 6) nd rfl (Or.inl rfl) (pe_g C_ones (by exact hr.mono (by decide)) (E := fun _ => E0) (fun σ => passC0 σ) (fun _ _ _ _ _ _ us hl => match us, hl with | [_], _ => rfl) (pa_cons (pv 7) pa_nil)))
    (pss_one (ps_ret (pe_g C_appended (by exact hr.mono (by decide)) (fun σ => passC takesX σ) (fun _ _ _ _ _ _ us hl => match us, hl with | [_, _, _], _ => rfl) (pa_cons (pe_g C_carried_often (by exact hr.mono (by decide)) (E := fun _ => E0) (fun σ => passC0 σ) (fun _ _ _ _ _ _ us hl => match us, hl with | [_, _, _], _ => rfl) (pa_cons (pv 7) (pa_cons (pe_callB (callMin2 rfl) (by rfl) T.min (by decide +kernel) (pa_cons (pv 2) (pa_cons (pv 6) pa_nil))) (pa_cons (pv 3) pa_nil)))) (pa_cons (pv 3) (pa_cons pe_str pa_nil))))))))))))))), ?_⟩
    try dsimp only [L2.cxOf, L2.Cx.nox]
    simp only [L2.start, N_step, List.map_cons, List.map_nil, List.length_cons, List.length_nil, Nat.reduceAdd, Nat.reduceSub, List.replicate_succ, List.replicate_zero, List.cons_append, List.nil_append]

    have hl := h.1
    have hcl := cnt_le l
    have ha1 := add1_cnt l
    have ha2 := add1_len l
    have ha3 := cnt_le (trimW (l ++ [true]))
    rcases hv with ⟨rfl, rfl⟩ | ⟨i, rfl, rfl, hi⟩
    · cases late
      · walk_at "gos"
        rw [minI]
        have hcn := carN_len n (min c (l.count true)) l
        walk_at "gos"
        · exact k _ (step_e1 (o := none) (by assumption)) _ Gx.rel
        · exact k2 (step_e0 (o := none) (by assumption)) _ _ _ Gx.new Gx.rel (by omega) Gx.at_
      · walk_at "gos"
        · rw [minI1 (by omega)]
          have hcn := carN_len n (min c ((trimW (l ++ [true])).count true - 1)) (trimW (l ++ [true]))
          walk_at "gos"
          exact k _ (step_l1 (o := none) (by assumption)) _ Gx.rel
        · exact k2 (step_l0 (by assumption)) _ _ _ Gx.new Gx.rel (by omega) Gx.at_
    · have hr := rel_len hi
      have hr2 := cnt_le (relW l i)
      cases late
      · walk_at "gos"
        rw [minI]
        have hcn := carN_len n (min c ((relW l i).count true)) (relW l i)
        walk_at "gos"
        · exact k _ (step_e1 (o := some i) (by assumption)) _ Gx.rel
        · exact k2 (step_e0 (o := some i) (by assumption)) _ _ _ Gx.new Gx.rel (by omega) Gx.at_
      · walk_at "gos"
        · have hr3 := rel_len (show i < (trimW (l ++ [true])).count true by omega)
          have hr4 := cnt_le (relW (trimW (l ++ [true])) i)
          have hr5 := rel_cnt (show i < (trimW (l ++ [true])).count true by omega)
          have hi' : i < (trimW (l ++ [true])).count true := by omega
          refine ⟨_, _, rfl, by omega, .inr ⟨i, rfl, hi', fun H_ e_ => ?_⟩⟩
          walk_at "gos"
          rw [minI1 (by omega)]
          have hcn := carN_len n (min c ((relW (trimW (l ++ [true])) i).count true - 1)) (relW (trimW (l ++ [true])) i)
          walk_at "gos"
          exact k _ (step_l1 (o := some i) (by assumption)) _ Gx.rel
        · exact k2 (step_l0 (by assumption)) _ _ _ Gx.new Gx.rel (by omega) Gx.at_

def spNormal : Sp := fun vs H Q _ => ∃ (l : List Bool), vs = [.str (tx l)] ∧ l.length ≤ 1000 ∧ Q (.str (tx (l.dropWhile (! ·)))) H
def spLiving : Sp := fun vs H Q _ => ∃ (l : List Bool), vs = [.str (tx l)] ∧ Wd l ∧ Q (.int (l.count true : Nat)) H
def spDepths : Sp := fun vs H Q _ => ∃ (l : List Bool), vs = [.str (tx l)] ∧ Wd l ∧ ∀ p H', Nw H p → Ex H H' → At H' p (.lst ((dep l).map V.int)) → Q (.ref p) H'
def spNewest : Sp := fun vs H Q _ => ∃ (l : List Bool), vs = [.str (tx l)] ∧ Wd l ∧ Q (if l.count true = 0 then .non else .int ((l.count true : Nat) - 1)) H
def spBest : Sp := fun vs H Q _ => ∃ (n : Nat), vs = [.int (n : Nat)] ∧ n ≤ 1000 ∧ Q (.str (tx (List.replicate n true))) H
def spWorst : Sp := fun vs H Q _ => ∃ (n m : Nat), vs = [.int (n : Nat), .int (m : Nat)] ∧ (n ≤ m ∧ m ≤ 1000 ∧ (n = 0 → m = 0)) ∧ Q (.str (tx (List.replicate n true ++ List.replicate (m - n) false))) H
def spWordOf (K : PySem.W.Frag) : Sp := fun vs H Q _ => ∃ (p : Addr) (ds : List Int), vs = [.ref p] ∧ (SqC K H p (ds.map V.int) ∧ Dec ds ∧ ds.length ≤ 100 ∧ (∀ d ∈ ds, d ≤ 100) ∧ (wof ds).flatten.length ≤ 1000) ∧ ∀ H', Ex H H' → Q (.str (tx (wof ds).flatten)) H'
abbrev s_normal : Stmt := (top 10)
abbrev N_normal : List Str := ["text"]
theorem sc_normal : FnScope N_normal ["text"] (defScope s_normal) := ⟨rfl, rfl, rfl, by decide +kernel, rfl, by decide +kernel, by decide +kernel⟩
theorem cl_normal (T : Bl mg) (Z : EcF P K mg c_StoreError c_InvalidInput c_NoPlace) (D : DfG K mg "normal" s_normal [] []) (C_trimmed : ClG CX0 P w K mg base 3 "_trimmed" s_trimmed ["text"] [] [] spTrim) : ClG CX0 P w K mg base 5 "normal" s_normal ["text"] [] [] spNormal := by
  have nd := sc_normal.nd
  refine D.okP sc_normal (fun vs H Q E h => ?_) (fun f cdv A outer s H vs Q E hr h => ?_)
  · obtain ⟨l, rfl, _⟩ := h
    rfl
  · obtain ⟨l, rfl, h, k⟩ := h
    have hu := hu64 hr
    refine ⟨_, (pss_cons (ps_if (pt_cmpR (opNeK (K := K) (by rfl) (by exact hu)) (pe_op (opAddK (K := K) (by rfl)) (pe_bmK (K := K) (by rfl) PySem.F.plainAttrs_str PySem.F.slot_str_count PySem.F.type_str_count mtCount (pv 0) (pa_cons pe_str pa_nil)) (pe_bmK (K := K) (by rfl) PySem.F.plainAttrs_str PySem.F.slot_str_count PySem.F.type_str_count mtCount (pv 0) (pa_cons pe_str pa_nil))) (pe_callB (callLenK (K := K) (by rfl)) (by rfl) T.len (by decide +kernel) (pa_cons (pv 0) pa_nil)) (nomark _))
      (pss_one ps_never)
      pss_nil)
    (pss_one (ps_ret (pe_g C_trimmed (by exact hr.mono (by decide)) (E := fun _ => E0) (fun σ => passC0 σ) (fun _ _ _ _ _ _ us hl => match us, hl with | [_], _ => rfl) (pa_cons (pv 0) pa_nil))))), ?_⟩
    try dsimp only [L2.cxOf, L2.Cx.nox]
    simp only [L2.start, N_normal, List.map_cons, List.map_nil, List.length_cons, List.length_nil, Nat.reduceAdd, Nat.reduceSub, List.replicate_succ, List.replicate_zero, List.cons_append, List.nil_append]

    have h2 := cnt2 l
    walk_at "gos"
    exact k
abbrev s_living : Stmt := (top 11)
abbrev N_living : List Str := ["word"]
theorem sc_living : FnScope N_living ["word"] (defScope s_living) := ⟨rfl, rfl, rfl, by decide +kernel, rfl, by decide +kernel, by decide +kernel⟩
theorem cl_living (T : Bl mg) (Z : EcF P K mg c_StoreError c_InvalidInput c_NoPlace) (D : DfG K mg "living" s_living [] []) (C_ones : ClG CX0 P w K mg base 3 "_ones" s_ones ["word"] [] [] spOnes) (C_good_word : ClG CX0 P w K mg base 3 "good_word" s_good_word ["word", "field"] [] [] spGood) : ClG CX0 P w K mg base 5 "living" s_living ["word"] [] [] spLiving := by
  have nd := sc_living.nd
  refine D.okP sc_living (fun vs H Q E h => ?_) (fun f cdv A outer s H vs Q E hr h => ?_)
  · obtain ⟨l, rfl, _⟩ := h
    rfl
  · obtain ⟨l, rfl, h, k⟩ := h
    have hu := hu64 hr
    refine ⟨_, (pss_cons (ps_expr (pe_g C_good_word (by exact hr.mono (by decide)) (E := fun _ => E0) (fun σ => passC0 σ) (fun _ _ _ _ _ _ us hl => match us, hl with | [_, _], _ => rfl) (pa_cons (pv 0) (pa_cons pe_str pa_nil))))
    (pss_one (ps_ret (pe_g C_ones (by exact hr.mono (by decide)) (E := fun _ => E0) (fun σ => passC0 σ) (fun _ _ _ _ _ _ us hl => match us, hl with | [_], _ => rfl) (pa_cons (pv 0) pa_nil))))), ?_⟩
    try dsimp only [L2.cxOf, L2.Cx.nox]
    simp only [L2.start, N_living, List.map_cons, List.map_nil, List.length_cons, List.length_nil, Nat.reduceAdd, Nat.reduceSub, List.replicate_succ, List.replicate_zero, List.cons_append, List.nil_append]

    have h1 := h.1
    walk_at "gos"
    exact k
abbrev s_depths : Stmt := (top 12)
abbrev N_depths : List Str := ["word"]
theorem sc_depths : FnScope N_depths ["word"] (defScope s_depths) := ⟨rfl, rfl, rfl, by decide +kernel, rfl, by decide +kernel, by decide +kernel⟩
theorem cl_depths (T : Bl mg) (Z : EcF P K mg c_StoreError c_InvalidInput c_NoPlace) (D : DfG K mg "depths" s_depths [] []) (C_depth_list : ClG CX0 P w K mg base 3 "_depth_list" s_depth_list ["word"] [] [] spDeps) (C_good_word : ClG CX0 P w K mg base 3 "good_word" s_good_word ["word", "field"] [] [] spGood) : ClG CX0 P w K mg base 5 "depths" s_depths ["word"] [] [] spDepths := by
  have nd := sc_depths.nd
  refine D.okP sc_depths (fun vs H Q E h => ?_) (fun f cdv A outer s H vs Q E hr h => ?_)
  · obtain ⟨l, rfl, _⟩ := h
    rfl
  · obtain ⟨l, rfl, h, k⟩ := h
    have hu := hu64 hr
    refine ⟨_, (pss_cons (ps_expr (pe_g C_good_word (by exact hr.mono (by decide)) (E := fun _ => E0) (fun σ => passC0 σ) (fun _ _ _ _ _ _ us hl => match us, hl with | [_, _], _ => rfl) (pa_cons (pv 0) (pa_cons pe_str pa_nil))))
    (pss_one (ps_ret (pe_g C_depth_list (by exact hr.mono (by decide)) (E := fun _ => E0) (fun σ => passC0 σ) (fun _ _ _ _ _ _ us hl => match us, hl with | [_], _ => rfl) (pa_cons (pv 0) pa_nil))))), ?_⟩
    try dsimp only [L2.cxOf, L2.Cx.nox]
    simp only [L2.start, N_depths, List.map_cons, List.map_nil, List.length_cons, List.length_nil, Nat.reduceAdd, Nat.reduceSub, List.replicate_succ, List.replicate_zero, List.cons_append, List.nil_append]

    have h1 := h.1
    walk_at "gos"
    exact k _ _ Gx.new Gx.rel Gx.at_
abbrev s_newest : Stmt := (top 20)
abbrev N_newest : List Str := ["word", "ones"]
theorem sc_newest : FnScope N_newest ["word"] (defScope s_newest) := ⟨rfl, rfl, rfl, by decide +kernel, rfl, by decide +kernel, by decide +kernel⟩
theorem cl_newest (T : Bl mg) (Z : EcF P K mg c_StoreError c_InvalidInput c_NoPlace) (D : DfG K mg "newest" s_newest [] []) (C_ones : ClG CX0 P w K mg base 3 "_ones" s_ones ["word"] [] [] spOnes) (C_good_word : ClG CX0 P w K mg base 3 "good_word" s_good_word ["word", "field"] [] [] spGood) : ClG CX0 P w K mg base 5 "newest" s_newest ["word"] [] [] spNewest := by
  have nd := sc_newest.nd
  refine D.okP sc_newest (fun vs H Q E h => ?_) (fun f cdv A outer s H vs Q E hr h => ?_)
  · obtain ⟨l, rfl, _⟩ := h
    rfl
  · obtain ⟨l, rfl, h, k⟩ := h
    have hu := hu64 hr
    refine ⟨_, (pss_cons (ps_expr (pe_g C_good_word (by exact hr.mono (by decide)) (E := fun _ => E0) (fun σ => passC0 σ) (fun _ _ _ _ _ _ us hl => match us, hl with | [_, _], _ => rfl) (pa_cons (pv 0) (pa_cons pe_str pa_nil))))
    (pss_cons (ps_set (i := 1) nd rfl (Or.inl rfl) (pe_g C_ones (by exact hr.mono (by decide)) (E := fun _ => E0) (fun σ => passC0 σ) (fun _ _ _ _ _ _ us hl => match us, hl with | [_], _ => rfl) (pa_cons (pv 0) pa_nil)))
    (pss_cons (ps_if (pt_cmpR (opEqK (K := K) (by rfl) (by exact hu)) (pv 1) pe_int (nomark _))
      (pss_one (ps_ret pe_non))
      pss_nil)
    (pss_one (ps_ret (pe_op opSub (pv 1) pe_int)))))), ?_⟩
    try dsimp only [L2.cxOf, L2.Cx.nox]
    simp only [L2.start, N_newest, List.map_cons, List.map_nil, List.length_cons, List.length_nil, Nat.reduceAdd, Nat.reduceSub, List.replicate_succ, List.replicate_zero, List.cons_append, List.nil_append]

    have h1 := h.1
    walk_at "gos"
    · rw [if_pos (by omega)] at k
      exact k
    · rw [if_neg (by omega)] at k
      exact k
abbrev s_best_word : Stmt := (top 21)
abbrev N_best_word : List Str := ["count"]
theorem sc_best_word : FnScope N_best_word ["count"] (defScope s_best_word) := ⟨rfl, rfl, rfl, by decide +kernel, rfl, by decide +kernel, by decide +kernel⟩
theorem cl_best_word (T : Bl mg) (Z : EcF P K mg c_StoreError c_InvalidInput c_NoPlace) (D : DfG K mg "best_word" s_best_word [] []) (C_at_least : ClG CX0 P w K mg base 3 "at_least" s_at_least ["value", "least", "field"] [] [] spAtLeast) : ClG CX0 P w K mg base 5 "best_word" s_best_word ["count"] [] [] spBest := by
  have nd := sc_best_word.nd
  refine D.okP sc_best_word (fun vs H Q E h => ?_) (fun f cdv A outer s H vs Q E hr h => ?_)
  · obtain ⟨n, rfl, _⟩ := h
    rfl
  · obtain ⟨n, rfl, h, k⟩ := h
    have hu := hu64 hr
    refine ⟨_, (pss_cons (ps_expr (pe_g C_at_least (by exact hr.mono (by decide)) (E := fun _ => E0) (fun σ => passC0 σ) (fun _ _ _ _ _ _ us hl => match us, hl with | [_, _, _], _ => rfl) (pa_cons (pv 0) (pa_cons pe_int (pa_cons pe_str pa_nil)))))
    (pss_one (ps_ret (pe_op (opMulK (K := K) (by rfl)) pe_str (pv 0))))), ?_⟩
    try dsimp only [L2.cxOf, L2.Cx.nox]
    simp only [L2.start, N_best_word, List.map_cons, List.map_nil, List.length_cons, List.length_nil, Nat.reduceAdd, Nat.reduceSub, List.replicate_succ, List.replicate_zero, List.cons_append, List.nil_append]

    walk_at "gos"
    exact k
abbrev s_worst_word : Stmt := (top 22)
abbrev N_worst_word : List Str := ["count", "length"]
theorem sc_worst_word : FnScope N_worst_word ["count", "length"] (defScope s_worst_word) := ⟨rfl, rfl, rfl, by decide +kernel, rfl, by decide +kernel, by decide +kernel⟩
theorem cl_worst_word (T : Bl mg) (Z : EcF P K mg c_StoreError c_InvalidInput c_NoPlace) (D : DfG K mg "worst_word" s_worst_word [] []) (C_at_most : ClG CX0 P w K mg base 3 "at_most" s_at_most ["value", "most", "field"] [] [] spAtMost) (C_at_least : ClG CX0 P w K mg base 3 "at_least" s_at_least ["value", "least", "field"] [] [] spAtLeast) : ClG CX0 P w K mg base 5 "worst_word" s_worst_word ["count", "length"] [] [] spWorst := by
  have nd := sc_worst_word.nd
  refine D.okP sc_worst_word (fun vs H Q E h => ?_) (fun f cdv A outer s H vs Q E hr h => ?_)
  · obtain ⟨n, m, rfl, _⟩ := h
    rfl
  · obtain ⟨n, m, rfl, ⟨h, h2, h3⟩, k⟩ := h
    have hu := hu64 hr
    refine ⟨_, (pss_cons (ps_expr (pe_g C_at_least (by exact hr.mono (by decide)) (E := fun _ => E0) (fun σ => passC0 σ) (fun _ _ _ _ _ _ us hl => match us, hl with | [_, _, _], _ => rfl) (pa_cons (pv 0) (pa_cons pe_int (pa_cons pe_str pa_nil)))))
    (pss_cons (ps_expr (pe_g C_at_least (by exact hr.mono (by decide)) (E := fun _ => E0) (fun σ => passC0 σ) (fun _ _ _ _ _ _ us hl => match us, hl with | [_, _, _], _ => rfl) (pa_cons (pv 1) (pa_cons (pv 0) (pa_cons pe_str pa_nil)))))
    (pss_cons (ps_if (pt_cmpR (opEqK (K := K) (by rfl) (by exact hu)) (pv 0) pe_int (nomark _))
      (pss_one (ps_expr (pe_g C_at_most (by exact hr.mono (by decide)) (E := fun _ => E0) (fun σ => passC0 σ) (fun _ _ _ _ _ _ us hl => match us, hl with | [_, _, _], _ => rfl) (pa_cons (pv 1) (pa_cons pe_int (pa_cons pe_str pa_nil))))))
      pss_nil)
    (pss_one (ps_ret (pe_op (opAddK (K := K) (by rfl)) (pe_op (opMulK (K := K) (by rfl)) pe_str (pv 0)) (pe_op (opMulK (K := K) (by rfl)) pe_str (pe_op opSub (pv 1) (pv 0))))))))), ?_⟩
    try dsimp only [L2.cxOf, L2.Cx.nox]
    simp only [L2.start, N_worst_word, List.map_cons, List.map_nil, List.length_cons, List.length_nil, Nat.reduceAdd, Nat.reduceSub, List.replicate_succ, List.replicate_zero, List.cons_append, List.nil_append]

    walk_at "gos"
    all_goals
      rw [show ((n : Nat) : Int).toNat = n from rfl, show (((m : Nat) : Int) - ((n : Nat) : Int)).toNat = m - n from by omega]
      exact k
abbrev s_word_of : Stmt := (top 13)
abbrev N_word_of : List Str := ["depths", "depth", "following", "lower"]
theorem sc_word_of : FnScope N_word_of ["depths"] (defScope s_word_of) := ⟨rfl, rfl, rfl, by decide +kernel, rfl, by decide +kernel, by decide +kernel⟩
theorem cl_word_of (T : Bl mg) (Z : EcF P K mg c_StoreError c_InvalidInput c_NoPlace) (D : DfG K mg "word_of" s_word_of [] []) (C_whole_number : ClG CX0 P w K mg base 3 "whole_number" s_whole_number ["value", "field"] [] [] spWhole) : ClG CX0 P w K mg base 5 "word_of" s_word_of ["depths"] [] [] (spWordOf K) := by
  have nd := sc_word_of.nd
  refine D.okP sc_word_of (fun vs H Q E h => ?_) (fun f cdv A outer s H vs Q E hr h => ?_)
  · obtain ⟨p, ds, rfl, _⟩ := h
    rfl
  · obtain ⟨p, ds, rfl, ⟨hs, hd, hl, hub, hf⟩, k⟩ := h
    have hu := hu64 hr
    refine ⟨_, (pss_cons (ps_for PassesOwn.never rfl (pi_listK (K := K) (by rfl) (pv 0)) (pg_name (i := 1) nd rfl (Or.inl rfl))
      (pss_one (ps_expr (pe_g C_whole_number (by exact hr.mono (by decide)) (E := fun _ => E0) (fun σ => passC0 σ) (fun _ _ _ _ _ _ us hl => match us, hl with | [_, _], _ => rfl) (pa_cons (pv 1) (pa_cons pe_str pa_nil))))))
    (pss_cons (ps_set (i := 2) nd rfl (Or.inl rfl) (pe_op (opAddK (K := K) (by rfl)) (pe_slice (slAnyK (K := K) (by rfl)) (pv 0) (po_some pe_int) po_none) (pe_lst (pa_cons pe_int pa_nil))))
    (pss_cons (ps_for PassesOwn.never rfl (pi_zipK (K := K) (by rfl) (by rfl) T.zip (pa_cons (pv 0) (pa_cons (pv 2) pa_nil))) (pg_tup rfl (pgs_cons (pg_name (i := 1) nd rfl (Or.inl rfl)) (pgs_cons (pg_name (i := 3) nd rfl (Or.inl rfl)) pgs_nil)))
      (pss_one (ps_if (pt_cmpR opLe (pv 1) (pv 3) (nomark _))
      (pss_one ps_never)
      pss_nil)))
    (pss_one (ps_ret (pe_bmK (K := K) (by rfl) PySem.F.plainAttrs_str PySem.F.slot_str_join PySem.F.type_str_join (mtJoinK (K := K) (by rfl)) pe_str (pa_cons (pe_lc (own := [("depth", 1), ("lower", 3)]) (g := gTup K 2 (gCons (gName 1) (gCons (gName 3) gNil))) rfl nd (pi_zipK (K := K) (by rfl) (by rfl) T.zip (pa_cons (pv 0) (pa_cons (pv 2) pa_nil))) (blkOk_by (own := [("depth", 1), ("lower", 3)]) (N := N_word_of) (sc := defScope s_word_of) (by decide +kernel)) (fun _ _ _ _ _ => (pg_tup rfl (pgs_cons (pg_name (i := 1) nd rfl (Or.inl rfl)) (pgs_cons (pg_name (i := 3) nd rfl (Or.inl rfl)) pgs_nil)))) (fun _ _ _ _ _ => pts_nil) (fun _ _ _ _ _ => (pe_op (opAddK (K := K) (by rfl)) pe_str (pe_op (opMulK (K := K) (by rfl)) pe_str (pe_op opSub (pe_op opSub (pv 1) (pv 3)) pe_int))))) pa_nil))))))), ?_⟩
    try dsimp only [L2.cxOf, L2.Cx.nox]
    simp only [L2.start, N_word_of, List.map_cons, List.map_nil, List.length_cons, List.length_nil, Nat.reduceAdd, Nat.reduceSub, List.replicate_succ, List.replicate_zero, List.cons_append, List.nil_append]

    walk_at "gos"
    refine Gx.forL [] (fun i σ' H' => ∃ s1 s2 s3, σ' = [some (.ref p), s1, s2, s3]) ⟨_, _, _, rfl⟩ ?_ ?_
    · rintro i x σ' H' hx e ⟨s1, s2, s3, rfl⟩
      obtain ⟨d, _, rfl⟩ := Gx.map_at hx
      walk_at "gos"
      exact Gx.li ⟨_, _, _, rfl⟩
    · rintro σ' H' e ⟨s1, s2, s3, rfl⟩
      have hcl := cutV_length (ds.map V.int) (some 1) none
      rw [List.length_map] at hcl
      walk_at "gos"
      rename_i p1 H1 np1 e1 hp1 p2 H2 np2 e2 hp2 p3 H3 np3 e3 hp3
      have ef : cutV (ds.map V.int) (some 1) none ++ [V.int 0] = (ds.drop 1 ++ [0]).map V.int := by
        rw [List.map_append, ← Gx.cut1]
        rfl
      rw [ef] at hp3
      have hlen : min ((ds.map V.int).length) (((ds.drop 1 ++ [0]).map V.int).length) = ds.length := by
        simp only [List.length_map, List.length_append, List.length_drop, List.length_cons, List.length_nil]
        omega
      refine Gx.forZ [] ds.length (fun i σ' H' => ∃ s1 s3, σ' = [some (.ref p), s1, some (.ref p3), s3]) hlen ⟨_, _, rfl⟩ ?_ ?_
      · rintro i c d x σ' H' H'' hi hc hd' e ⟨s1, s3, rfl⟩ y
        obtain ⟨c, ic, rfl⟩ := Gx.map_at hc
        obtain ⟨d, id', rfl⟩ := Gx.map_at hd'
        have hgt := dec_at ds i c d hd ic id'
        walk_at "gos"
        exact Gx.li ⟨_, _, rfl⟩
      · rintro σ' H' e ⟨s1, s3, rfl⟩
        walk_at "gos"
        refine Gx.lcZ_F ds.length (fun i => ((wof ds).take i).map fun l => V.str (tx l)) hlen rfl (fun i hi => ?_) (fun D i c d x H' H'' hi hc hd' hD e hp hz y => ?_) (fun D H' hD e hp => ?_)
        · rw [List.length_map, List.length_take]
          omega
        · obtain ⟨c, ic, rfl⟩ := Gx.map_at hc
          obtain ⟨d, id', rfl⟩ := Gx.map_at hd'
          have hgt := dec_at ds i c d hd ic id'
          have hc2 := hub c (List.mem_of_getElem? ic)
          have hd2 : 0 ≤ d := by
            rcases List.mem_append.mp (List.mem_of_getElem? id') with h | h
            · exact Int.le_of_lt (dec_pos ds hd d (List.mem_of_mem_drop h))
            · rw [List.mem_singleton.mp h]; exact Int.le_refl _
          have ha := wof_at ds i c d ic id'
          walk_at "gos"
          exact ⟨Gx.rel, Gx.take_map_snoc (f := fun l => V.str (tx l)) ha⟩
        · rw [show (wof ds).take ds.length = wof ds from by rw [← wof_len ds, List.take_length]] at hp
          refine Gx.g_joinT (by omega) ?_
          exact k _ Gx.rel

/-! the order, plainly -/
def Above (a b : List Int) : Prop := a.length ≤ b.length ∧ ∀ i, i < a.length → a.getD i 0 ≤ b.getD i 0
instance (a b : List Int) : Decidable (Above a b) := inferInstanceAs (Decidable (_ ∧ _))
theorem above_refl (a : List Int) : Above a a := ⟨Nat.le_refl _, fun _ _ => Int.le_refl _⟩
theorem above_trans {a b c : List Int} (h : Above a b) (k : Above b c) : Above a c :=
  ⟨Nat.le_trans h.1 k.1, fun i hi => Int.le_trans (h.2 i hi) (k.2 i (by have := h.1; omega))⟩
theorem above_anti {a b : List Int} (h : Above a b) (k : Above b a) : a = b := by
  have hl : a.length = b.length := Nat.le_antisymm h.1 k.1
  apply List.ext_getElem hl
  intro i h1 h2
  have x := h.2 i h1
  have y := k.2 i h2
  rw [List.getD_eq_getElem?_getD, List.getD_eq_getElem?_getD, List.getElem?_eq_getElem h1, List.getElem?_eq_getElem h2] at x y
  simp at x y
  omega
theorem dep_inj {l m : List Bool} (h : Wd l) (k : Wd m) (e : dep l = dep m) : l = m := by
  rw [← wof_dep l.length l (Nat.le_refl _) h.2, ← wof_dep m.length m (Nat.le_refl _) k.2, e]
def spDom : Sp := fun vs H Q _ => ∃ (l m : List Bool), vs = [.str (tx l), .str (tx m)] ∧ (Wd l ∧ Wd m) ∧ ∀ H', Ex H H' → Q (.bl (decide (Above (dep l) (dep m)))) H'
abbrev s_dominates : Stmt := (top 19)
abbrev N_dominates : List Str := ["first", "second", "better", "worse", "depth", "allowed"]
theorem sc_dominates : FnScope N_dominates ["first", "second"] (defScope s_dominates) := ⟨rfl, rfl, rfl, by decide +kernel, rfl, by decide +kernel, by decide +kernel⟩
theorem cl_dominates (T : Bl mg) (Z : EcF P K mg c_StoreError c_InvalidInput c_NoPlace) (D : DfG K mg "dominates" s_dominates [] []) (C_depth_list : ClG CX0 P w K mg base 3 "_depth_list" s_depth_list ["word"] [] [] spDeps) (C_good_word : ClG CX0 P w K mg base 3 "good_word" s_good_word ["word", "field"] [] [] spGood) : ClG CX0 P w K mg base 5 "dominates" s_dominates ["first", "second"] [] [] spDom := by
  have nd := sc_dominates.nd
  refine D.okP sc_dominates (fun vs H Q E h => ?_) (fun f cdv A outer s H vs Q E hr h => ?_)
  · obtain ⟨l, m, rfl, _⟩ := h
    rfl
  · obtain ⟨l, m, rfl, ⟨h, h'⟩, k⟩ := h
    have hu := hu64 hr
    refine ⟨_, (pss_cons (ps_expr (pe_g C_good_word (by exact hr.mono (by decide)) (E := fun _ => E0) (fun σ => passC0 σ) (fun _ _ _ _ _ _ us hl => match us, hl with | [_, _], _ => rfl) (pa_cons (pv 0) (pa_cons pe_str pa_nil))))
    (pss_cons (ps_expr (pe_g C_good_word (by exact hr.mono (by decide)) (E := fun _ => E0) (fun σ => passC0 σ) (fun _ _ _ _ _ _ us hl => match us, hl with | [_, _], _ => rfl) (pa_cons (pv 1) (pa_cons pe_str pa_nil))))
    (pss_cons (ps_set (i := 2) nd rfl (Or.inl rfl) (pe_g C_depth_list (by exact hr.mono (by decide)) (E := fun _ => E0) (fun σ => passC0 σ) (fun _ _ _ _ _ _ us hl => match us, hl with | [_], _ => rfl) (pa_cons (pv 0) pa_nil)))
    (pss_cons (ps_set (i := 3) nd rfl (Or.inl rfl) (pe_g C_depth_list (by exact hr.mono (by decide)) (E := fun _ => E0) (fun σ => passC0 σ) (fun _ _ _ _ _ _ us hl => match us, hl with | [_], _ => rfl) (pa_cons (pv 1) pa_nil)))
    (pss_cons (ps_if (pt_cmpR opGt (pe_callB (callLenK (K := K) (by rfl)) (by rfl) T.len (by decide +kernel) (pa_cons (pv 2) pa_nil)) (pe_callB (callLenK (K := K) (by rfl)) (by rfl) T.len (by decide +kernel) (pa_cons (pv 3) pa_nil)) (nomark _))
      (pss_one (ps_ret pe_bl))
      pss_nil)
    (pss_cons (ps_for PassesOwn.never rfl (pi_zipK (K := K) (by rfl) (by rfl) T.zip (pa_cons (pv 2) (pa_cons (pv 3) pa_nil))) (pg_tup rfl (pgs_cons (pg_name (i := 4) nd rfl (Or.inl rfl)) (pgs_cons (pg_name (i := 5) nd rfl (Or.inl rfl)) pgs_nil)))
      (pss_one (ps_if (pt_cmpR opGt (pv 4) (pv 5) (nomark _))
      (pss_one (ps_ret pe_bl))
      pss_nil)))
    (pss_one (ps_ret pe_bl)))))))), ?_⟩
    try dsimp only [L2.cxOf, L2.Cx.nox]
    simp only [L2.start, N_dominates, List.map_cons, List.map_nil, List.length_cons, List.length_nil, Nat.reduceAdd, Nat.reduceSub, List.replicate_succ, List.replicate_zero, List.cons_append, List.nil_append]

    have h1 := h.1
    have h2 := h'.1
    walk_at "gos"
    · rename_i hI
      exact Gx.q_decN' (k _ Gx.rel) (fun z => by have := z.1; omega)
    · rename_i p H1 np1 e1 hp1 q H2 np2 e2 hp2 hI
      refine Gx.forZ [] (dep l).length (fun i σ' H' => ∃ s4 s5, σ' = [some (.str (tx l)), some (.str (tx m)), some (.ref p), some (.ref q), s4, s5] ∧ ∀ j, j < i → (dep l).getD j 0 ≤ (dep m).getD j 0) (by rw [List.length_map, List.length_map]; omega) ⟨_, _, rfl, fun j hj => absurd hj (Nat.not_lt_zero _)⟩ ?_ ?_
      · rintro i c d x σ' H' H'' hi hc hd e ⟨s4, s5, rfl, hP⟩ y
        obtain ⟨c, ic, rfl⟩ := Gx.map_at hc
        obtain ⟨d, id', rfl⟩ := Gx.map_at hd
        have ec := Gx.getD_at (d := (0 : Int)) ic
        have ed := Gx.getD_at (d := (0 : Int)) id'
        walk_at "gos"
        · exact Gx.q_decN' (k _ Gx.rel) (fun z => by have := z.2 i hi; omega)
        · refine Gx.li ⟨_, _, rfl, fun j hj => ?_⟩
          by_cases h : j = i
          · rw [h, ec, ed]; omega
          · exact hP j (by omega)
      · rintro σ' H' e ⟨s4, s5, rfl, hP⟩
        walk_at "gos"
        exact Gx.q_dec' (k _ Gx.rel) ⟨by omega, hP⟩


theorem cnt_le2 : ∀ cs : List Nat, PyProof.Rows.cnt 49 cs + PyProof.Rows.cnt 48 cs ≤ (cs.length : Int)
  | [] => by rw [PyProof.Rows.cnt_nil, PyProof.Rows.cnt_nil]; simp
  | c :: r => by
    have := cnt_le2 r
    rw [PyProof.Rows.cnt_cons, PyProof.Rows.cnt_cons, List.length_cons]
    split <;> split <;> omega
theorem cnt_lt2 : ∀ {cs : List Nat} {c : Nat}, c ∈ cs → c ≠ 48 → c ≠ 49 → PyProof.Rows.cnt 49 cs + PyProof.Rows.cnt 48 cs < (cs.length : Int)
  | [], c, h, _, _ => absurd h (by simp)
  | a :: r, c, h, h0, h1 => by
    have h2 := cnt_le2 r
    rw [PyProof.Rows.cnt_cons, PyProof.Rows.cnt_cons, List.length_cons]
    rcases List.mem_cons.mp h with e | e
    · subst e
      rw [if_neg h1, if_neg h0]
      omega
    · have := cnt_lt2 e h0 h1
      split <;> split <;> omega
theorem cnt_str (z : Str) : Txt.count z (tx [true]) + Txt.count z (tx [false]) ≤ (z.length : Int) := by
  have h := cnt_le2 z.cps.toList
  have e1 : Txt.count z (tx [true]) = PyProof.Rows.cnt 49 z.cps.toList := PyProof.Rows.count_is z 49
  have e0 : Txt.count z (tx [false]) = PyProof.Rows.cnt 48 z.cps.toList := PyProof.Rows.count_is z 48
  rw [e1, e0]
  have : z.length = z.cps.toList.length := by simp [Str.length]
  omega
theorem cnt_bad {z : Str} {c : Nat} (hc : c ∈ z.cps.toList) (h0 : c ≠ 48) (h1 : c ≠ 49) : Txt.count z (tx [true]) + Txt.count z (tx [false]) < (z.length : Int) := by
  have h := cnt_lt2 hc h0 h1
  have e1 : Txt.count z (tx [true]) = PyProof.Rows.cnt 49 z.cps.toList := PyProof.Rows.count_is z 49
  have e0 : Txt.count z (tx [false]) = PyProof.Rows.cnt 48 z.cps.toList := PyProof.Rows.count_is z 48
  rw [e1, e0]
  have : z.length = z.cps.toList.length := by simp [Str.length]
  omega

/-- the promise of an InvalidInput with a field -/
abbrev Rai (cI : Addr) (f : Str) (H : Hp) (E : XK) : Prop := ∀ d H', Nw H d → Ex H H' → At H' d (.xd [("field", .str f)]) → E (.ref cI) (some d) H'
/-- what is due of a text that should be a word -/
def DueW (fw : Str) (z : Str) (g : List Bool → Option Str) (f : Option Str) : Prop := (¬ Good z ∧ f = some fw) ∨ ∃ l : List Bool, z = tx l ∧ l.head? ≠ some false ∧ f = g l
def negO : Option Int → Bool
  | none => false
  | some i => decide (i < 0)
def overO (n : Nat) : Option Int → Bool
  | none => false
  | some i => decide ((n : Int) ≤ i)
def fRel (i : Int) (l : List Bool) : Option Str := if i < 0 ∨ ((l.count true : Nat) : Int) ≤ i then some "index" else none
def fCar (p : Int) (l : List Bool) : Option Str := if p < 1 ∨ p < (l.length : Nat) then some "places" else none
def fCars (c p : Int) (l : List Bool) : Option Str := if c < 0 then some "count" else fCar p l
def fApp (p : Int) (r : Str) (l : List Bool) : Option Str := if p < 1 then some "places" else if r ≠ "0" ∧ r ≠ "1" then some "record" else if p < (l.length : Nat) then some "places" else none
def fStp (o : Option Int) (c p : Int) (l : List Bool) : Option Str :=
  if negO o = true then some "index" else if c < 0 then some "count" else if p < 1 then some "places" else if overO (l.count true) o = true then some "index" else if p < (l.length : Nat) then some "places" else none
def fBest (c : Int) : Option Str := if c < 0 then some "count" else none
def fWor (c n : Int) : Option Str := if c < 0 then some "count" else if n < c ∨ (c = 0 ∧ n ≠ 0) then some "length" else none
def iv : Option Int → V
  | none => .non
  | some i => .int i
def spNoX (cI : Addr) : Sp := fun vs H Q E => ∃ z : Str, vs = [.str z] ∧ (z.length ≤ 1000 ∧ ¬ ∃ l, z = tx l) ∧ Rai cI "text" H E
abbrev s_normal_X : Stmt := (top 10)
abbrev N_normal_X : List Str := ["text"]
theorem sc_normal_X : FnScope N_normal_X ["text"] (defScope s_normal_X) := ⟨rfl, rfl, rfl, by decide +kernel, rfl, by decide +kernel, by decide +kernel⟩
theorem cl_normal_X (T : Bl mg) (Z : EcF P K mg c_StoreError c_InvalidInput c_NoPlace) (D : DfG K mg "normal" s_normal_X [] [])  : ClG (L2.CX P w) P w K mg base 3 "normal" s_normal_X ["text"] [] [] (spNoX c_InvalidInput) := by
  have nd := sc_normal_X.nd
  refine D.ok sc_normal_X (fun vs H Q E h => ?_) (fun f cdv A outer s H vs Q E hr h => ?_)
  · obtain ⟨z, rfl, _⟩ := h
    rfl
  · obtain ⟨z, rfl, ⟨hz, hg⟩, k⟩ := h
    have hu := hu64 hr
    refine ⟨_, (pss_cons (ps_if (pt_cmpR (opNeK (K := K) (by rfl) (by exact hu)) (pe_op (opAddK (K := K) (by rfl)) (pe_bmK (K := K) (by rfl) PySem.F.plainAttrs_str PySem.F.slot_str_count PySem.F.type_str_count mtCount (pv 0) (pa_cons pe_str pa_nil)) (pe_bmK (K := K) (by rfl) PySem.F.plainAttrs_str PySem.F.slot_str_count PySem.F.type_str_count mtCount (pv 0) (pa_cons pe_str pa_nil))) (pe_callB (callLenK (K := K) (by rfl)) (by rfl) T.len (by decide +kernel) (pa_cons (pv 0) pa_nil)) (nomark _))
      (pss_one (ps_raise rfl takesX (pmk1 (ex_InvalidInput Z.d_InvalidInput) (by exact hr.mono (by decide)) rfl (pa_cons pe_str pa_nil))))
      pss_nil)
    pss_dead), ?_⟩
    try dsimp only [L2.cxOf, L2.Cx.nox]
    simp only [L2.start, N_normal_X, List.map_cons, List.map_nil, List.length_cons, List.length_nil, Nat.reduceAdd, Nat.reduceSub, List.replicate_succ, List.replicate_zero, List.cons_append, List.nil_append]

    have hf : FmtV (.str "text") := .inl ⟨_, rfl, by decide +kernel⟩
    rcases str_or z with h | ⟨c, hc, h0, h1⟩
    · exact absurd h hg
    · have hb := cnt_bad hc h0 h1
      walk_at "go"
      refine ⟨_, _, rfl, rfl, ?_⟩
      walk_at "go"
      refine ⟨_, _, rfl, rfl, ?_⟩
      walk_at "go"
      rw [show (!decide (Txt.count z (tx [false]) + Txt.count z (tx [true]) = ((z.length : Nat) : Int))) = true from by rw [decide_eq_false (by omega)]; rfl]
      walk_at "go"
      exact k _ _ Gx.new Gx.rel Gx.at_
def spWX (cI : Addr) (fw : Str) : Sp := fun vs H Q E => ∃ z : Str, vs = [.str z] ∧ (z.length ≤ 1000 ∧ ¬ Good z) ∧ Rai cI fw H E
abbrev s_living_X : Stmt := (top 11)
abbrev N_living_X : List Str := ["word"]
theorem sc_living_X : FnScope N_living_X ["word"] (defScope s_living_X) := ⟨rfl, rfl, rfl, by decide +kernel, rfl, by decide +kernel, by decide +kernel⟩
theorem cl_living_X (T : Bl mg) (Z : EcF P K mg c_StoreError c_InvalidInput c_NoPlace) (D : DfG K mg "living" s_living_X [] []) (C_good_word_X : ClG (L2.CX P w) P w K mg base 3 "good_word" s_good_word_X ["word", "field"] [] [] (spGw c_InvalidInput)) : ClG (L2.CX P w) P w K mg base 5 "living" s_living_X ["word"] [] [] (spWX c_InvalidInput "word") := by
  have nd := sc_living_X.nd
  refine D.ok sc_living_X (fun vs H Q E h => ?_) (fun f cdv A outer s H vs Q E hr h => ?_)
  · obtain ⟨z, rfl, _⟩ := h
    rfl
  · obtain ⟨z, rfl, ⟨hz, hg⟩, k⟩ := h
    have hu := hu64 hr
    refine ⟨_, (pss_cons (ps_expr (pe_g C_good_word_X (by exact hr.mono (by decide)) (fun σ => passC takesX σ) (fun _ _ _ _ _ _ us hl => match us, hl with | [_, _], _ => rfl) (pa_cons (pv 0) (pa_cons pe_str pa_nil))))
    pss_dead), ?_⟩
    try dsimp only [L2.cxOf, L2.Cx.nox]
    simp only [L2.start, N_living_X, List.map_cons, List.map_nil, List.length_cons, List.length_nil, Nat.reduceAdd, Nat.reduceSub, List.replicate_succ, List.replicate_zero, List.cons_append, List.nil_append]

    walk_at "go"
    all_goals first
      | exact absurd (by assumption) hg
      | exact k _ _ Gx.new Gx.rel Gx.at_
abbrev s_depths_X : Stmt := (top 12)
abbrev N_depths_X : List Str := ["word"]
theorem sc_depths_X : FnScope N_depths_X ["word"] (defScope s_depths_X) := ⟨rfl, rfl, rfl, by decide +kernel, rfl, by decide +kernel, by decide +kernel⟩
theorem cl_depths_X (T : Bl mg) (Z : EcF P K mg c_StoreError c_InvalidInput c_NoPlace) (D : DfG K mg "depths" s_depths_X [] []) (C_good_word_X : ClG (L2.CX P w) P w K mg base 3 "good_word" s_good_word_X ["word", "field"] [] [] (spGw c_InvalidInput)) : ClG (L2.CX P w) P w K mg base 5 "depths" s_depths_X ["word"] [] [] (spWX c_InvalidInput "word") := by
  have nd := sc_depths_X.nd
  refine D.ok sc_depths_X (fun vs H Q E h => ?_) (fun f cdv A outer s H vs Q E hr h => ?_)
  · obtain ⟨z, rfl, _⟩ := h
    rfl
  · obtain ⟨z, rfl, ⟨hz, hg⟩, k⟩ := h
    have hu := hu64 hr
    refine ⟨_, (pss_cons (ps_expr (pe_g C_good_word_X (by exact hr.mono (by decide)) (fun σ => passC takesX σ) (fun _ _ _ _ _ _ us hl => match us, hl with | [_, _], _ => rfl) (pa_cons (pv 0) (pa_cons pe_str pa_nil))))
    pss_dead), ?_⟩
    try dsimp only [L2.cxOf, L2.Cx.nox]
    simp only [L2.start, N_depths_X, List.map_cons, List.map_nil, List.length_cons, List.length_nil, Nat.reduceAdd, Nat.reduceSub, List.replicate_succ, List.replicate_zero, List.cons_append, List.nil_append]

    walk_at "go"
    all_goals first
      | exact absurd (by assumption) hg
      | exact k _ _ Gx.new Gx.rel Gx.at_
abbrev s_newest_X : Stmt := (top 20)
abbrev N_newest_X : List Str := ["word", "ones"]
theorem sc_newest_X : FnScope N_newest_X ["word"] (defScope s_newest_X) := ⟨rfl, rfl, rfl, by decide +kernel, rfl, by decide +kernel, by decide +kernel⟩
theorem cl_newest_X (T : Bl mg) (Z : EcF P K mg c_StoreError c_InvalidInput c_NoPlace) (D : DfG K mg "newest" s_newest_X [] []) (C_good_word_X : ClG (L2.CX P w) P w K mg base 3 "good_word" s_good_word_X ["word", "field"] [] [] (spGw c_InvalidInput)) : ClG (L2.CX P w) P w K mg base 5 "newest" s_newest_X ["word"] [] [] (spWX c_InvalidInput "word") := by
  have nd := sc_newest_X.nd
  refine D.ok sc_newest_X (fun vs H Q E h => ?_) (fun f cdv A outer s H vs Q E hr h => ?_)
  · obtain ⟨z, rfl, _⟩ := h
    rfl
  · obtain ⟨z, rfl, ⟨hz, hg⟩, k⟩ := h
    have hu := hu64 hr
    refine ⟨_, (pss_cons (ps_expr (pe_g C_good_word_X (by exact hr.mono (by decide)) (fun σ => passC takesX σ) (fun _ _ _ _ _ _ us hl => match us, hl with | [_, _], _ => rfl) (pa_cons (pv 0) (pa_cons pe_str pa_nil))))
    pss_dead), ?_⟩
    try dsimp only [L2.cxOf, L2.Cx.nox]
    simp only [L2.start, N_newest_X, List.map_cons, List.map_nil, List.length_cons, List.length_nil, Nat.reduceAdd, Nat.reduceSub, List.replicate_succ, List.replicate_zero, List.cons_append, List.nil_append]

    walk_at "go"
    all_goals first
      | exact absurd (by assumption) hg
      | exact k _ _ Gx.new Gx.rel Gx.at_
def spRlX (cI : Addr) : Sp := fun vs H Q E => ∃ (z : Str) (i : Int) (f : Str), vs = [.str z, .int i] ∧ (z.length ≤ 1000 ∧ DueW "word" z (fRel i) (some f)) ∧ Rai cI f H E
theorem DueW.bad {fw f : Str} {z : Str} {g : List Bool → Option Str} (hg : ¬ Good z) (h : DueW fw z g (some f)) : f = fw := by
  rcases h with ⟨_, h⟩ | ⟨l, rfl, hl, _⟩
  · cases h; rfl
  · exact absurd ⟨l, rfl, hl⟩ hg
theorem DueW.good {fw f : Str} {z : Str} {g : List Bool → Option Str} (hg : Good z) (h : DueW fw z g (some f)) : ∃ l, z = tx l ∧ l.head? ≠ some false ∧ g l = some f := by
  rcases h with ⟨h, _⟩ | ⟨l, h1, hl, h2⟩
  · exact absurd hg h
  · exact ⟨l, h1, hl, h2.symm⟩
abbrev s_release_X : Stmt := (top 14)
abbrev N_release_X : List Str := ["word", "index"]
theorem sc_release_X : FnScope N_release_X ["word", "index"] (defScope s_release_X) := ⟨rfl, rfl, rfl, by decide +kernel, rfl, by decide +kernel, by decide +kernel⟩
theorem cl_release_X (T : Bl mg) (Z : EcF P K mg c_StoreError c_InvalidInput c_NoPlace) (D : DfG K mg "release" s_release_X [] []) (C_at_most_X : ClG (L2.CX P w) P w K mg base 3 "at_most" s_at_most_X ["value", "most", "field"] [] [] (spAtmX c_InvalidInput)) (C_ones : ClG CX0 P w K mg base 3 "_ones" s_ones ["word"] [] [] spOnes) (C_at_least_X : ClG (L2.CX P w) P w K mg base 3 "at_least" s_at_least_X ["value", "least", "field"] [] [] (spAtlX c_InvalidInput)) (C_good_word_X : ClG (L2.CX P w) P w K mg base 3 "good_word" s_good_word_X ["word", "field"] [] [] (spGw c_InvalidInput)) : ClG (L2.CX P w) P w K mg base 5 "release" s_release_X ["word", "index"] [] [] (spRlX c_InvalidInput) := by
  have nd := sc_release_X.nd
  refine D.ok sc_release_X (fun vs H Q E h => ?_) (fun f cdv A outer s H vs Q E hr h => ?_)
  · obtain ⟨z, i, f, rfl, _⟩ := h
    rfl
  · obtain ⟨z, i, f, rfl, ⟨hz, hd⟩, k⟩ := h
    have hu := hu64 hr
    refine ⟨_, (pss_cons (ps_expr (pe_g C_good_word_X (by exact hr.mono (by decide)) (fun σ => passC takesX σ) (fun _ _ _ _ _ _ us hl => match us, hl with | [_, _], _ => rfl) (pa_cons (pv 0) (pa_cons pe_str pa_nil))))
    (pss_cons (ps_expr (pe_g C_at_least_X (by exact hr.mono (by decide)) (fun σ => passC takesX σ) (fun _ _ _ _ _ _ us hl => match us, hl with | [_, _, _], _ => rfl) (pa_cons (pv 1) (pa_cons pe_int (pa_cons pe_str pa_nil)))))
    (pss_cons (ps_expr (pe_g C_at_most_X (by exact hr.mono (by decide)) (fun σ => passC takesX σ) (fun _ _ _ _ _ _ us hl => match us, hl with | [_, _, _], _ => rfl) (pa_cons (pv 1) (pa_cons (pe_op opSub (pe_g C_ones (by exact hr.mono (by decide)) (E := fun _ => E0) (fun σ => passC0 σ) (fun _ _ _ _ _ _ us hl => match us, hl with | [_], _ => rfl) (pa_cons (pv 0) pa_nil)) pe_int) (pa_cons pe_str pa_nil)))))
    pss_dead))), ?_⟩
    try dsimp only [L2.cxOf, L2.Cx.nox]
    simp only [L2.start, N_release_X, List.map_cons, List.map_nil, List.length_cons, List.length_nil, Nat.reduceAdd, Nat.reduceSub, List.replicate_succ, List.replicate_zero, List.cons_append, List.nil_append]

    by_cases hg : Good z
    · obtain ⟨l, rfl, hl, hf⟩ := hd.good hg
      rw [tx_len] at hz
      have hz2 : (tx l).length ≤ 1000 := by rw [tx_len]; exact hz
      clear hd
      walk_at "go"
      all_goals first
        | exact absurd hg (by assumption)
        | (unfold fRel at hf; repeat' (split at hf))
      all_goals first
        | (cases hf; done)
        | (cases hf; exact k _ _ Gx.new Gx.rel Gx.at_)
        | (exfalso; omega)
    · obtain rfl := hd.bad hg
      walk_at "go"
      all_goals first
        | exact absurd (by assumption) hg
        | exact k _ _ Gx.new Gx.rel Gx.at_
def spCyX (cI : Addr) : Sp := fun vs H Q E => ∃ (z : Str) (p : Int) (f : Str), vs = [.str z, .int p] ∧ (z.length ≤ 1000 ∧ DueW "word" z (fCar p) (some f)) ∧ Rai cI f H E
abbrev s_carry_X : Stmt := (top 15)
abbrev N_carry_X : List Str := ["word", "places"]
theorem sc_carry_X : FnScope N_carry_X ["word", "places"] (defScope s_carry_X) := ⟨rfl, rfl, rfl, by decide +kernel, rfl, by decide +kernel, by decide +kernel⟩
theorem cl_carry_X (T : Bl mg) (Z : EcF P K mg c_StoreError c_InvalidInput c_NoPlace) (D : DfG K mg "carry" s_carry_X [] []) (C_at_least_X : ClG (L2.CX P w) P w K mg base 3 "at_least" s_at_least_X ["value", "least", "field"] [] [] (spAtlX c_InvalidInput)) (C_good_word_X : ClG (L2.CX P w) P w K mg base 3 "good_word" s_good_word_X ["word", "field"] [] [] (spGw c_InvalidInput)) : ClG (L2.CX P w) P w K mg base 5 "carry" s_carry_X ["word", "places"] [] [] (spCyX c_InvalidInput) := by
  have nd := sc_carry_X.nd
  refine D.ok sc_carry_X (fun vs H Q E h => ?_) (fun f cdv A outer s H vs Q E hr h => ?_)
  · obtain ⟨z, p, f, rfl, _⟩ := h
    rfl
  · obtain ⟨z, p, f, rfl, ⟨hz, hd⟩, k⟩ := h
    have hu := hu64 hr
    refine ⟨_, (pss_cons (ps_expr (pe_g C_good_word_X (by exact hr.mono (by decide)) (fun σ => passC takesX σ) (fun _ _ _ _ _ _ us hl => match us, hl with | [_, _], _ => rfl) (pa_cons (pv 0) (pa_cons pe_str pa_nil))))
    (pss_cons (ps_expr (pe_g C_at_least_X (by exact hr.mono (by decide)) (fun σ => passC takesX σ) (fun _ _ _ _ _ _ us hl => match us, hl with | [_, _, _], _ => rfl) (pa_cons (pv 1) (pa_cons pe_int (pa_cons pe_str pa_nil)))))
    (pss_cons (ps_expr (pe_g C_at_least_X (by exact hr.mono (by decide)) (fun σ => passC takesX σ) (fun _ _ _ _ _ _ us hl => match us, hl with | [_, _, _], _ => rfl) (pa_cons (pv 1) (pa_cons (pe_callB (callLenK (K := K) (by rfl)) (by rfl) T.len (by decide +kernel) (pa_cons (pv 0) pa_nil)) (pa_cons pe_str pa_nil)))))
    pss_dead))), ?_⟩
    try dsimp only [L2.cxOf, L2.Cx.nox]
    simp only [L2.start, N_carry_X, List.map_cons, List.map_nil, List.length_cons, List.length_nil, Nat.reduceAdd, Nat.reduceSub, List.replicate_succ, List.replicate_zero, List.cons_append, List.nil_append]

    by_cases hg : Good z
    · obtain ⟨l, rfl, hl, hf⟩ := hd.good hg
      rw [tx_len] at hz
      have hz2 : (tx l).length ≤ 1000 := by rw [tx_len]; exact hz
      clear hd
      walk_at "go"
      all_goals first
        | exact absurd hg (by assumption)
        | (unfold fCar at hf; repeat' (split at hf))
      all_goals first
        | (cases hf; done)
        | (cases hf; exact k _ _ Gx.new Gx.rel Gx.at_)
        | (exfalso; omega)
    · obtain rfl := hd.bad hg
      walk_at "go"
      all_goals first
        | exact absurd (by assumption) hg
        | exact k _ _ Gx.new Gx.rel Gx.at_
def spCsX (cI : Addr) : Sp := fun vs H Q E => ∃ (z : Str) (c p : Int) (f : Str), vs = [.str z, .int c, .int p] ∧ (z.length ≤ 1000 ∧ DueW "word" z (fCars c p) (some f)) ∧ Rai cI f H E
abbrev s_carries_X : Stmt := (top 16)
abbrev N_carries_X : List Str := ["word", "count", "places"]
theorem sc_carries_X : FnScope N_carries_X ["word", "count", "places"] (defScope s_carries_X) := ⟨rfl, rfl, rfl, by decide +kernel, rfl, by decide +kernel, by decide +kernel⟩
theorem cl_carries_X (T : Bl mg) (Z : EcF P K mg c_StoreError c_InvalidInput c_NoPlace) (D : DfG K mg "carries" s_carries_X [] []) (C_at_least_X : ClG (L2.CX P w) P w K mg base 3 "at_least" s_at_least_X ["value", "least", "field"] [] [] (spAtlX c_InvalidInput)) (C_good_word_X : ClG (L2.CX P w) P w K mg base 3 "good_word" s_good_word_X ["word", "field"] [] [] (spGw c_InvalidInput)) : ClG (L2.CX P w) P w K mg base 5 "carries" s_carries_X ["word", "count", "places"] [] [] (spCsX c_InvalidInput) := by
  have nd := sc_carries_X.nd
  refine D.ok sc_carries_X (fun vs H Q E h => ?_) (fun f cdv A outer s H vs Q E hr h => ?_)
  · obtain ⟨z, c, p, f, rfl, _⟩ := h
    rfl
  · obtain ⟨z, c, p, f, rfl, ⟨hz, hd⟩, k⟩ := h
    have hu := hu64 hr
    refine ⟨_, (pss_cons (ps_expr (pe_g C_good_word_X (by exact hr.mono (by decide)) (fun σ => passC takesX σ) (fun _ _ _ _ _ _ us hl => match us, hl with | [_, _], _ => rfl) (pa_cons (pv 0) (pa_cons pe_str pa_nil))))
    (pss_cons (ps_expr (pe_g C_at_least_X (by exact hr.mono (by decide)) (fun σ => passC takesX σ) (fun _ _ _ _ _ _ us hl => match us, hl with | [_, _, _], _ => rfl) (pa_cons (pv 1) (pa_cons pe_int (pa_cons pe_str pa_nil)))))
    (pss_cons (ps_expr (pe_g C_at_least_X (by exact hr.mono (by decide)) (fun σ => passC takesX σ) (fun _ _ _ _ _ _ us hl => match us, hl with | [_, _, _], _ => rfl) (pa_cons (pv 2) (pa_cons pe_int (pa_cons pe_str pa_nil)))))
    (pss_cons (ps_expr (pe_g C_at_least_X (by exact hr.mono (by decide)) (fun σ => passC takesX σ) (fun _ _ _ _ _ _ us hl => match us, hl with | [_, _, _], _ => rfl) (pa_cons (pv 2) (pa_cons (pe_callB (callLenK (K := K) (by rfl)) (by rfl) T.len (by decide +kernel) (pa_cons (pv 0) pa_nil)) (pa_cons pe_str pa_nil)))))
    pss_dead)))), ?_⟩
    try dsimp only [L2.cxOf, L2.Cx.nox]
    simp only [L2.start, N_carries_X, List.map_cons, List.map_nil, List.length_cons, List.length_nil, Nat.reduceAdd, Nat.reduceSub, List.replicate_succ, List.replicate_zero, List.cons_append, List.nil_append]

    by_cases hg : Good z
    · obtain ⟨l, rfl, hl, hf⟩ := hd.good hg
      rw [tx_len] at hz
      have hz2 : (tx l).length ≤ 1000 := by rw [tx_len]; exact hz
      clear hd
      walk_at "go"
      all_goals first
        | exact absurd hg (by assumption)
        | (unfold fCars fCar at hf; repeat' (split at hf))
      all_goals first
        | (cases hf; done)
        | (cases hf; exact k _ _ Gx.new Gx.rel Gx.at_)
        | (exfalso; omega)
    · obtain rfl := hd.bad hg
      walk_at "go"
      all_goals first
        | exact absurd (by assumption) hg
        | exact k _ _ Gx.new Gx.rel Gx.at_
def spApX (cI : Addr) : Sp := fun vs H Q E => ∃ (z : Str) (p : Int) (r f : Str), vs = [.str z, .int p, .str r] ∧ (z.length ≤ 1000 ∧ DueW "word" z (fApp p r) (some f)) ∧ Rai cI f H E
theorem in01 {r : Str} : inV (.str r) [.str (tx [false]), .str (tx [true])] = decide (¬ (r ≠ "0" ∧ r ≠ "1")) := by
  have e0 : tx [false] = ("0" : Str) := by decide +kernel
  have e1 : tx [true] = ("1" : Str) := by decide +kernel
  rw [e0, e1]
  show (("0" : Str) == r || (("1" : Str) == r || false)) = _
  by_cases h0 : r = "0"
  · subst h0; decide +kernel
  · by_cases h1 : r = "1"
    · subst h1; decide +kernel
    · rw [show (("0" : Str) == r) = false from by simpa using Ne.symm h0, show (("1" : Str) == r) = false from by simpa using Ne.symm h1, decide_eq_false (by simp [h0, h1])]
      rfl
abbrev s_append_record_X : Stmt := (top 17)
abbrev N_append_record_X : List Str := ["word", "places", "record"]
theorem sc_append_record_X : FnScope N_append_record_X ["word", "places", "record"] (defScope s_append_record_X) := ⟨rfl, rfl, rfl, by decide +kernel, rfl, by decide +kernel, by decide +kernel⟩
theorem cl_append_record_X (T : Bl mg) (Z : EcF P K mg c_StoreError c_InvalidInput c_NoPlace) (D : DfG K mg "append_record" s_append_record_X [.str "1"] []) (C_at_least_X : ClG (L2.CX P w) P w K mg base 3 "at_least" s_at_least_X ["value", "least", "field"] [] [] (spAtlX c_InvalidInput)) (C_good_word_X : ClG (L2.CX P w) P w K mg base 3 "good_word" s_good_word_X ["word", "field"] [] [] (spGw c_InvalidInput)) : ClG (L2.CX P w) P w K mg base 5 "append_record" s_append_record_X ["word", "places", "record"] [.str "1"] [] (spApX c_InvalidInput) := by
  have nd := sc_append_record_X.nd
  refine D.ok sc_append_record_X (fun vs H Q E h => ?_) (fun f cdv A outer s H vs Q E hr h => ?_)
  · obtain ⟨z, p, r, f, rfl, _⟩ := h
    rfl
  · obtain ⟨z, p, r, f, rfl, ⟨hz, hd⟩, k⟩ := h
    have hu := hu64 hr
    refine ⟨_, (pss_cons (ps_expr (pe_g C_good_word_X (by exact hr.mono (by decide)) (fun σ => passC takesX σ) (fun _ _ _ _ _ _ us hl => match us, hl with | [_, _], _ => rfl) (pa_cons (pv 0) (pa_cons pe_str pa_nil))))
    (pss_cons (ps_expr (pe_g C_at_least_X (by exact hr.mono (by decide)) (fun σ => passC takesX σ) (fun _ _ _ _ _ _ us hl => match us, hl with | [_, _, _], _ => rfl) (pa_cons (pv 1) (pa_cons pe_int (pa_cons pe_str pa_nil)))))
    (pss_cons (ps_if (pt_cmpR (opNotInK (K := K) (by rfl)) (pv 2) (pe_tup (pa_cons pe_str (pa_cons pe_str pa_nil))) (by rfl))
      (pss_one (ps_raise rfl takesX (pmk1 (ex_InvalidInput Z.d_InvalidInput) (by exact hr.mono (by decide)) rfl (pa_cons pe_str pa_nil))))
      pss_nil)
    (pss_cons (ps_expr (pe_g C_at_least_X (by exact hr.mono (by decide)) (fun σ => passC takesX σ) (fun _ _ _ _ _ _ us hl => match us, hl with | [_, _, _], _ => rfl) (pa_cons (pv 1) (pa_cons (pe_callB (callLenK (K := K) (by rfl)) (by rfl) T.len (by decide +kernel) (pa_cons (pv 0) pa_nil)) (pa_cons pe_str pa_nil)))))
    pss_dead)))), ?_⟩
    try dsimp only [L2.cxOf, L2.Cx.nox]
    simp only [L2.start, N_append_record_X, List.map_cons, List.map_nil, List.length_cons, List.length_nil, Nat.reduceAdd, Nat.reduceSub, List.replicate_succ, List.replicate_zero, List.cons_append, List.nil_append]

    by_cases hg : Good z
    · obtain ⟨l, rfl, hl, hf⟩ := hd.good hg
      rw [tx_len] at hz
      have hz2 : (tx l).length ≤ 1000 := by rw [tx_len]; exact hz
      clear hd
      walk_at "go"
      case' refine_1.refine_1 =>
        refine Gx.g_inT rfl rfl in01 ?_
        by_cases hr : r ≠ "0" ∧ r ≠ "1"
        case' pos => rw [decide_eq_false (by simpa using hr), show (if true = true then !false else false) = true from rfl]
        case' neg => rw [decide_eq_true hr, show (if true = true then !true else true) = false from rfl]
        all_goals walk_at "go"
      all_goals first
        | exact absurd hg (by assumption)
        | (unfold fApp at hf; repeat' (split at hf))
      all_goals first
        | (cases hf; done)
        | (cases hf; exact k _ _ Gx.new Gx.rel Gx.at_)
        | (exfalso; omega)
        | contradiction
    · obtain rfl := hd.bad hg
      walk_at "go"
      all_goals first
        | exact absurd (by assumption) hg
        | exact k _ _ Gx.new Gx.rel Gx.at_
def spStX (cI : Addr) : Sp := fun vs H Q E => ∃ (z : Str) (o : Option Int) (c p : Int) (late : Bool) (f : Str), vs = [.str z, iv o, .int c, .int p, .bl late] ∧ (z.length ≤ 1000 ∧ DueW "word" z (fStp o c p) (some f)) ∧ Rai cI f H E
abbrev s_step_X : Stmt := (top 18)
abbrev N_step_X : List Str := ["word", "index", "count", "places", "late", "written", "others", "left"]
theorem sc_step_X : FnScope N_step_X ["word", "index", "count", "places", "late"] (defScope s_step_X) := ⟨rfl, rfl, rfl, by decide +kernel, rfl, by decide +kernel, by decide +kernel⟩
theorem cl_step_X (T : Bl mg) (Z : EcF P K mg c_StoreError c_InvalidInput c_NoPlace) (D : DfG K mg "step" s_step_X [] [("late", .bl false)]) (C_at_least_X : ClG (L2.CX P w) P w K mg base 3 "at_least" s_at_least_X ["value", "least", "field"] [] [] (spAtlX c_InvalidInput)) (C_at_most_X : ClG (L2.CX P w) P w K mg base 3 "at_most" s_at_most_X ["value", "most", "field"] [] [] (spAtmX c_InvalidInput)) (C_ones : ClG CX0 P w K mg base 3 "_ones" s_ones ["word"] [] [] spOnes) (C_good_word_X : ClG (L2.CX P w) P w K mg base 3 "good_word" s_good_word_X ["word", "field"] [] [] (spGw c_InvalidInput)) : ClG (L2.CX P w) P w K mg base 5 "step" s_step_X ["word", "index", "count", "places", "late"] [] [("late", .bl false)] (spStX c_InvalidInput) := by
  have nd := sc_step_X.nd
  refine D.ok sc_step_X (fun vs H Q E h => ?_) (fun f cdv A outer s H vs Q E hr h => ?_)
  · obtain ⟨z, o, c, p, late, f, rfl, _⟩ := h
    rfl
  · obtain ⟨z, o, c, p, late, f, rfl, ⟨hz, hd⟩, k⟩ := h
    have hu := hu64 hr
    refine ⟨_, (pss_cons (ps_expr (pe_g C_good_word_X (by exact hr.mono (by decide)) (fun σ => passC takesX σ) (fun _ _ _ _ _ _ us hl => match us, hl with | [_, _], _ => rfl) (pa_cons (pv 0) (pa_cons pe_str pa_nil))))
    (pss_cons (ps_if (pt_cmpR opNotN (pv 1) pe_non (nomark _))
      (pss_one (ps_expr (pe_g C_at_least_X (by exact hr.mono (by decide)) (fun σ => passC takesX σ) (fun _ _ _ _ _ _ us hl => match us, hl with | [_, _, _], _ => rfl) (pa_cons (pv 1) (pa_cons pe_int (pa_cons pe_str pa_nil))))))
      pss_nil)
    (pss_cons (ps_expr (pe_g C_at_least_X (by exact hr.mono (by decide)) (fun σ => passC takesX σ) (fun _ _ _ _ _ _ us hl => match us, hl with | [_, _, _], _ => rfl) (pa_cons (pv 2) (pa_cons pe_int (pa_cons pe_str pa_nil)))))
    (pss_cons (ps_expr (pe_g C_at_least_X (by exact hr.mono (by decide)) (fun σ => passC takesX σ) (fun _ _ _ _ _ _ us hl => match us, hl with | [_, _, _], _ => rfl) (pa_cons (pv 3) (pa_cons pe_int (pa_cons pe_str pa_nil)))))
    (pss_cons (ps_if (pt_cmpR opNotN (pv 1) pe_non (nomark _))
      (pss_one (ps_expr (pe_g C_at_most_X (by exact hr.mono (by decide)) (fun σ => passC takesX σ) (fun _ _ _ _ _ _ us hl => match us, hl with | [_, _, _], _ => rfl) (pa_cons (pv 1) (pa_cons (pe_op opSub (pe_g C_ones (by exact hr.mono (by decide)) (E := fun _ => E0) (fun σ => passC0 σ) (fun _ _ _ _ _ _ us hl => match us, hl with | [_], _ => rfl) (pa_cons (pv 0) pa_nil)) pe_int) (pa_cons pe_str pa_nil))))))
      pss_nil)
    (pss_cons (ps_expr (pe_g C_at_least_X (by exact hr.mono (by decide)) (fun σ => passC takesX σ) (fun _ _ _ _ _ _ us hl => match us, hl with | [_, _, _], _ => rfl) (pa_cons (pv 3) (pa_cons (pe_callB (callLenK (K := K) (by rfl)) (by rfl) T.len (by decide +kernel) (pa_cons (pv 0) pa_nil)) (pa_cons pe_str pa_nil)))))
    pss_dead)))))), ?_⟩
    try dsimp only [L2.cxOf, L2.Cx.nox]
    simp only [L2.start, N_step_X, List.map_cons, List.map_nil, List.length_cons, List.length_nil, Nat.reduceAdd, Nat.reduceSub, List.replicate_succ, List.replicate_zero, List.cons_append, List.nil_append]

    by_cases hg : Good z
    · obtain ⟨l, rfl, hl, hf⟩ := hd.good hg
      rw [tx_len] at hz
      have hz2 : (tx l).length ≤ 1000 := by rw [tx_len]; exact hz
      clear hd
      cases o with
      | none =>
        simp only [iv]
        walk_at "go"
        all_goals simp only [fStp, negO, overO, Bool.false_eq_true, if_false] at hf
        all_goals repeat' (split at hf)
        all_goals first
          | (cases hf; done)
          | (cases hf; exact k _ _ Gx.new Gx.rel Gx.at_)
          | (exfalso; omega)
          | exact absurd hg (by assumption)
      | some i =>
        simp only [iv]
        walk_at "go"
        all_goals simp only [fStp, negO, overO, decide_eq_true_eq] at hf
        all_goals repeat' (split at hf)
        all_goals first
          | (cases hf; done)
          | (cases hf; exact k _ _ Gx.new Gx.rel Gx.at_)
          | (exfalso; omega)
          | exact absurd hg (by assumption)
    · obtain rfl := hd.bad hg
      walk_at "go"
      all_goals first
        | exact absurd (by assumption) hg
        | exact k _ _ Gx.new Gx.rel Gx.at_
def spDmX (cI : Addr) : Sp := fun vs H Q E => ∃ (y z f : Str), vs = [.str y, .str z] ∧ (y.length ≤ 1000 ∧ z.length ≤ 1000 ∧ ((¬ Good y ∧ f = "first") ∨ (Good y ∧ ¬ Good z ∧ f = "second"))) ∧ Rai cI f H E
abbrev s_dominates_X : Stmt := (top 19)
abbrev N_dominates_X : List Str := ["first", "second", "better", "worse", "depth", "allowed"]
theorem sc_dominates_X : FnScope N_dominates_X ["first", "second"] (defScope s_dominates_X) := ⟨rfl, rfl, rfl, by decide +kernel, rfl, by decide +kernel, by decide +kernel⟩
theorem cl_dominates_X (T : Bl mg) (Z : EcF P K mg c_StoreError c_InvalidInput c_NoPlace) (D : DfG K mg "dominates" s_dominates_X [] []) (C_good_word_X : ClG (L2.CX P w) P w K mg base 3 "good_word" s_good_word_X ["word", "field"] [] [] (spGw c_InvalidInput)) : ClG (L2.CX P w) P w K mg base 5 "dominates" s_dominates_X ["first", "second"] [] [] (spDmX c_InvalidInput) := by
  have nd := sc_dominates_X.nd
  refine D.ok sc_dominates_X (fun vs H Q E h => ?_) (fun f cdv A outer s H vs Q E hr h => ?_)
  · obtain ⟨y, z, f, rfl, _⟩ := h
    rfl
  · obtain ⟨y, z, f, rfl, ⟨hy, hz, hd⟩, k⟩ := h
    have hu := hu64 hr
    refine ⟨_, (pss_cons (ps_expr (pe_g C_good_word_X (by exact hr.mono (by decide)) (fun σ => passC takesX σ) (fun _ _ _ _ _ _ us hl => match us, hl with | [_, _], _ => rfl) (pa_cons (pv 0) (pa_cons pe_str pa_nil))))
    (pss_cons (ps_expr (pe_g C_good_word_X (by exact hr.mono (by decide)) (fun σ => passC takesX σ) (fun _ _ _ _ _ _ us hl => match us, hl with | [_, _], _ => rfl) (pa_cons (pv 1) (pa_cons pe_str pa_nil))))
    pss_dead)), ?_⟩
    try dsimp only [L2.cxOf, L2.Cx.nox]
    simp only [L2.start, N_dominates_X, List.map_cons, List.map_nil, List.length_cons, List.length_nil, Nat.reduceAdd, Nat.reduceSub, List.replicate_succ, List.replicate_zero, List.cons_append, List.nil_append]

    rcases hd with ⟨h1, rfl⟩ | ⟨h1, h2, rfl⟩
    all_goals walk_at "go"
    all_goals first
      | exact absurd (by assumption) h1
      | exact absurd (by assumption) h2
      | exact absurd h1 (by assumption)
      | exact k _ _ Gx.new Gx.rel Gx.at_
def spBsX (cI : Addr) : Sp := fun vs H Q E => ∃ (c : Int) (f : Str), vs = [.int c] ∧ fBest c = some f ∧ Rai cI f H E
abbrev s_best_word_X : Stmt := (top 21)
abbrev N_best_word_X : List Str := ["count"]
theorem sc_best_word_X : FnScope N_best_word_X ["count"] (defScope s_best_word_X) := ⟨rfl, rfl, rfl, by decide +kernel, rfl, by decide +kernel, by decide +kernel⟩
theorem cl_best_word_X (T : Bl mg) (Z : EcF P K mg c_StoreError c_InvalidInput c_NoPlace) (D : DfG K mg "best_word" s_best_word_X [] []) (C_at_least_X : ClG (L2.CX P w) P w K mg base 3 "at_least" s_at_least_X ["value", "least", "field"] [] [] (spAtlX c_InvalidInput)) : ClG (L2.CX P w) P w K mg base 5 "best_word" s_best_word_X ["count"] [] [] (spBsX c_InvalidInput) := by
  have nd := sc_best_word_X.nd
  refine D.ok sc_best_word_X (fun vs H Q E h => ?_) (fun f cdv A outer s H vs Q E hr h => ?_)
  · obtain ⟨c, f, rfl, _⟩ := h
    rfl
  · obtain ⟨c, f, rfl, hf, k⟩ := h
    have hu := hu64 hr
    refine ⟨_, (pss_cons (ps_expr (pe_g C_at_least_X (by exact hr.mono (by decide)) (fun σ => passC takesX σ) (fun _ _ _ _ _ _ us hl => match us, hl with | [_, _, _], _ => rfl) (pa_cons (pv 0) (pa_cons pe_int (pa_cons pe_str pa_nil)))))
    pss_dead), ?_⟩
    try dsimp only [L2.cxOf, L2.Cx.nox]
    simp only [L2.start, N_best_word_X, List.map_cons, List.map_nil, List.length_cons, List.length_nil, Nat.reduceAdd, Nat.reduceSub, List.replicate_succ, List.replicate_zero, List.cons_append, List.nil_append]

    walk_at "go"
    all_goals
      unfold fBest at hf
      split at hf
    all_goals first
      | (cases hf; done)
      | (cases hf; exact k _ _ Gx.new Gx.rel Gx.at_)
      | (exfalso; omega)
def spWsX (cI : Addr) : Sp := fun vs H Q E => ∃ (c n : Int) (f : Str), vs = [.int c, .int n] ∧ fWor c n = some f ∧ Rai cI f H E
abbrev s_worst_word_X : Stmt := (top 22)
abbrev N_worst_word_X : List Str := ["count", "length"]
theorem sc_worst_word_X : FnScope N_worst_word_X ["count", "length"] (defScope s_worst_word_X) := ⟨rfl, rfl, rfl, by decide +kernel, rfl, by decide +kernel, by decide +kernel⟩
theorem cl_worst_word_X (T : Bl mg) (Z : EcF P K mg c_StoreError c_InvalidInput c_NoPlace) (D : DfG K mg "worst_word" s_worst_word_X [] []) (C_at_most_X : ClG (L2.CX P w) P w K mg base 3 "at_most" s_at_most_X ["value", "most", "field"] [] [] (spAtmX c_InvalidInput)) (C_at_least_X : ClG (L2.CX P w) P w K mg base 3 "at_least" s_at_least_X ["value", "least", "field"] [] [] (spAtlX c_InvalidInput)) : ClG (L2.CX P w) P w K mg base 5 "worst_word" s_worst_word_X ["count", "length"] [] [] (spWsX c_InvalidInput) := by
  have nd := sc_worst_word_X.nd
  refine D.ok sc_worst_word_X (fun vs H Q E h => ?_) (fun f cdv A outer s H vs Q E hr h => ?_)
  · obtain ⟨c, n, f, rfl, _⟩ := h
    rfl
  · obtain ⟨c, n, f, rfl, hf, k⟩ := h
    have hu := hu64 hr
    refine ⟨_, (pss_cons (ps_expr (pe_g C_at_least_X (by exact hr.mono (by decide)) (fun σ => passC takesX σ) (fun _ _ _ _ _ _ us hl => match us, hl with | [_, _, _], _ => rfl) (pa_cons (pv 0) (pa_cons pe_int (pa_cons pe_str pa_nil)))))
    (pss_cons (ps_expr (pe_g C_at_least_X (by exact hr.mono (by decide)) (fun σ => passC takesX σ) (fun _ _ _ _ _ _ us hl => match us, hl with | [_, _, _], _ => rfl) (pa_cons (pv 1) (pa_cons (pv 0) (pa_cons pe_str pa_nil)))))
    (pss_cons (ps_if (pt_cmpR (opEqK (K := K) (by rfl) (by exact hu)) (pv 0) pe_int (nomark _))
      (pss_one (ps_expr (pe_g C_at_most_X (by exact hr.mono (by decide)) (fun σ => passC takesX σ) (fun _ _ _ _ _ _ us hl => match us, hl with | [_, _, _], _ => rfl) (pa_cons (pv 1) (pa_cons pe_int (pa_cons pe_str pa_nil))))))
      pss_nil)
    pss_dead))), ?_⟩
    try dsimp only [L2.cxOf, L2.Cx.nox]
    simp only [L2.start, N_worst_word_X, List.map_cons, List.map_nil, List.length_cons, List.length_nil, Nat.reduceAdd, Nat.reduceSub, List.replicate_succ, List.replicate_zero, List.cons_append, List.nil_append]

    walk_at "gos"
    all_goals
      unfold fWor at hf
      repeat' (split at hf)
    all_goals first
      | (cases hf; done)
      | (cases hf; exact k _ _ Gx.new Gx.rel Gx.at_)
      | (exfalso; omega)

def spWhX (cI : Addr) : Sp := fun vs H Q E => ∃ (v : V) (z : Str), vs = [v, .str z] ∧ (z.length ≤ 1000 ∧ ((∃ i, v = .int i) ∨ ∃ b, v = .bl b)) ∧ ((∃ i, v = .int i) → Q .non H) ∧ ((∃ b, v = .bl b) → Rai cI z H E)
abbrev s_whole_number_X : Stmt := (top 7)
abbrev N_whole_number_X : List Str := ["value", "field"]
theorem sc_whole_number_X : FnScope N_whole_number_X ["value", "field"] (defScope s_whole_number_X) := ⟨rfl, rfl, rfl, by decide +kernel, rfl, by decide +kernel, by decide +kernel⟩
theorem cl_whole_number_X (T : Bl mg) (Z : EcF P K mg c_StoreError c_InvalidInput c_NoPlace) (D : DfG K mg "whole_number" s_whole_number_X [] [])  : ClG (L2.CX P w) P w K mg base 3 "whole_number" s_whole_number_X ["value", "field"] [] [] (spWhX c_InvalidInput) := by
  have nd := sc_whole_number_X.nd
  refine D.ok sc_whole_number_X (fun vs H Q E h => ?_) (fun f cdv A outer s H vs Q E hr h => ?_)
  · obtain ⟨v, z, rfl, _⟩ := h
    rfl
  · obtain ⟨v, z, rfl, ⟨hz, hv⟩, k, k2⟩ := h
    have hu := hu64 hr
    refine ⟨_, (pss_one (ps_if (PW.pt (pw_or (pt_val (pe_callB (callIsiK (K := K) (by rfl)) (by rfl) T.isinstance (by decide +kernel) (pa_cons (pv 0) (pa_cons (pe_bltn (v := .ty "bool") (by rfl) T.bool (by decide +kernel) rfl) pa_nil)))) (pw_or1 (pt_not (pt_val (pe_callB (callIsiK (K := K) (by rfl)) (by rfl) T.isinstance (by decide +kernel) (pa_cons (pv 0) (pa_cons (pe_bltn (v := .ty "int") (by rfl) T.int (by decide +kernel) rfl) pa_nil))))))))
      (pss_one (ps_raise rfl takesX (pmk1 (ex_InvalidInput Z.d_InvalidInput) (by exact hr.mono (by decide)) rfl (pa_cons (pv 1) pa_nil))))
      pss_nil)), ?_⟩
    try dsimp only [L2.cxOf, L2.Cx.nox]
    simp only [L2.start, N_whole_number_X, List.map_cons, List.map_nil, List.length_cons, List.length_nil, Nat.reduceAdd, Nat.reduceSub, List.replicate_succ, List.replicate_zero, List.cons_append, List.nil_append]

    have hf : FmtV (.str z) := .inl ⟨z, rfl, hz⟩
    rcases hv with ⟨i, rfl⟩ | ⟨b, rfl⟩
    · walk_at "gos"
      exact k ⟨i, rfl⟩
    · walk_at "gos"
      exact k2 ⟨b, rfl⟩ _ _ Gx.new Gx.rel Gx.at_
local macro_rules | `(tactic| walk_at "call") => `(tactic| ((with_reducible show spWhX _ _ _ _ _); refine ⟨_, _, rfl, ⟨by decide +kernel, by first | exact .inl ⟨_, rfl⟩ | exact .inr ⟨_, rfl⟩⟩, fun hA => ?_, fun hA d_ H_ np_ e_ hp_ => ?_⟩))
theorem dec_of : ∀ ds : List Int, (∀ (i : Nat) (d e : Int), ds[i]? = some d → (ds.drop 1 ++ [0])[i]? = some e → d > e) → Dec ds
  | [], _ => trivial
  | d :: r, h => by
    refine ⟨?_, dec_of r fun i a b ha hb => ?_⟩
    · cases r with
      | nil => exact h 0 d 0 rfl rfl
      | cons e r => exact h 0 d e rfl rfl
    · refine h (i + 1) a b (by simpa using ha) ?_
      cases r with
      | nil => simp at ha
      | cons e r => simpa using hb
def spWoX (cI : Addr) (K : PySem.W.Frag) : Sp := fun vs H Q E => ∃ (p : Addr) (xs : List V), vs = [.ref p] ∧ (SqC K H p xs ∧ xs.length ≤ 1000 ∧ ((∃ ds : List Int, xs = ds.map V.int ∧ ¬ Dec ds) ∨ ∃ (ds : List Int) (b : Bool), xs = ds.map V.int ++ [.bl b])) ∧ Rai cI "depths" H E
abbrev s_word_of_X : Stmt := (top 13)
abbrev N_word_of_X : List Str := ["depths", "depth", "following", "lower"]
theorem sc_word_of_X : FnScope N_word_of_X ["depths"] (defScope s_word_of_X) := ⟨rfl, rfl, rfl, by decide +kernel, rfl, by decide +kernel, by decide +kernel⟩
theorem cl_word_of_X (T : Bl mg) (Z : EcF P K mg c_StoreError c_InvalidInput c_NoPlace) (D : DfG K mg "word_of" s_word_of_X [] []) (C_whole_number_X : ClG (L2.CX P w) P w K mg base 3 "whole_number" s_whole_number_X ["value", "field"] [] [] (spWhX c_InvalidInput)) : ClG (L2.CX P w) P w K mg base 5 "word_of" s_word_of_X ["depths"] [] [] (spWoX c_InvalidInput K) := by
  have nd := sc_word_of_X.nd
  refine D.ok sc_word_of_X (fun vs H Q E h => ?_) (fun f cdv A outer s H vs Q E hr h => ?_)
  · obtain ⟨p, xs, rfl, _⟩ := h
    rfl
  · obtain ⟨p, xs, rfl, ⟨hs, hl, hd⟩, k⟩ := h
    have hu := hu64 hr
    refine ⟨_, (pss_cons (ps_for (passes_of rfl) rfl (pi_listK (K := K) (by rfl) (pv 0)) (pg_name (i := 1) nd rfl (Or.inl rfl))
      (pss_one (ps_expr (pe_g C_whole_number_X (by exact hr.mono (by decide)) (fun σ => passC takesX σ) (fun _ _ _ _ _ _ us hl => match us, hl with | [_, _], _ => rfl) (pa_cons (pv 1) (pa_cons pe_str pa_nil))))))
    (pss_cons (ps_set (i := 2) nd rfl (Or.inl rfl) (pe_op (opAddK (K := K) (by rfl)) (pe_slice (slAnyK (K := K) (by rfl)) (pv 0) (po_some pe_int) po_none) (pe_lst (pa_cons pe_int pa_nil))))
    (pss_cons (ps_for (passes_of rfl) rfl (pi_zipK (K := K) (by rfl) (by rfl) T.zip (pa_cons (pv 0) (pa_cons (pv 2) pa_nil))) (pg_tup rfl (pgs_cons (pg_name (i := 1) nd rfl (Or.inl rfl)) (pgs_cons (pg_name (i := 3) nd rfl (Or.inl rfl)) pgs_nil)))
      (pss_one (ps_if (pt_cmpR opLe (pv 1) (pv 3) (nomark _))
      (pss_one (ps_raise rfl takesX (pmk1 (ex_InvalidInput Z.d_InvalidInput) (by exact hr.mono (by decide)) rfl (pa_cons pe_str pa_nil))))
      pss_nil)))
    pss_dead))), ?_⟩
    try dsimp only [L2.cxOf, L2.Cx.nox]
    simp only [L2.start, N_word_of_X, List.map_cons, List.map_nil, List.length_cons, List.length_nil, Nat.reduceAdd, Nat.reduceSub, List.replicate_succ, List.replicate_zero, List.cons_append, List.nil_append]

    rcases hd with ⟨ds, rfl, hd⟩ | ⟨ds, b, rfl⟩
    · rw [List.length_map] at hl
      walk_at "gos"
      refine Gx.forL [] (fun i σ' H' => ∃ s1 s2 s3, σ' = [some (.ref p), s1, s2, s3]) ⟨_, _, _, rfl⟩ ?_ ?_
      · rintro i x σ' H' hx e ⟨s1, s2, s3, rfl⟩
        obtain ⟨d, _, rfl⟩ := Gx.map_at hx
        walk_at "gos"
        · exact Gx.li ⟨_, _, _, rfl⟩
        · rename_i hA _ _ _ _ _
          obtain ⟨b, hb⟩ := hA
          cases hb
      · rintro σ' H' e ⟨s1, s2, s3, rfl⟩
        have hcl := cutV_length (ds.map V.int) (some 1) none
        rw [List.length_map] at hcl
        walk_at "gos"
        rename_i p1 H1 np1 e1 hp1 p2 H2 np2 e2 hp2 p3 H3 np3 e3 hp3
        have ef : cutV (ds.map V.int) (some 1) none ++ [V.int 0] = (ds.drop 1 ++ [0]).map V.int := by
          rw [List.map_append, ← Gx.cut1]
          rfl
        rw [ef] at hp3
        have hlen : min ((ds.map V.int).length) (((ds.drop 1 ++ [0]).map V.int).length) = ds.length := by
          simp only [List.length_map, List.length_append, List.length_drop, List.length_cons, List.length_nil]
          omega
        refine Gx.forZ [] ds.length (fun i σ' H' => ∃ s1 s3, σ' = [some (.ref p), s1, some (.ref p3), s3] ∧ ∀ (j : Nat) (d e : Int), j < i → ds[j]? = some d → (ds.drop 1 ++ [0])[j]? = some e → d > e) hlen ⟨_, _, rfl, fun j d e h => absurd h (Nat.not_lt_zero _)⟩ ?_ ?_
        · rintro i c d x σ' H' H'' hi hc hd' e ⟨s1, s3, rfl, hall⟩ y
          obtain ⟨c, ic, rfl⟩ := Gx.map_at hc
          obtain ⟨d, id', rfl⟩ := Gx.map_at hd'
          walk_at "gos"
          · exact k _ _ Gx.new Gx.rel Gx.at_
          · refine Gx.li ⟨_, _, rfl, fun j a b hj h1 h2 => ?_⟩
            by_cases z : j = i
            · subst z
              rw [ic] at h1
              rw [id'] at h2
              cases h1
              cases h2
              omega
            · exact hall j a b (by omega) h1 h2
        · rintro σ' H' e ⟨s1, s3, rfl, hall⟩
          refine absurd (dec_of ds fun i d e h1 h2 => hall i d e (List.getElem?_eq_some_iff.mp h1).1 h1 h2) hd
    · rw [List.length_append, List.length_map] at hl
      walk_at "gos"
      refine Gx.forL [] (fun i σ' H' => i ≤ ds.length ∧ ∃ s1 s2 s3, σ' = [some (.ref p), s1, s2, s3]) ⟨Nat.zero_le _, _, _, _, rfl⟩ ?_ ?_
      · rintro i x σ' H' hx e ⟨hi, s1, s2, s3, rfl⟩
        by_cases z : i < ds.length
        · rw [List.getElem?_append_left (by rw [List.length_map]; exact z)] at hx
          obtain ⟨d, _, rfl⟩ := Gx.map_at hx
          walk_at "gos"
          · exact Gx.li ⟨z, _, _, _, rfl⟩
          · rename_i hA _ _ _ _ _
            obtain ⟨b, hb⟩ := hA
            cases hb
        · obtain rfl : i = ds.length := by omega
          rw [List.getElem?_append_right (by rw [List.length_map]; exact Nat.le_refl _), List.length_map, Nat.sub_self] at hx
          cases hx
          walk_at "gos"
          · rename_i hA
            obtain ⟨i, hb⟩ := hA
            cases hb
          · exact k _ _ Gx.new Gx.rel Gx.at_
      · rintro σ' H' e ⟨hi, s1, s2, s3, rfl⟩
        rw [List.length_append, List.length_map] at hi
        exact absurd hi (by simp)
abbrev s_normal_J : Stmt := (top 10)
theorem cl_normal_J (T : Bl mg) (Z : EcF P K mg c_StoreError c_InvalidInput c_NoPlace) (D : DfG K mg "normal" s_normal_J [] []) (C_normal : ClG CX0 P w K mg base 5 "normal" s_normal ["text"] [] [] spNormal) (C_normal_X : ClG (L2.CX P w) P w K mg base 3 "normal" s_normal_X ["text"] [] [] (spNoX c_InvalidInput)) : ClG (L2.CX P w) P w K mg base 5 "normal" s_normal_J ["text"] [] [] (Gx.spOr spNormal (spNoX c_InvalidInput)) := Gx.ClG.or C_normal C_normal_X (by decide) (by decide)

abbrev s_living_J : Stmt := (top 11)
theorem cl_living_J (T : Bl mg) (Z : EcF P K mg c_StoreError c_InvalidInput c_NoPlace) (D : DfG K mg "living" s_living_J [] []) (C_living : ClG CX0 P w K mg base 5 "living" s_living ["word"] [] [] spLiving) (C_living_X : ClG (L2.CX P w) P w K mg base 5 "living" s_living_X ["word"] [] [] (spWX c_InvalidInput "word")) : ClG (L2.CX P w) P w K mg base 5 "living" s_living_J ["word"] [] [] (Gx.spOr spLiving (spWX c_InvalidInput "word")) := Gx.ClG.or C_living C_living_X (by decide) (by decide)

abbrev s_depths_J : Stmt := (top 12)
theorem cl_depths_J (T : Bl mg) (Z : EcF P K mg c_StoreError c_InvalidInput c_NoPlace) (D : DfG K mg "depths" s_depths_J [] []) (C_depths : ClG CX0 P w K mg base 5 "depths" s_depths ["word"] [] [] spDepths) (C_depths_X : ClG (L2.CX P w) P w K mg base 5 "depths" s_depths_X ["word"] [] [] (spWX c_InvalidInput "word")) : ClG (L2.CX P w) P w K mg base 5 "depths" s_depths_J ["word"] [] [] (Gx.spOr spDepths (spWX c_InvalidInput "word")) := Gx.ClG.or C_depths C_depths_X (by decide) (by decide)

abbrev s_newest_J : Stmt := (top 20)
theorem cl_newest_J (T : Bl mg) (Z : EcF P K mg c_StoreError c_InvalidInput c_NoPlace) (D : DfG K mg "newest" s_newest_J [] []) (C_newest : ClG CX0 P w K mg base 5 "newest" s_newest ["word"] [] [] spNewest) (C_newest_X : ClG (L2.CX P w) P w K mg base 5 "newest" s_newest_X ["word"] [] [] (spWX c_InvalidInput "word")) : ClG (L2.CX P w) P w K mg base 5 "newest" s_newest_J ["word"] [] [] (Gx.spOr spNewest (spWX c_InvalidInput "word")) := Gx.ClG.or C_newest C_newest_X (by decide) (by decide)

abbrev s_release_J : Stmt := (top 14)
theorem cl_release_J (T : Bl mg) (Z : EcF P K mg c_StoreError c_InvalidInput c_NoPlace) (D : DfG K mg "release" s_release_J [] []) (C_release : ClG CX0 P w K mg base 7 "release" s_release ["word", "index"] [] [] spRelease) (C_release_X : ClG (L2.CX P w) P w K mg base 5 "release" s_release_X ["word", "index"] [] [] (spRlX c_InvalidInput)) : ClG (L2.CX P w) P w K mg base 7 "release" s_release_J ["word", "index"] [] [] (Gx.spOr spRelease (spRlX c_InvalidInput)) := Gx.ClG.or C_release C_release_X (by decide) (by decide)

abbrev s_carry_J : Stmt := (top 15)
theorem cl_carry_J (T : Bl mg) (Z : EcF P K mg c_StoreError c_InvalidInput c_NoPlace) (D : DfG K mg "carry" s_carry_J [] []) (C_carry : ClG CX0 P w K mg base 7 "carry" s_carry ["word", "places"] [] [] spCarry) (C_carry_X : ClG (L2.CX P w) P w K mg base 5 "carry" s_carry_X ["word", "places"] [] [] (spCyX c_InvalidInput)) : ClG (L2.CX P w) P w K mg base 7 "carry" s_carry_J ["word", "places"] [] [] (Gx.spOr spCarry (spCyX c_InvalidInput)) := Gx.ClG.or C_carry C_carry_X (by decide) (by decide)

abbrev s_carries_J : Stmt := (top 16)
theorem cl_carries_J (T : Bl mg) (Z : EcF P K mg c_StoreError c_InvalidInput c_NoPlace) (D : DfG K mg "carries" s_carries_J [] []) (C_carries : ClG CX0 P w K mg base 9 "carries" s_carries ["word", "count", "places"] [] [] spCarries) (C_carries_X : ClG (L2.CX P w) P w K mg base 5 "carries" s_carries_X ["word", "count", "places"] [] [] (spCsX c_InvalidInput)) : ClG (L2.CX P w) P w K mg base 9 "carries" s_carries_J ["word", "count", "places"] [] [] (Gx.spOr spCarries (spCsX c_InvalidInput)) := Gx.ClG.or C_carries C_carries_X (by decide) (by decide)

abbrev s_append_record_J : Stmt := (top 17)
theorem cl_append_record_J (T : Bl mg) (Z : EcF P K mg c_StoreError c_InvalidInput c_NoPlace) (D : DfG K mg "append_record" s_append_record_J [.str "1"] []) (C_append_record : ClG (L2.CX P w) P w K mg base 7 "append_record" s_append_record ["word", "places", "record"] [.str "1"] [] (spAppR c_NoPlace)) (C_append_record_X : ClG (L2.CX P w) P w K mg base 5 "append_record" s_append_record_X ["word", "places", "record"] [.str "1"] [] (spApX c_InvalidInput)) : ClG (L2.CX P w) P w K mg base 7 "append_record" s_append_record_J ["word", "places", "record"] [.str "1"] [] (Gx.spOr (spAppR c_NoPlace) (spApX c_InvalidInput)) := Gx.ClG.orX C_append_record C_append_record_X (by decide) (by decide)

abbrev s_step_J : Stmt := (top 18)
theorem cl_step_J (T : Bl mg) (Z : EcF P K mg c_StoreError c_InvalidInput c_NoPlace) (D : DfG K mg "step" s_step_J [] [("late", .bl false)]) (C_step : ClG (L2.CX P w) P w K mg base 9 "step" s_step ["word", "index", "count", "places", "late"] [] [("late", .bl false)] (spStep c_NoPlace)) (C_step_X : ClG (L2.CX P w) P w K mg base 5 "step" s_step_X ["word", "index", "count", "places", "late"] [] [("late", .bl false)] (spStX c_InvalidInput)) : ClG (L2.CX P w) P w K mg base 9 "step" s_step_J ["word", "index", "count", "places", "late"] [] [("late", .bl false)] (Gx.spOr (spStep c_NoPlace) (spStX c_InvalidInput)) := Gx.ClG.orX C_step C_step_X (by decide) (by decide)

abbrev s_dominates_J : Stmt := (top 19)
theorem cl_dominates_J (T : Bl mg) (Z : EcF P K mg c_StoreError c_InvalidInput c_NoPlace) (D : DfG K mg "dominates" s_dominates_J [] []) (C_dominates : ClG CX0 P w K mg base 5 "dominates" s_dominates ["first", "second"] [] [] spDom) (C_dominates_X : ClG (L2.CX P w) P w K mg base 5 "dominates" s_dominates_X ["first", "second"] [] [] (spDmX c_InvalidInput)) : ClG (L2.CX P w) P w K mg base 5 "dominates" s_dominates_J ["first", "second"] [] [] (Gx.spOr spDom (spDmX c_InvalidInput)) := Gx.ClG.or C_dominates C_dominates_X (by decide) (by decide)

abbrev s_best_word_J : Stmt := (top 21)
theorem cl_best_word_J (T : Bl mg) (Z : EcF P K mg c_StoreError c_InvalidInput c_NoPlace) (D : DfG K mg "best_word" s_best_word_J [] []) (C_best_word : ClG CX0 P w K mg base 5 "best_word" s_best_word ["count"] [] [] spBest) (C_best_word_X : ClG (L2.CX P w) P w K mg base 5 "best_word" s_best_word_X ["count"] [] [] (spBsX c_InvalidInput)) : ClG (L2.CX P w) P w K mg base 5 "best_word" s_best_word_J ["count"] [] [] (Gx.spOr spBest (spBsX c_InvalidInput)) := Gx.ClG.or C_best_word C_best_word_X (by decide) (by decide)

abbrev s_worst_word_J : Stmt := (top 22)
theorem cl_worst_word_J (T : Bl mg) (Z : EcF P K mg c_StoreError c_InvalidInput c_NoPlace) (D : DfG K mg "worst_word" s_worst_word_J [] []) (C_worst_word : ClG CX0 P w K mg base 5 "worst_word" s_worst_word ["count", "length"] [] [] spWorst) (C_worst_word_X : ClG (L2.CX P w) P w K mg base 5 "worst_word" s_worst_word_X ["count", "length"] [] [] (spWsX c_InvalidInput)) : ClG (L2.CX P w) P w K mg base 5 "worst_word" s_worst_word_J ["count", "length"] [] [] (Gx.spOr spWorst (spWsX c_InvalidInput)) := Gx.ClG.or C_worst_word C_worst_word_X (by decide) (by decide)

abbrev s_word_of_J : Stmt := (top 13)
theorem cl_word_of_J (T : Bl mg) (Z : EcF P K mg c_StoreError c_InvalidInput c_NoPlace) (D : DfG K mg "word_of" s_word_of_J [] []) (C_word_of : ClG CX0 P w K mg base 5 "word_of" s_word_of ["depths"] [] [] (spWordOf K)) (C_word_of_X : ClG (L2.CX P w) P w K mg base 5 "word_of" s_word_of_X ["depths"] [] [] (spWoX c_InvalidInput K)) : ClG (L2.CX P w) P w K mg base 5 "word_of" s_word_of_J ["depths"] [] [] (Gx.spOr (spWordOf K) (spWoX c_InvalidInput K)) := Gx.ClG.or C_word_of C_word_of_X (by decide) (by decide)


def B01 (m : Int) : Prop := m = 0 ∨ m = 1
def spBits : Sp := fun vs H Q _ => ∃ (b c : Addr) (size : Int), vs = [.ref b, .int size] ∧ (Bx b c H ∧ 0 ≤ size ∧ size ≤ 64) ∧ ∀ p (ns : List Int) H', Nw H p → ExB b H H' → Bx b c H' → At H' p (.lst (ns.map V.int)) → (ns.length : Int) = size → (∀ m ∈ ns, B01 m) → Q (.ref p) H'
theorem use_bits {b c : Addr} {size : Int} {H : Hp} {Q : VK} {E : XK} [hb : Bx b c H] (h1 : 0 ≤ size) (h2 : size ≤ 64) (q : ∀ p (ns : List Int) H', Nw H p → ExB b H H' → Bx b c H' → At H' p (.lst (ns.map V.int)) → (ns.length : Int) = size → (∀ m ∈ ns, B01 m) → Q (.ref p) H') : spBits ([.ref b, .int size] ++ []) H Q E := ⟨b, c, size, rfl, ⟨hb, h1, h2⟩, q⟩
abbrev s_law_bits : Stmt := (top 33)
abbrev N_law_bits : List Str := ["_law_box_here", "_law_size", "_law_found", "_law_part", "_law_number", "_law_place"]
theorem sc_law_bits : FnScope N_law_bits ["_law_box_here", "_law_size"] (defScope s_law_bits) := ⟨rfl, rfl, rfl, by decide +kernel, rfl, by decide +kernel, by decide +kernel⟩
theorem cl_law_bits (T : Bl mg) (Z : EcF P K mg c_StoreError c_InvalidInput c_NoPlace) (D : DfG K mg "_law_bits" s_law_bits [] []) (C_law_take : ClG CX0 P w K mg base 3 "_law_take" s_law_take ["_law_box_here", "_law_size"] [] [] spTake) : ClG CX0 P w K mg base 5 "_law_bits" s_law_bits ["_law_box_here", "_law_size"] [] [] spBits := by
  have nd := sc_law_bits.nd
  refine D.okP sc_law_bits (fun vs H Q E h => ?_) (fun f cdv A outer s H vs Q E hr h => ?_)
  · obtain ⟨b, c, size, rfl, _⟩ := h
    rfl
  · obtain ⟨b, c, size, rfl, ⟨hb, h1, h2⟩, k⟩ := h
    have hu := hu64 hr
    refine ⟨_, (pss_cons (ps_set (i := 2) nd rfl (Or.inl rfl) (pe_lst pa_nil))
    (pss_cons (ps_for PassesOwn.never rfl (pi_range1 rfl T.range (pa_cons (pe_op opDiv (pe_op (opAddK (K := K) (by rfl)) (pv 1) pe_int) pe_int) pa_nil)) (pg_name (i := 3) nd rfl (Or.inl rfl))
      (pss_cons (ps_set (i := 4) nd rfl (Or.inl rfl) (pe_g C_law_take (by exact hr.mono (by decide)) (E := fun _ => E0) (fun σ => passC0 σ) (fun _ _ _ _ _ _ us hl => match us, hl with | [_, _], _ => rfl) (pa_cons (pv 0) (pa_cons pe_int pa_nil))))
    (pss_one (ps_for PassesOwn.never rfl (pi_range1 rfl T.range (pa_cons pe_int pa_nil)) (pg_name (i := 5) nd rfl (Or.inl rfl))
      (pss_cons (ps_expr (pe_bmK (K := K) (by rfl) PySem.F.plainAttrs_list PySem.F.slot_list_append PySem.F.type_list_append mt_append (pv 2) (pa_cons (pe_op opMod (pe_callTy callInt (by rfl) T.int (by decide +kernel) (pa_cons (pv 4) pa_nil)) pe_int) pa_nil)))
    (pss_one (ps_set (i := 4) nd rfl (Or.inl rfl) (pe_op opDiv (pv 4) pe_int))))))))
    (pss_one (ps_ret (pe_slice (slAnyK (K := K) (by rfl)) (pv 2) po_none (po_some (pv 1))))))), ?_⟩
    try dsimp only [L2.cxOf, L2.Cx.nox]
    simp only [L2.start, N_law_bits, List.map_cons, List.map_nil, List.length_cons, List.length_nil, Nat.reduceAdd, Nat.reduceSub, List.replicate_succ, List.replicate_zero, List.cons_append, List.nil_append]

    have lc := liveBx2 hb
    walk_at "gos"
    rename_i p H1 np1 e1 hp1
    refine Gx.for1 [b, p] (fun i σ' H' => ∃ s3 s4 s5, ∃ ns : List Int, σ' = [some (.ref b), some (.int size), some (.ref p), s3, s4, s5] ∧ Bx b c H' ∧ At H' p (.lst (ns.map V.int)) ∧ ns.length = 16 * i ∧ ∀ m ∈ ns, B01 m) (by omega) ⟨_, _, _, [], rfl, inferInstance, Gx.at_, rfl, by simp⟩ ?_ ?_
    · rintro i σ' H' hi e ⟨s3, s4, s5, ns, rfl, hB, hp, hl, hP⟩
      walk_at "gos"
      rename_i d H2 hd0 hd1 e2 hB2
      refine Gx.for1 [p] (fun j σ' H' => ∃ s5, ∃ (n : Int) (ms : List Int), σ' = [some (.ref b), some (.int size), some (.ref p), some (.int i), some (.int n), s5] ∧ At H' p (.lst (ms.map V.int)) ∧ ms.length = 16 * i + j ∧ ∀ m ∈ ms, B01 m) (by omega) ⟨_, _, ns, rfl, Gx.at_, hl, hP⟩ ?_ ?_
      · rintro j σ' H' hj e ⟨s5, n, ms, rfl, hp, hl, hP⟩
        walk_at "gos"
        refine Gx.li ⟨_, _, ms ++ [n % 2], rfl, ?_, by simp; omega, ?_⟩
        · rw [List.map_append]
          exact Gx.at_
        · intro m hm
          rcases List.mem_append.mp hm with h | h
          · exact hP m h
          · rw [List.mem_singleton.mp h]
            unfold B01
            omega
      · rintro σ' H' e ⟨s5, n, ms, rfl, hp, hl, hP⟩
        walk_at "gos"
        exact Gx.li ⟨_, _, _, ms, rfl, inferInstance, hp, by rw [hl]; simp; omega, hP⟩
    · rintro σ' H' e ⟨s3, s4, s5, ns, rfl, hB, hp, hl, hP⟩
      obtain ⟨n, rfl⟩ : ∃ n : Nat, size = n := ⟨size.toNat, by omega⟩
      walk_at "gos"
      rename_i p2 H2 np2 e2 hp2
      rw [Gx.cutTo] at hp2
      exact k p2 (ns.take n) _ Gx.new Gx.rel inferInstance hp2 (by rw [List.length_take, hl]; omega) (fun m hm => hP m (List.mem_of_mem_take hm))
local macro_rules | `(tactic| walk_at "call") => `(tactic| ((with_reducible show spBits _ _ _ _); refine use_bits (by omega) (by omega) ?_; intro p_ ns_ H_ np_ e_ hB_ hp_ hl_ hP_))
def spWord : Sp := fun vs H Q _ => ∃ (b c : Addr) (most : Int), vs = [.ref b, .int most] ∧ (Bx b c H ∧ 0 ≤ most ∧ most ≤ 64) ∧ ∀ l H', ExB b H H' → Bx b c H' → Wd l → (l.length : Int) ≤ most → Q (.str (tx l)) H'
theorem use_word {b c : Addr} {most : Int} {H : Hp} {Q : VK} {E : XK} [hb : Bx b c H] (h1 : 0 ≤ most) (h2 : most ≤ 64) (q : ∀ l H', ExB b H H' → Bx b c H' → Wd l → (l.length : Int) ≤ most → Q (.str (tx l)) H') : spWord ([.ref b, .int most] ++ []) H Q E := ⟨b, c, most, rfl, ⟨hb, h1, h2⟩, q⟩
theorem wd_most {most size : Int} {r : List Bool} {n : Nat} (h : r.length = n - 1) (hn : (n : Int) = size) (h0 : 0 < size) (h2 : size ≤ most) (h3 : most ≤ 64) : Wd (true :: r) ∧ (((true :: r).length : Nat) : Int) ≤ most :=
  ⟨wd_one (by omega), by simp only [List.length_cons]; omega⟩
theorem b01_ite {a b : Int} {p : Prop} [Decidable p] (h : B01 a) (k : B01 b) : B01 (if p then a else b) := by
  split
  · exact h
  · exact k
theorem b01_at {ns : List Int} {i : Nat} (h : ∀ m ∈ ns, B01 m) (hi : i < ns.length) : B01 (ns.getD i 0) := h _ (Gx.getD_mem hi)
theorem b01_ints {acc : List V} (h : ∀ v ∈ acc, ∃ m, v = V.int m ∧ B01 m) : ∃ ns : List Int, acc = ns.map V.int ∧ ∀ m ∈ ns, B01 m := by
  induction acc with
  | nil => exact ⟨[], rfl, by simp⟩
  | cons v r ih =>
    obtain ⟨ns, rfl, hn⟩ := ih (fun u hu => h u (List.mem_cons_of_mem _ hu))
    obtain ⟨m, rfl, hm⟩ := h v (List.mem_cons_self ..)
    refine ⟨m :: ns, rfl, fun k hk => ?_⟩
    rcases List.mem_cons.mp hk with e | e
    · rw [e]; exact hm
    · exact hn k e
theorem b01_bits {ns : List Int} (h : ∀ m ∈ ns, B01 m) : ∃ bs : List Bool, bs.length = ns.length - 1 ∧ (ns.drop 1).map V.int = bs.map fun b => V.int (if b = true then 1 else 0) := by
  refine ⟨(ns.drop 1).map fun m => decide (m = 1), by simp, ?_⟩
  rw [List.map_map]
  apply List.map_congr_left
  intro m hm
  rcases h m (List.mem_of_mem_drop hm) with e | e <;> subst e <;> rfl
theorem fl_one (bs : List Bool) : (bs.map fun b => [b]).flatten = bs := by
  induction bs with
  | nil => rfl
  | cons b r ih => rw [List.map_cons, List.flatten_cons, ih]; rfl
abbrev s_law_word : Stmt := (top 34)
abbrev N_law_word : List Str := ["_law_box_here", "_law_most", "_law_shape", "_law_size", "_law_ones", "_law_bits_here", "_law_other", "_law_k", "_law_bit"]
theorem sc_law_word : FnScope N_law_word ["_law_box_here", "_law_most"] (defScope s_law_word) := ⟨rfl, rfl, rfl, by decide +kernel, rfl, by decide +kernel, by decide +kernel⟩
theorem cl_law_word (T : Bl mg) (Z : EcF P K mg c_StoreError c_InvalidInput c_NoPlace) (D : DfG K mg "_law_word" s_law_word [] []) (C_law_take : ClG CX0 P w K mg base 3 "_law_take" s_law_take ["_law_box_here", "_law_size"] [] [] spTake) (C_law_bits : ClG CX0 P w K mg base 5 "_law_bits" s_law_bits ["_law_box_here", "_law_size"] [] [] spBits) : ClG CX0 P w K mg base 7 "_law_word" s_law_word ["_law_box_here", "_law_most"] [] [] spWord := by
  have nd := sc_law_word.nd
  refine D.okP sc_law_word (fun vs H Q E h => ?_) (fun f cdv A outer s H vs Q E hr h => ?_)
  · obtain ⟨b, c, most, rfl, _⟩ := h
    rfl
  · obtain ⟨b, c, most, rfl, ⟨hb, h1, h2⟩, k⟩ := h
    have hu := hu64 hr
    refine ⟨_, (pss_cons (ps_set (i := 2) nd rfl (Or.inl rfl) (pe_g C_law_take (by exact hr.mono (by decide)) (E := fun _ => E0) (fun σ => passC0 σ) (fun _ _ _ _ _ _ us hl => match us, hl with | [_, _], _ => rfl) (pa_cons (pv 0) (pa_cons pe_int pa_nil))))
    (pss_cons (ps_set (i := 3) nd rfl (Or.inl rfl) (pe_g C_law_take (by exact hr.mono (by decide)) (E := fun _ => E0) (fun σ => passC0 σ) (fun _ _ _ _ _ _ us hl => match us, hl with | [_, _], _ => rfl) (pa_cons (pv 0) (pa_cons (pe_op (opAddK (K := K) (by rfl)) (pe_callB (callMin2 rfl) (by rfl) T.min (by decide +kernel) (pa_cons (pv 1) (pa_cons pe_int pa_nil))) pe_int) pa_nil))))
    (pss_cons (ps_if (pt_cmpR opGt (pv 2) pe_int (nomark _))
      (pss_one (ps_set (i := 3) nd rfl (Or.inl rfl) (pe_g C_law_take (by exact hr.mono (by decide)) (E := fun _ => E0) (fun σ => passC0 σ) (fun _ _ _ _ _ _ us hl => match us, hl with | [_, _], _ => rfl) (pa_cons (pv 0) (pa_cons (pe_op (opAddK (K := K) (by rfl)) (pv 1) pe_int) pa_nil)))))
      pss_nil)
    (pss_cons (ps_if (pt_cmpR (opEqK (K := K) (by rfl) (by exact hu)) (pv 3) pe_int (nomark _))
      (pss_one (ps_ret pe_str))
      pss_nil)
    (pss_cons (ps_if (pt_cmpR (opEqK (K := K) (by rfl) (by exact hu)) (pv 2) pe_int (nomark _))
      (pss_cons (ps_set (i := 4) nd rfl (Or.inl rfl) (pe_op (opAddK (K := K) (by rfl)) pe_int (pe_g C_law_take (by exact hr.mono (by decide)) (E := fun _ => E0) (fun σ => passC0 σ) (fun _ _ _ _ _ _ us hl => match us, hl with | [_, _], _ => rfl) (pa_cons (pv 0) (pa_cons (pv 3) pa_nil)))))
    (pss_one (ps_ret (pe_op (opAddK (K := K) (by rfl)) (pe_op (opMulK (K := K) (by rfl)) pe_str (pv 4)) (pe_op (opMulK (K := K) (by rfl)) pe_str (pe_op opSub (pv 3) (pv 4)))))))
      pss_nil)
    (pss_cons (ps_set (i := 5) nd rfl (Or.inr rfl) (pe_g C_law_bits (by exact hr.mono (by decide)) (E := fun _ => E0) (fun σ => passC0 σ) (fun _ _ _ _ _ _ us hl => match us, hl with | [_, _], _ => rfl) (pa_cons (pv 0) (pa_cons (pv 3) pa_nil))))
    (pss_cons (ps_if (pt_cmpR (opEqK (K := K) (by rfl) (by exact hu)) (pv 2) pe_int (nomark _))
      (pss_cons (ps_set (i := 6) nd rfl (Or.inr rfl) (pe_g C_law_bits (by exact hr.mono (by decide)) (E := fun _ => E0) (fun σ => passC0 σ) (fun _ _ _ _ _ _ us hl => match us, hl with | [_, _], _ => rfl) (pa_cons (pv 0) (pa_cons (pv 3) pa_nil))))
    (pss_one (ps_if (pt_cmpR (opEqK (K := K) (by rfl) (by exact hu)) (pe_g C_law_take (by exact hr.mono (by decide)) (E := fun _ => E0) (fun σ => passC0 σ) (fun _ _ _ _ _ _ us hl => match us, hl with | [_, _], _ => rfl) (pa_cons (pv 0) (pa_cons pe_int pa_nil))) pe_int (nomark _))
      (pss_one (ps_set (i := 5) nd rfl (Or.inr rfl) (pe_lc (own := [("_law_k", 7)]) (g := gName 7) rfl nd (pi_range1 rfl T.range (pa_cons (pv 3) pa_nil)) (blkOk_by (own := [("_law_k", 7)]) (N := N_law_word) (sc := defScope s_law_word) (by decide +kernel)) (fun _ _ _ _ _ => (pg_name (i := 7) nd rfl (Or.inl rfl))) (fun _ _ _ _ _ => pts_nil) (fun _ _ _ _ _ => (pe_callB (callMax2 rfl) (by rfl) T.max (by decide +kernel) (pa_cons (pe_ix (ixSeqK (K := K) (by rfl)) (pv 5) (pv 7) (fun _ _ => rfl)) (pa_cons (pe_ix (ixSeqK (K := K) (by rfl)) (pv 6) (pv 7) (fun _ _ => rfl)) pa_nil)))))))
      (pss_one (ps_set (i := 5) nd rfl (Or.inr rfl) (pe_lc (own := [("_law_k", 7)]) (g := gName 7) rfl nd (pi_range1 rfl T.range (pa_cons (pv 3) pa_nil)) (blkOk_by (own := [("_law_k", 7)]) (N := N_law_word) (sc := defScope s_law_word) (by decide +kernel)) (fun _ _ _ _ _ => (pg_name (i := 7) nd rfl (Or.inl rfl))) (fun _ _ _ _ _ => pts_nil) (fun _ _ _ _ _ => (pe_callB (callMin2 rfl) (by rfl) T.min (by decide +kernel) (pa_cons (pe_ix (ixSeqK (K := K) (by rfl)) (pv 5) (pv 7) (fun _ _ => rfl)) (pa_cons (pe_ix (ixSeqK (K := K) (by rfl)) (pv 6) (pv 7) (fun _ _ => rfl)) pa_nil))))))))))
      pss_nil)
    (pss_one (ps_ret (pe_op (opAddK (K := K) (by rfl)) pe_str (pe_bmK (K := K) (by rfl) PySem.F.plainAttrs_str PySem.F.slot_str_join PySem.F.type_str_join (mtJoinK (K := K) (by rfl)) pe_str (pa_cons (pe_lc (own := [("_law_bit", 8)]) (g := gName 8) rfl nd (pi_listK (K := K) (by rfl) (pe_slice (slAnyK (K := K) (by rfl)) (pv 5) (po_some pe_int) po_none)) (blkOk_by (own := [("_law_bit", 8)]) (N := N_law_word) (sc := defScope s_law_word) (by decide +kernel)) (fun _ _ _ _ _ => (pg_name (i := 8) nd rfl (Or.inl rfl))) (fun _ _ _ _ _ => pts_nil) (fun _ _ _ _ _ => (pe_ix (ixSeqK (K := K) (by rfl)) pe_str (pv 8) (fun _ _ => rfl)))) pa_nil)))))))))))), ?_⟩
    try dsimp only [L2.cxOf, L2.Cx.nox]
    simp only [L2.start, N_law_word, List.map_cons, List.map_nil, List.length_cons, List.length_nil, Nat.reduceAdd, Nat.reduceSub, List.replicate_succ, List.replicate_zero, List.cons_append, List.nil_append]

    have lc := liveBx2 hb
    walk_at "gos"
    all_goals first
      | exact k _ _ Gx.rel inferInstance Wd.nil (by simp; omega)
      | (rename_i n H1 _ _ _ _ _ _ d H2 h0 h1 _ _
         refine k _ _ Gx.rel inferInstance ⟨by simp; omega, ?_⟩ (by simp; omega)
         rw [show (1 + d).toNat = d.toNat + 1 from by omega, List.replicate_succ]
         simp)
      | skip
    all_goals first
     | (fail_if_success (with_reducible show Gx.rLc1 _ _ _ _ _ _ _ _))
     | (
      refine Gx.lc1_A (fun v => ∃ m, v = V.int m ∧ B01 m) (by omega) (fun D i acc H' hi hD e hp hz => ?_) (fun D acc H' hD e hp hl hP => ?_)
      · walk_at "gos"
        exact ⟨Gx.rel, _, rfl, _, rfl, b01_ite (b01_at (by assumption) (by omega)) (b01_at (by assumption) (by omega))⟩
      obtain ⟨ms, rfl, hP⟩ := b01_ints hP
      rw [List.length_map] at hl
      have hl : (ms.length : Int) = _ := (congrArg (fun n : Nat => (n : Int)) hl).trans (Int.toNat_of_nonneg (by omega))
      walk_at "gos")
    all_goals
      rename_i p2 H2 np2 e2 hp2
      obtain ⟨bs, hb1, hb2⟩ := b01_bits ‹∀ m ∈ _, B01 m›
      rw [Gx.cut1, hb2] at hp2
      have hw := wd_most hb1 (by assumption) (by omega) (by omega) h2
      refine Gx.lcL_F (fun i => (bs.take i).map fun b => V.str (tx [b])) rfl (fun i hi => ?_) (fun D i x H' hx hD e hp hz => ?_) (fun D H' hD e hp => ?_)
      · rw [List.length_map] at hi ⊢
        rw [List.length_take]
        omega
      · obtain ⟨b, ib, rfl⟩ := Gx.map_at hx
        cases b
        all_goals
          simp only [Bool.false_eq_true, if_false, if_true]
          walk_at "gos"
          exact ⟨Gx.rel, Gx.take_map_snoc (f := fun b => V.str (tx [b])) ib⟩
      · rw [List.length_map, List.take_length, show (bs.map fun b => V.str (tx [b])) = (bs.map fun b => [b]).map fun l => V.str (tx l) from by rw [List.map_map]; rfl] at hp
        walk_at "gos"
        refine Gx.g_joinT (by rw [fl_one]; omega) ?_
        rw [fl_one]
        walk_at "gos"
        exact k _ _ Gx.rel inferInstance hw.1 hw.2

theorem one_eq {ch : Nat} {b : Bool} : (⟨#[ch]⟩ : Str) = tx [b] ↔ ch = bc b := by
  constructor
  · intro h
    have h2 : (⟨#[ch]⟩ : Str).cps.toList = (tx [b]).cps.toList := by rw [h]
    rw [tx_list] at h2
    simpa using h2
  · rintro rfl
    rfl
/-- which signs of a text are ones -/
def bl (z : Str) : List Bool := z.cps.toList.map fun c => c == 49
theorem bl_tx {l : List Bool} : bl (tx l) = l := by
  unfold bl
  rw [tx_list, List.map_map]
  refine (List.map_congr_left fun b _ => ?_).trans (List.map_id l)
  cases b <;> rfl
theorem bl_len {z : Str} : (bl z).length = z.length := by
  unfold bl
  rw [List.length_map]
  rfl
def spDeU : Sp := fun vs H Q _ => ∃ (z : Str) (l : List Bool), vs = [.str z] ∧ (z.length ≤ 1000 ∧ bl z = l) ∧ ∀ p H', Nw H p → Ex H H' → At H' p (.lst ((dep l).map V.int)) → Q (.ref p) H'
abbrev s_law_depths : Stmt := (top 35)
abbrev N_law_depths : List Str := ["_law_word_here", "_law_k"]
theorem sc_law_depths : FnScope N_law_depths ["_law_word_here"] (defScope s_law_depths) := ⟨rfl, rfl, rfl, by decide +kernel, rfl, by decide +kernel, by decide +kernel⟩
theorem cl_law_depths (T : Bl mg) (Z : EcF P K mg c_StoreError c_InvalidInput c_NoPlace) (D : DfG K mg "_law_depths" s_law_depths [] [])  : ClG CX0 P w K mg base 3 "_law_depths" s_law_depths ["_law_word_here"] [] [] spDeU := by
  have nd := sc_law_depths.nd
  refine D.okP sc_law_depths (fun vs H Q E h => ?_) (fun f cdv A outer s H vs Q E hr h => ?_)
  · obtain ⟨z, l, rfl, _⟩ := h
    rfl
  · obtain ⟨z, l, rfl, ⟨hz, hbl⟩, k⟩ := h
    have hu := hu64 hr
    refine ⟨_, (pss_one (ps_ret (pe_lc (own := [("_law_k", 1)]) (g := gName 1) rfl nd (pi_range1 rfl T.range (pa_cons (pe_callB (callLenK (K := K) (by rfl)) (by rfl) T.len (by decide +kernel) (pa_cons (pv 0) pa_nil)) pa_nil)) (blkOk_by (own := [("_law_k", 1)]) (N := N_law_depths) (sc := defScope s_law_depths) (by decide +kernel)) (fun _ _ _ _ _ => (pg_name (i := 1) nd rfl (Or.inl rfl))) (fun _ _ _ _ _ => (pts_one (pt_cmpR (opEqK (K := K) (by rfl) (by exact hu)) (pe_ix (ixSeqK (K := K) (by rfl)) (pv 0) (pv 1) (fun _ _ => rfl)) pe_str (nomark _)))) (fun _ _ _ _ _ => (pe_op opSub (pe_callB (callLenK (K := K) (by rfl)) (by rfl) T.len (by decide +kernel) (pa_cons (pv 0) pa_nil)) (pv 1)))))), ?_⟩
    try dsimp only [L2.cxOf, L2.Cx.nox]
    simp only [L2.start, N_law_depths, List.map_cons, List.map_nil, List.length_cons, List.length_nil, Nat.reduceAdd, Nat.reduceSub, List.replicate_succ, List.replicate_zero, List.cons_append, List.nil_append]

    have hll : l.length = z.length := by rw [← hbl]; exact bl_len
    walk_at "gos"
    refine Gx.lc1_F (fun i => (depTo l i).map V.int) (by omega) rfl (fun i hi => ?_) (fun D i H' hi hD e hp hz2 => ?_) (fun D H' hD e hp => ?_)
    · rw [List.length_map]
      have := depTo_len l i
      omega
    · have hi' : i < z.cps.toList.length := by have : z.length = z.cps.toList.length := rfl; omega
      obtain ⟨ch, hc⟩ : ∃ ch, z.cps.toList[i]? = some ch := ⟨_, List.getElem?_eq_getElem hi'⟩
      have hb : l[i]? = some (ch == 49) := by
        rw [← hbl]
        unfold bl
        rw [List.getElem?_map, hc]
        rfl
      have hs := depTo_succ hb
      walk_at "go"
      refine Gx.g_ixS (by omega) (Gx.atI_nat hc) ?_
      walk_at "go"
      by_cases y : ch = 49
      · rw [show decide ((⟨#[ch]⟩ : Str) = tx [true]) = true from decide_eq_true (one_eq.mpr y)]
        walk_at "go"
        refine ⟨Gx.rel, ?_⟩
        rw [hs, show (ch == 49) = true from by simpa using y, ← hll]
        simp
      · rw [show decide ((⟨#[ch]⟩ : Str) = tx [true]) = false from decide_eq_false fun h => y (one_eq.mp h)]
        walk_at "go"
        refine ⟨Gx.rel, ?_⟩
        rw [hs, show (ch == 49) = false from by simpa using y]
        simp
    · rw [show (((z.length : Nat) : Int)).toNat = l.length from by omega] at hp
      exact k D H' hD e hp
local macro_rules | `(tactic| walk_at "call") => `(tactic| ((with_reducible show spWord _ _ _ _); refine ⟨_, _, _, rfl, ⟨by infer_instance, by omega, by omega⟩, ?_⟩; intro l_ H_ e_ hB_ hw_ hl_))
local macro_rules | `(tactic| walk_at "call") => `(tactic| ((with_reducible show spDeU _ _ _ _); first | (refine ⟨_, _, rfl, ⟨by rw [tx_len]; omega, bl_tx⟩, ?_⟩; intro p_ H_ np_ e_ hp_) | (refine ⟨_, _, rfl, ⟨by omega, rfl⟩, ?_⟩; intro p_ H_ np_ e_ hp_)))
def spIit : Sp := fun vs H Q _ => ∃ (i : Int), vs = [.int i] ∧ Q (.bl true) H
abbrev s_law_is_integer : Stmt := (top 41)
abbrev N_law_is_integer : List Str := ["_law_told_here"]
theorem sc_law_is_integer : FnScope N_law_is_integer ["_law_told_here"] (defScope s_law_is_integer) := ⟨rfl, rfl, rfl, by decide +kernel, rfl, by decide +kernel, by decide +kernel⟩
theorem cl_law_is_integer (T : Bl mg) (Z : EcF P K mg c_StoreError c_InvalidInput c_NoPlace) (D : DfG K mg "_law_is_integer" s_law_is_integer [] [])  : ClG CX0 P w K mg base 3 "_law_is_integer" s_law_is_integer ["_law_told_here"] [] [] spIit := by
  have nd := sc_law_is_integer.nd
  refine D.okP sc_law_is_integer (fun vs H Q E h => ?_) (fun f cdv A outer s H vs Q E hr h => ?_)
  · obtain ⟨i, rfl, _⟩ := h
    rfl
  · obtain ⟨i, rfl, k⟩ := h
    have hu := hu64 hr
    refine ⟨_, (pss_one (ps_ret (pe_and (pe_callB (callIsiK (K := K) (by rfl)) (by rfl) T.isinstance (by decide +kernel) (pa_cons (pv 0) (pa_cons (pe_bltn (v := .ty "int") (by rfl) T.int (by decide +kernel) rfl) pa_nil))) (pe_one (pe_not (pe_callB (callIsiK (K := K) (by rfl)) (by rfl) T.isinstance (by decide +kernel) (pa_cons (pv 0) (pa_cons (pe_bltn (v := .ty "bool") (by rfl) T.bool (by decide +kernel) rfl) pa_nil)))))))), ?_⟩
    try dsimp only [L2.cxOf, L2.Cx.nox]
    simp only [L2.start, N_law_is_integer, List.map_cons, List.map_nil, List.length_cons, List.length_nil, Nat.reduceAdd, Nat.reduceSub, List.replicate_succ, List.replicate_zero, List.cons_append, List.nil_append]

    walk_at "gos"
    exact k
def spBad : Sp := fun vs H Q _ => ∃ (b c : Addr), vs = [.ref b] ∧ Bx b c H ∧ ∀ (z : Bool) H', ExB b H H' → Bx b c H' → Q (.bl z) H'
abbrev s_law_bad : Stmt := (top 36)
abbrev N_law_bad : List Str := ["_law_box_here"]
theorem sc_law_bad : FnScope N_law_bad ["_law_box_here"] (defScope s_law_bad) := ⟨rfl, rfl, rfl, by decide +kernel, rfl, by decide +kernel, by decide +kernel⟩
theorem cl_law_bad (T : Bl mg) (Z : EcF P K mg c_StoreError c_InvalidInput c_NoPlace) (D : DfG K mg "_law_bad" s_law_bad [] []) (C_law_take : ClG CX0 P w K mg base 3 "_law_take" s_law_take ["_law_box_here", "_law_size"] [] [] spTake) : ClG CX0 P w K mg base 5 "_law_bad" s_law_bad ["_law_box_here"] [] [] spBad := by
  have nd := sc_law_bad.nd
  refine D.okP sc_law_bad (fun vs H Q E h => ?_) (fun f cdv A outer s H vs Q E hr h => ?_)
  · obtain ⟨b, c, rfl, _⟩ := h
    rfl
  · obtain ⟨b, c, rfl, hb, k⟩ := h
    have hu := hu64 hr
    refine ⟨_, (pss_one (ps_ret (pe_cmpR (opEqK (K := K) (by rfl) (by exact hu)) (pe_g C_law_take (by exact hr.mono (by decide)) (E := fun _ => E0) (fun σ => passC0 σ) (fun _ _ _ _ _ _ us hl => match us, hl with | [_, _], _ => rfl) (pa_cons (pv 0) (pa_cons pe_int pa_nil))) pe_int (nomark _)))), ?_⟩
    try dsimp only [L2.cxOf, L2.Cx.nox]
    simp only [L2.start, N_law_bad, List.map_cons, List.map_nil, List.length_cons, List.length_nil, Nat.reduceAdd, Nat.reduceSub, List.replicate_succ, List.replicate_zero, List.cons_append, List.nil_append]

    walk_at "go"
    exact k _ _ Gx.rel inferInstance
local macro_rules | `(tactic| walk_at "call") => `(tactic| first
  | ((with_reducible show spBad _ _ _ _); refine ⟨_, _, rfl, by infer_instance, ?_⟩; intro z_ H_ e_ hB_)
  | ((with_reducible show spIit _ _ _ _); refine ⟨_, rfl, ?_⟩))
theorem g_ixAll {K : PySem.W.Frag} {H : Hp} {Q : VK} {p : Addr} {xs : List V} {i : Int} [h : SqC K H p xs] (h0 : 0 ≤ i) (h1 : i < (xs.length : Int)) (q : ∀ v ∈ xs, Q v H) : rIx K (.ref p) (.int i) H Q := by
  obtain ⟨n, rfl⟩ : ∃ n : Nat, i = (n : Int) := ⟨i.toNat, by omega⟩
  have hn : n < xs.length := by omega
  exact Gx.g_ixN (List.getElem?_eq_getElem hn) (q _ (List.getElem_mem hn))
theorem g_ixP {K : PySem.W.Frag} {H : Hp} {Q : VK} {p : Addr} {xs : List V} {i : Int} [h : SqC K H p xs] (P : Int → Prop) (h0 : 0 ≤ i) (h1 : i < (xs.length : Int)) (hP : ∀ v ∈ xs, ∃ j : Int, v = .int j ∧ P j) (q : ∀ j, P j → Q (.int j) H) : rIx K (.ref p) (.int i) H Q :=
  g_ixAll h0 h1 fun v hv => by
    obtain ⟨j, rfl, hj⟩ := hP v hv
    exact q j hj
def spBelow : Sp := fun vs H Q _ => ∃ (b c : Addr), vs = [.ref b] ∧ Bx b c H ∧ ∀ (i : Int) H', ExB b H H' → Bx b c H' → i < 0 → -(2 ^ 101) < i → Q (.int i) H'
abbrev s_law_below : Stmt := (top 42)
abbrev N_law_below : List Str := ["_law_box_here"]
theorem sc_law_below : FnScope N_law_below ["_law_box_here"] (defScope s_law_below) := ⟨rfl, rfl, rfl, by decide +kernel, rfl, by decide +kernel, by decide +kernel⟩
theorem cl_law_below (T : Bl mg) (Z : EcF P K mg c_StoreError c_InvalidInput c_NoPlace) (D : DfG K mg "_law_below" s_law_below [] []) (C_law_take : ClG CX0 P w K mg base 3 "_law_take" s_law_take ["_law_box_here", "_law_size"] [] [] spTake) : ClG CX0 P w K mg base 5 "_law_below" s_law_below ["_law_box_here"] [] [] spBelow := by
  have nd := sc_law_below.nd
  refine D.okP sc_law_below (fun vs H Q E h => ?_) (fun f cdv A outer s H vs Q E hr h => ?_)
  · obtain ⟨b, c, rfl, _⟩ := h
    rfl
  · obtain ⟨b, c, rfl, hb, k⟩ := h
    have hu := hu64 hr
    refine ⟨_, (pss_one (ps_ret (pe_ix (ixSeqK (K := K) (by rfl)) (pe_lst (pa_cons (pe_un un_neg pe_int) (pa_cons (pe_un un_neg pe_int) (pa_cons (pe_op opSub (pe_un un_neg pe_int) (pe_g C_law_take (by exact hr.mono (by decide)) (E := fun _ => E0) (fun σ => passC0 σ) (fun _ _ _ _ _ _ us hl => match us, hl with | [_, _], _ => rfl) (pa_cons (pv 0) (pa_cons (pe_op opPow pe_int pe_int) pa_nil)))) (pa_cons (pe_un un_neg (pe_op opPow pe_int pe_int)) pa_nil))))) (pe_g C_law_take (by exact hr.mono (by decide)) (E := fun _ => E0) (fun σ => passC0 σ) (fun _ _ _ _ _ _ us hl => match us, hl with | [_, _], _ => rfl) (pa_cons (pv 0) (pa_cons pe_int pa_nil))) (fun _ _ => rfl)))), ?_⟩
    try dsimp only [L2.cxOf, L2.Cx.nox]
    simp only [L2.start, N_law_below, List.map_cons, List.map_nil, List.length_cons, List.length_nil, Nat.reduceAdd, Nat.reduceSub, List.replicate_succ, List.replicate_zero, List.cons_append, List.nil_append]

    walk_at "go"
    refine g_ixAll (by omega) (by simp; omega) fun v hv => ?_
    have hv : v = .int (-1) ∨ v = .int (-2) ∨ (∃ i : Int, v = .int i ∧ i < 0 ∧ -(2 ^ 101) < i) := by
      simp only [List.mem_cons, List.not_mem_nil, or_false] at hv
      rcases hv with h | h | h | h
      · exact .inl h
      · exact .inr (.inl h)
      · exact .inr (.inr ⟨_, h, by omega, by omega⟩)
      · exact .inr (.inr ⟨_, h, by omega, by omega⟩)
    rcases hv with rfl | rfl | ⟨i, rfl, h1, h2⟩
    all_goals
      walk_at "go"
      exact k _ _ Gx.rel inferInstance (by omega) (by omega)
local macro_rules | `(tactic| walk_at "call") => `(tactic| ((with_reducible show spBelow _ _ _ _); refine ⟨_, _, rfl, by infer_instance, ?_⟩; intro i_ H_ e_ hB_ h1_ h2_))
theorem no_tx {z : Str} {c : Nat} (hc : c ∈ z.cps.toList) (h0 : c ≠ 48) (h1 : c ≠ 49) : ¬ ∃ m, z = tx m := by
  rintro ⟨l, rfl⟩
  rw [tx_list] at hc
  obtain ⟨b, _, rfl⟩ := List.mem_map.mp hc
  cases b
  · exact h0 rfl
  · exact h1 rfl
theorem sign_at {d : Int} (h0 : 0 ≤ d) (h1 : d < 6) : ∃ c, atI ("2a -\nO" : Str).cps.toList d = some c ∧ c ≠ 48 ∧ c ≠ 49 := by
  obtain ⟨n, rfl⟩ : ∃ n : Nat, d = (n : Int) := ⟨d.toNat, by omega⟩
  have hn : n < 6 := by omega
  match n, hn with
  | 0, _ => exact ⟨50, by decide +kernel, by decide, by decide⟩
  | 1, _ => exact ⟨97, by decide +kernel, by decide, by decide⟩
  | 2, _ => exact ⟨32, by decide +kernel, by decide, by decide⟩
  | 3, _ => exact ⟨45, by decide +kernel, by decide, by decide⟩
  | 4, _ => exact ⟨10, by decide +kernel, by decide, by decide⟩
  | 5, _ => exact ⟨79, by decide +kernel, by decide, by decide⟩
def spSpo : Sp := fun vs H Q _ => ∃ (b c : Addr) (l : List Bool), vs = [.ref b, .str (tx l)] ∧ (Bx b c H ∧ l.length ≤ 64) ∧ ∀ (z : Str) H', ExB b H H' → Bx b c H' → z.length ≤ 64 → (¬ ∃ m, z = tx m) → Q (.str z) H'
theorem mid_mem {a b : Str} {c : Nat} : c ∈ (a ++ (⟨#[c]⟩ : Str) ++ b).cps.toList := by
  rw [Str.cps_append, Str.cps_append]
  simp
theorem mid_len {a b : Str} {c : Nat} : (a ++ (⟨#[c]⟩ : Str) ++ b).length = a.length + 1 + b.length := by
  rw [Str.length_append, Str.length_append]
  rfl
abbrev s_law_spoilt : Stmt := (top 37)
abbrev N_law_spoilt : List Str := ["_law_box_here", "_law_word_here", "_law_place", "_law_sign"]
theorem sc_law_spoilt : FnScope N_law_spoilt ["_law_box_here", "_law_word_here"] (defScope s_law_spoilt) := ⟨rfl, rfl, rfl, by decide +kernel, rfl, by decide +kernel, by decide +kernel⟩
theorem cl_law_spoilt (T : Bl mg) (Z : EcF P K mg c_StoreError c_InvalidInput c_NoPlace) (D : DfG K mg "_law_spoilt" s_law_spoilt [] []) (C_law_take : ClG CX0 P w K mg base 3 "_law_take" s_law_take ["_law_box_here", "_law_size"] [] [] spTake) : ClG CX0 P w K mg base 5 "_law_spoilt" s_law_spoilt ["_law_box_here", "_law_word_here"] [] [] spSpo := by
  have nd := sc_law_spoilt.nd
  refine D.okP sc_law_spoilt (fun vs H Q E h => ?_) (fun f cdv A outer s H vs Q E hr h => ?_)
  · obtain ⟨b, c, l, rfl, _⟩ := h
    rfl
  · obtain ⟨b, c, l, rfl, ⟨hb, hl⟩, k⟩ := h
    have hu := hu64 hr
    refine ⟨_, (pss_cons (ps_set (i := 2) nd rfl (Or.inl rfl) (pe_g C_law_take (by exact hr.mono (by decide)) (E := fun _ => E0) (fun σ => passC0 σ) (fun _ _ _ _ _ _ us hl => match us, hl with | [_, _], _ => rfl) (pa_cons (pv 0) (pa_cons (pe_op (opAddK (K := K) (by rfl)) (pe_callB (callLenK (K := K) (by rfl)) (by rfl) T.len (by decide +kernel) (pa_cons (pv 1) pa_nil)) pe_int) pa_nil))))
    (pss_cons (ps_set (i := 3) nd rfl (Or.inl rfl) (pe_ix (ixSeqK (K := K) (by rfl)) pe_str (pe_g C_law_take (by exact hr.mono (by decide)) (E := fun _ => E0) (fun σ => passC0 σ) (fun _ _ _ _ _ _ us hl => match us, hl with | [_, _], _ => rfl) (pa_cons (pv 0) (pa_cons pe_int pa_nil))) (fun _ _ => rfl)))
    (pss_cons (ps_if (pt_cmpR opLt (pe_callB (callLenK (K := K) (by rfl)) (by rfl) T.len (by decide +kernel) (pa_cons (pv 1) pa_nil)) pe_int (nomark _))
      (pss_one (ps_ret (pe_op (opAddK (K := K) (by rfl)) (pe_op (opAddK (K := K) (by rfl)) (pe_slice (slAnyK (K := K) (by rfl)) (pv 1) po_none (po_some (pv 2))) (pv 3)) (pe_slice (slAnyK (K := K) (by rfl)) (pv 1) (po_some (pv 2)) po_none))))
      pss_nil)
    (pss_cons (ps_set (i := 2) nd rfl (Or.inl rfl) (pe_callB (callMin2 rfl) (by rfl) T.min (by decide +kernel) (pa_cons (pv 2) (pa_cons pe_int pa_nil))))
    (pss_one (ps_ret (pe_op (opAddK (K := K) (by rfl)) (pe_op (opAddK (K := K) (by rfl)) (pe_slice (slAnyK (K := K) (by rfl)) (pv 1) po_none (po_some (pv 2))) (pv 3)) (pe_slice (slAnyK (K := K) (by rfl)) (pv 1) (po_some (pe_op (opAddK (K := K) (by rfl)) (pv 2) pe_int)) po_none)))))))), ?_⟩
    try dsimp only [L2.cxOf, L2.Cx.nox]
    simp only [L2.start, N_law_spoilt, List.map_cons, List.map_nil, List.length_cons, List.length_nil, Nat.reduceAdd, Nat.reduceSub, List.replicate_succ, List.replicate_zero, List.cons_append, List.nil_append]

    walk_at "go"
    rename_i d H1 d0 d1 e1 hB1 d2 H2 f0 f1 e2 hB2
    obtain ⟨ch, hat, n0, n1⟩ := sign_at f0 f1
    obtain ⟨n, rfl⟩ : ∃ n : Nat, d = (n : Int) := ⟨d.toNat, by omega⟩
    have hone : (⟨#[ch]⟩ : Str).length = 1 := rfl
    have hlt : ∀ m : Nat, (tx (l.take m)).length = min m l.length := fun m => by rw [tx_len, List.length_take]
    have hld : ∀ m : Nat, (tx (l.drop m)).length = l.length - m := fun m => by rw [tx_len, List.length_drop]
    refine Gx.g_ixS (by decide +kernel) hat ?_
    walk_at "gos"
    · have h1 := hlt n
      have h2 := hld n
      rw [Gx.cutB_to]
      refine Gx.g_addS (by omega) ?_
      walk_at "go"
      rw [Gx.cutB_from]
      refine Gx.g_addS (by rw [Str.length_append]; omega) ?_
      exact k _ _ Gx.rel inferInstance (by rw [mid_len]; omega) (no_tx mid_mem n0 n1)
    · obtain ⟨m, hm⟩ : ∃ m : Nat, (if (63 : Int) < (n : Int) then (63 : Int) else (n : Int)) = (m : Int) := ⟨min n 63, by split <;> omega⟩
      have hm2 : m ≤ 63 := by split at hm <;> omega
      rw [hm]
      have h1 := hlt m
      have h2 := hld (m + 1)
      rw [Gx.cutB_to]
      refine Gx.g_addS (by omega) ?_
      walk_at "go"
      rw [show ((m : Nat) : Int) + 1 = ((m + 1 : Nat) : Int) from rfl, Gx.cutB_from]
      refine Gx.g_addS (by rw [Str.length_append]; omega) ?_
      exact k _ _ Gx.rel inferInstance (by rw [mid_len]; omega) (no_tx mid_mem n0 n1)
local macro_rules | `(tactic| walk_at "call") => `(tactic| ((with_reducible show spSpo _ _ _ _); refine ⟨_, _, _, rfl, ⟨by infer_instance, by walk_at "szt"⟩, ?_⟩; intro z_ H_ e_ hB_ hz_ hn_))
def spAny : Sp := fun vs H Q _ => ∃ (b c : Addr), vs = [.ref b] ∧ Bx b c H ∧ ∀ (z : Str) H', ExB b H H' → Bx b c H' → z.length ≤ 64 → Q (.str z) H'
abbrev s_law_any_word : Stmt := (top 38)
abbrev N_law_any_word : List Str := ["_law_box_here", "_law_word_here"]
theorem sc_law_any_word : FnScope N_law_any_word ["_law_box_here"] (defScope s_law_any_word) := ⟨rfl, rfl, rfl, by decide +kernel, rfl, by decide +kernel, by decide +kernel⟩
theorem cl_law_any_word (T : Bl mg) (Z : EcF P K mg c_StoreError c_InvalidInput c_NoPlace) (D : DfG K mg "_law_any_word" s_law_any_word [] []) (C_law_spoilt : ClG CX0 P w K mg base 5 "_law_spoilt" s_law_spoilt ["_law_box_here", "_law_word_here"] [] [] spSpo) (C_law_take : ClG CX0 P w K mg base 3 "_law_take" s_law_take ["_law_box_here", "_law_size"] [] [] spTake) (C_law_bad : ClG CX0 P w K mg base 5 "_law_bad" s_law_bad ["_law_box_here"] [] [] spBad) (C_law_word : ClG CX0 P w K mg base 7 "_law_word" s_law_word ["_law_box_here", "_law_most"] [] [] spWord) : ClG CX0 P w K mg base 9 "_law_any_word" s_law_any_word ["_law_box_here"] [] [] spAny := by
  have nd := sc_law_any_word.nd
  refine D.okP sc_law_any_word (fun vs H Q E h => ?_) (fun f cdv A outer s H vs Q E hr h => ?_)
  · obtain ⟨b, c, rfl, _⟩ := h
    rfl
  · obtain ⟨b, c, rfl, hb, k⟩ := h
    have hu := hu64 hr
    refine ⟨_, (pss_cons (ps_set (i := 1) nd rfl (Or.inl rfl) (pe_g C_law_word (by exact hr.mono (by decide)) (E := fun _ => E0) (fun σ => passC0 σ) (fun _ _ _ _ _ _ us hl => match us, hl with | [_, _], _ => rfl) (pa_cons (pv 0) (pa_cons pe_int pa_nil))))
    (pss_cons (ps_if (pt_not (pt_val (pe_g C_law_bad (by exact hr.mono (by decide)) (E := fun _ => E0) (fun σ => passC0 σ) (fun _ _ _ _ _ _ us hl => match us, hl with | [_], _ => rfl) (pa_cons (pv 0) pa_nil))))
      (pss_one (ps_ret (pv 1)))
      pss_nil)
    (pss_cons (ps_if (pt_cmpR (opEqK (K := K) (by rfl) (by exact hu)) (pe_g C_law_take (by exact hr.mono (by decide)) (E := fun _ => E0) (fun σ => passC0 σ) (fun _ _ _ _ _ _ us hl => match us, hl with | [_, _], _ => rfl) (pa_cons (pv 0) (pa_cons pe_int pa_nil))) pe_int (nomark _))
      (pss_one (ps_ret (pe_op (opAddK (K := K) (by rfl)) pe_str (pe_slice (slAnyK (K := K) (by rfl)) (pv 1) po_none (po_some pe_int)))))
      pss_nil)
    (pss_one (ps_ret (pe_g C_law_spoilt (by exact hr.mono (by decide)) (E := fun _ => E0) (fun σ => passC0 σ) (fun _ _ _ _ _ _ us hl => match us, hl with | [_, _], _ => rfl) (pa_cons (pv 0) (pa_cons (pv 1) pa_nil)))))))), ?_⟩
    try dsimp only [L2.cxOf, L2.Cx.nox]
    simp only [L2.start, N_law_any_word, List.map_cons, List.map_nil, List.length_cons, List.length_nil, Nat.reduceAdd, Nat.reduceSub, List.replicate_succ, List.replicate_zero, List.cons_append, List.nil_append]

    walk_at "gos"
    · rename_i l H1 e1 hB1 hw hl z H2 e2 hB2 hI
      exact k _ _ Gx.rel inferInstance (by rw [tx_len]; omega)
    · rename_i l H1 e1 hB1 hw hl z H2 e2 hB2 hI d H3 d0 d1 e3 hB3 hI2
      refine k _ _ Gx.rel inferInstance ?_
      rw [tx_len, show (some (63 : Int)) = some ((63 : Nat) : Int) from rfl, Gx.cutB_to, List.length_append, List.length_take]
      show 1 + _ ≤ _
      omega
    · exact k _ _ Gx.rel inferInstance (by assumption)
local macro_rules | `(tactic| walk_at "call") => `(tactic| ((with_reducible show spAny _ _ _ _); refine ⟨_, _, rfl, by infer_instance, ?_⟩; intro z_ H_ e_ hB_ hz_))
def spAix : Sp := fun vs H Q _ => ∃ (b c : Addr) (many : Int), vs = [.ref b, .int many] ∧ (Bx b c H ∧ 0 ≤ many ∧ many ≤ 64) ∧ ∀ (i : Int) H', ExB b H H' → Bx b c H' → -(2 ^ 101) < i → i < 2 ^ 101 → Q (.int i) H'
abbrev s_law_any_index : Stmt := (top 43)
abbrev N_law_any_index : List Str := ["_law_box_here", "_law_many"]
theorem sc_law_any_index : FnScope N_law_any_index ["_law_box_here", "_law_many"] (defScope s_law_any_index) := ⟨rfl, rfl, rfl, by decide +kernel, rfl, by decide +kernel, by decide +kernel⟩
theorem cl_law_any_index (T : Bl mg) (Z : EcF P K mg c_StoreError c_InvalidInput c_NoPlace) (D : DfG K mg "_law_any_index" s_law_any_index [] []) (C_law_take : ClG CX0 P w K mg base 3 "_law_take" s_law_take ["_law_box_here", "_law_size"] [] [] spTake) (C_law_below : ClG CX0 P w K mg base 5 "_law_below" s_law_below ["_law_box_here"] [] [] spBelow) (C_law_bad : ClG CX0 P w K mg base 5 "_law_bad" s_law_bad ["_law_box_here"] [] [] spBad) : ClG CX0 P w K mg base 7 "_law_any_index" s_law_any_index ["_law_box_here", "_law_many"] [] [] spAix := by
  have nd := sc_law_any_index.nd
  refine D.okP sc_law_any_index (fun vs H Q E h => ?_) (fun f cdv A outer s H vs Q E hr h => ?_)
  · obtain ⟨b, c, many, rfl, _⟩ := h
    rfl
  · obtain ⟨b, c, many, rfl, ⟨hb, h1, h2⟩, k⟩ := h
    have hu := hu64 hr
    refine ⟨_, (pss_cons (ps_if (PW.pt (pw_and (pt_cmpR opGt (pv 1) pe_int (nomark _)) (pw_and1 (pt_not (pt_val (pe_g C_law_bad (by exact hr.mono (by decide)) (E := fun _ => E0) (fun σ => passC0 σ) (fun _ _ _ _ _ _ us hl => match us, hl with | [_], _ => rfl) (pa_cons (pv 0) pa_nil)))))))
      (pss_one (ps_ret (pe_g C_law_take (by exact hr.mono (by decide)) (E := fun _ => E0) (fun σ => passC0 σ) (fun _ _ _ _ _ _ us hl => match us, hl with | [_, _], _ => rfl) (pa_cons (pv 0) (pa_cons (pv 1) pa_nil)))))
      pss_nil)
    (pss_cons (ps_if (pt_cmpR (opEqK (K := K) (by rfl) (by exact hu)) (pe_g C_law_take (by exact hr.mono (by decide)) (E := fun _ => E0) (fun σ => passC0 σ) (fun _ _ _ _ _ _ us hl => match us, hl with | [_, _], _ => rfl) (pa_cons (pv 0) (pa_cons pe_int pa_nil))) pe_int (nomark _))
      (pss_one (ps_ret (pe_g C_law_below (by exact hr.mono (by decide)) (E := fun _ => E0) (fun σ => passC0 σ) (fun _ _ _ _ _ _ us hl => match us, hl with | [_], _ => rfl) (pa_cons (pv 0) pa_nil))))
      pss_nil)
    (pss_one (ps_ret (pe_op (opAddK (K := K) (by rfl)) (pv 1) (pe_ix (ixSeqK (K := K) (by rfl)) (pe_lst (pa_cons pe_int (pa_cons pe_int (pa_cons (pe_g C_law_take (by exact hr.mono (by decide)) (E := fun _ => E0) (fun σ => passC0 σ) (fun _ _ _ _ _ _ us hl => match us, hl with | [_, _], _ => rfl) (pa_cons (pv 0) (pa_cons (pe_op opPow pe_int pe_int) pa_nil))) (pa_cons (pe_op opPow pe_int pe_int) pa_nil))))) (pe_g C_law_take (by exact hr.mono (by decide)) (E := fun _ => E0) (fun σ => passC0 σ) (fun _ _ _ _ _ _ us hl => match us, hl with | [_, _], _ => rfl) (pa_cons (pv 0) (pa_cons pe_int pa_nil))) (fun _ _ => rfl))))))), ?_⟩
    try dsimp only [L2.cxOf, L2.Cx.nox]
    simp only [L2.start, N_law_any_index, List.map_cons, List.map_nil, List.length_cons, List.length_nil, Nat.reduceAdd, Nat.reduceSub, List.replicate_succ, List.replicate_zero, List.cons_append, List.nil_append]

    walk_at "gos"
    all_goals first
      | exact k _ _ Gx.rel inferInstance (by omega) (by omega)
      | (refine g_ixP (fun j => 0 ≤ j ∧ j ≤ 10 ^ 30) (by omega) (by simp; omega) (by intro v hv; simp only [List.mem_cons, List.not_mem_nil, or_false] at hv; rcases hv with h | h | h | h <;> exact ⟨_, h, by omega, by omega⟩) fun j hj => ?_
         walk_at "go"
         exact k _ _ Gx.rel inferInstance (by omega) (by omega))
def spAct : Sp := fun vs H Q _ => ∃ (b c : Addr) (most : Int), vs = [.ref b, .int most] ∧ (Bx b c H ∧ 64 ≤ most ∧ most ≤ 10 ^ 30) ∧ ∀ (i : Int) H', ExB b H H' → Bx b c H' → -(2 ^ 101) < i → i ≤ most → Q (.int i) H'
abbrev s_law_any_count : Stmt := (top 44)
abbrev N_law_any_count : List Str := ["_law_box_here", "_law_most"]
theorem sc_law_any_count : FnScope N_law_any_count ["_law_box_here", "_law_most"] (defScope s_law_any_count) := ⟨rfl, rfl, rfl, by decide +kernel, rfl, by decide +kernel, by decide +kernel⟩
theorem cl_law_any_count (T : Bl mg) (Z : EcF P K mg c_StoreError c_InvalidInput c_NoPlace) (D : DfG K mg "_law_any_count" s_law_any_count [] []) (C_law_take : ClG CX0 P w K mg base 3 "_law_take" s_law_take ["_law_box_here", "_law_size"] [] [] spTake) (C_law_bad : ClG CX0 P w K mg base 5 "_law_bad" s_law_bad ["_law_box_here"] [] [] spBad) (C_law_below : ClG CX0 P w K mg base 5 "_law_below" s_law_below ["_law_box_here"] [] [] spBelow) : ClG CX0 P w K mg base 7 "_law_any_count" s_law_any_count ["_law_box_here", "_law_most"] [] [] spAct := by
  have nd := sc_law_any_count.nd
  refine D.okP sc_law_any_count (fun vs H Q E h => ?_) (fun f cdv A outer s H vs Q E hr h => ?_)
  · obtain ⟨b, c, most, rfl, _⟩ := h
    rfl
  · obtain ⟨b, c, most, rfl, ⟨hb, h1, h2⟩, k⟩ := h
    have hu := hu64 hr
    refine ⟨_, (pss_cons (ps_if (pt_val (pe_g C_law_bad (by exact hr.mono (by decide)) (E := fun _ => E0) (fun σ => passC0 σ) (fun _ _ _ _ _ _ us hl => match us, hl with | [_], _ => rfl) (pa_cons (pv 0) pa_nil)))
      (pss_one (ps_ret (pe_g C_law_below (by exact hr.mono (by decide)) (E := fun _ => E0) (fun σ => passC0 σ) (fun _ _ _ _ _ _ us hl => match us, hl with | [_], _ => rfl) (pa_cons (pv 0) pa_nil))))
      pss_nil)
    (pss_one (ps_ret (pe_ix (ixSeqK (K := K) (by rfl)) (pe_lst (pa_cons pe_int (pa_cons pe_int (pa_cons (pe_g C_law_take (by exact hr.mono (by decide)) (E := fun _ => E0) (fun σ => passC0 σ) (fun _ _ _ _ _ _ us hl => match us, hl with | [_, _], _ => rfl) (pa_cons (pv 0) (pa_cons pe_int pa_nil))) (pa_cons (pv 1) pa_nil))))) (pe_g C_law_take (by exact hr.mono (by decide)) (E := fun _ => E0) (fun σ => passC0 σ) (fun _ _ _ _ _ _ us hl => match us, hl with | [_, _], _ => rfl) (pa_cons (pv 0) (pa_cons pe_int pa_nil))) (fun _ _ => rfl))))), ?_⟩
    try dsimp only [L2.cxOf, L2.Cx.nox]
    simp only [L2.start, N_law_any_count, List.map_cons, List.map_nil, List.length_cons, List.length_nil, Nat.reduceAdd, Nat.reduceSub, List.replicate_succ, List.replicate_zero, List.cons_append, List.nil_append]

    walk_at "gos"
    all_goals first
      | exact k _ _ Gx.rel inferInstance (by omega) (by omega)
      | (refine g_ixP (fun j => 0 ≤ j ∧ j ≤ most) (by omega) (by simp; omega) (by intro v hv; simp only [List.mem_cons, List.not_mem_nil, or_false] at hv; rcases hv with h | h | h | h <;> exact ⟨_, h, by omega, by omega⟩) fun j hj => ?_
         walk_at "go"
         exact k _ _ Gx.rel inferInstance (by omega) (by omega))
def spApl : Sp := fun vs H Q _ => ∃ (b c : Addr) (size : Int), vs = [.ref b, .int size] ∧ (Bx b c H ∧ 0 ≤ size ∧ size ≤ 64) ∧ ∀ (i : Int) H', ExB b H H' → Bx b c H' → -(2 ^ 101) < i → i ≤ 64 → Q (.int i) H'
abbrev s_law_any_places : Stmt := (top 45)
abbrev N_law_any_places : List Str := ["_law_box_here", "_law_size", "_law_least"]
theorem sc_law_any_places : FnScope N_law_any_places ["_law_box_here", "_law_size"] (defScope s_law_any_places) := ⟨rfl, rfl, rfl, by decide +kernel, rfl, by decide +kernel, by decide +kernel⟩
theorem cl_law_any_places (T : Bl mg) (Z : EcF P K mg c_StoreError c_InvalidInput c_NoPlace) (D : DfG K mg "_law_any_places" s_law_any_places [] []) (C_law_below : ClG CX0 P w K mg base 5 "_law_below" s_law_below ["_law_box_here"] [] [] spBelow) (C_law_take : ClG CX0 P w K mg base 3 "_law_take" s_law_take ["_law_box_here", "_law_size"] [] [] spTake) (C_law_bad : ClG CX0 P w K mg base 5 "_law_bad" s_law_bad ["_law_box_here"] [] [] spBad) : ClG CX0 P w K mg base 7 "_law_any_places" s_law_any_places ["_law_box_here", "_law_size"] [] [] spApl := by
  have nd := sc_law_any_places.nd
  refine D.okP sc_law_any_places (fun vs H Q E h => ?_) (fun f cdv A outer s H vs Q E hr h => ?_)
  · obtain ⟨b, c, size, rfl, _⟩ := h
    rfl
  · obtain ⟨b, c, size, rfl, ⟨hb, h1, h2⟩, k⟩ := h
    have hu := hu64 hr
    refine ⟨_, (pss_cons (ps_set (i := 2) nd rfl (Or.inl rfl) (pe_callB (callMax2 rfl) (by rfl) T.max (by decide +kernel) (pa_cons pe_int (pa_cons (pv 1) pa_nil))))
    (pss_cons (ps_if (pt_not (pt_val (pe_g C_law_bad (by exact hr.mono (by decide)) (E := fun _ => E0) (fun σ => passC0 σ) (fun _ _ _ _ _ _ us hl => match us, hl with | [_], _ => rfl) (pa_cons (pv 0) pa_nil))))
      (pss_one (ps_ret (pe_ix (ixSeqK (K := K) (by rfl)) (pe_lst (pa_cons (pv 2) (pa_cons (pe_callB (callMin2 rfl) (by rfl) T.min (by decide +kernel) (pa_cons pe_int (pa_cons (pe_op (opAddK (K := K) (by rfl)) (pv 2) pe_int) pa_nil))) (pa_cons (pe_op (opAddK (K := K) (by rfl)) (pv 2) (pe_g C_law_take (by exact hr.mono (by decide)) (E := fun _ => E0) (fun σ => passC0 σ) (fun _ _ _ _ _ _ us hl => match us, hl with | [_, _], _ => rfl) (pa_cons (pv 0) (pa_cons (pe_op opSub pe_int (pv 2)) pa_nil)))) pa_nil)))) (pe_g C_law_take (by exact hr.mono (by decide)) (E := fun _ => E0) (fun σ => passC0 σ) (fun _ _ _ _ _ _ us hl => match us, hl with | [_, _], _ => rfl) (pa_cons (pv 0) (pa_cons pe_int pa_nil))) (fun _ _ => rfl))))
      pss_nil)
    (pss_one (ps_ret (pe_ix (ixSeqK (K := K) (by rfl)) (pe_lst (pa_cons pe_int (pa_cons (pe_op opSub (pv 2) pe_int) (pa_cons (pe_op opSub (pv 2) pe_int) (pa_cons (pe_g C_law_take (by exact hr.mono (by decide)) (E := fun _ => E0) (fun σ => passC0 σ) (fun _ _ _ _ _ _ us hl => match us, hl with | [_, _], _ => rfl) (pa_cons (pv 0) (pa_cons (pv 2) pa_nil))) (pa_cons (pe_g C_law_below (by exact hr.mono (by decide)) (E := fun _ => E0) (fun σ => passC0 σ) (fun _ _ _ _ _ _ us hl => match us, hl with | [_], _ => rfl) (pa_cons (pv 0) pa_nil)) pa_nil)))))) (pe_g C_law_take (by exact hr.mono (by decide)) (E := fun _ => E0) (fun σ => passC0 σ) (fun _ _ _ _ _ _ us hl => match us, hl with | [_, _], _ => rfl) (pa_cons (pv 0) (pa_cons pe_int pa_nil))) (fun _ _ => rfl)))))), ?_⟩
    try dsimp only [L2.cxOf, L2.Cx.nox]
    simp only [L2.start, N_law_any_places, List.map_cons, List.map_nil, List.length_cons, List.length_nil, Nat.reduceAdd, Nat.reduceSub, List.replicate_succ, List.replicate_zero, List.cons_append, List.nil_append]

    have hmx : 1 ≤ (if size > 1 then size else 1) ∧ (if size > 1 then size else 1) ≤ 64 := by split <;> omega
    walk_at "go"
    generalize (if size > 1 then size else 1) = m at hmx ⊢
    walk_at "gos"
    · refine g_ixP (fun j => 1 ≤ j ∧ j ≤ 64) (by omega) (by simp; omega) (by intro v hv; simp only [List.mem_cons, List.not_mem_nil, or_false] at hv; rcases hv with h | h | h <;> first | exact ⟨_, h, by omega, by omega⟩ | exact ⟨_, h, by split <;> omega, by split <;> omega⟩) fun j hj => ?_
      walk_at "go"
      exact k _ _ Gx.rel inferInstance (by omega) (by omega)
    · refine g_ixP (fun j => -(2 ^ 101) < j ∧ j ≤ 64) (by omega) (by simp; omega) (by intro v hv; simp only [List.mem_cons, List.not_mem_nil, or_false] at hv; rcases hv with h | h | h | h | h <;> first | exact ⟨_, h, by omega, by omega⟩ | exact ⟨_, h, by split <;> omega, by split <;> omega⟩) fun j hj => ?_
      walk_at "go"
      exact k _ _ Gx.rel inferInstance (by omega) (by omega)
def spSgn : Sp := fun vs H Q _ => ∃ (b c : Addr), vs = [.ref b] ∧ Bx b c H ∧ ∀ (z : Str) H', ExB b H H' → Bx b c H' → z.length ≤ 64 → Q (.str z) H'
abbrev s_law_any_sign : Stmt := (top 58)
abbrev N_law_any_sign : List Str := ["_law_box_here"]
theorem sc_law_any_sign : FnScope N_law_any_sign ["_law_box_here"] (defScope s_law_any_sign) := ⟨rfl, rfl, rfl, by decide +kernel, rfl, by decide +kernel, by decide +kernel⟩
theorem cl_law_any_sign (T : Bl mg) (Z : EcF P K mg c_StoreError c_InvalidInput c_NoPlace) (D : DfG K mg "_law_any_sign" s_law_any_sign [] []) (C_law_take : ClG CX0 P w K mg base 3 "_law_take" s_law_take ["_law_box_here", "_law_size"] [] [] spTake) (C_law_bad : ClG CX0 P w K mg base 5 "_law_bad" s_law_bad ["_law_box_here"] [] [] spBad) : ClG CX0 P w K mg base 7 "_law_any_sign" s_law_any_sign ["_law_box_here"] [] [] spSgn := by
  have nd := sc_law_any_sign.nd
  refine D.okP sc_law_any_sign (fun vs H Q E h => ?_) (fun f cdv A outer s H vs Q E hr h => ?_)
  · obtain ⟨b, c, rfl, _⟩ := h
    rfl
  · obtain ⟨b, c, rfl, hb, k⟩ := h
    have hu := hu64 hr
    refine ⟨_, (pss_cons (ps_if (pt_not (pt_val (pe_g C_law_bad (by exact hr.mono (by decide)) (E := fun _ => E0) (fun σ => passC0 σ) (fun _ _ _ _ _ _ us hl => match us, hl with | [_], _ => rfl) (pa_cons (pv 0) pa_nil))))
      (pss_one (ps_ret (pe_ix (ixSeqK (K := K) (by rfl)) (pe_lst (pa_cons pe_str (pa_cons pe_str pa_nil))) (pe_g C_law_take (by exact hr.mono (by decide)) (E := fun _ => E0) (fun σ => passC0 σ) (fun _ _ _ _ _ _ us hl => match us, hl with | [_, _], _ => rfl) (pa_cons (pv 0) (pa_cons pe_int pa_nil))) (fun _ _ => rfl))))
      pss_nil)
    (pss_one (ps_ret (pe_ix (ixSeqK (K := K) (by rfl)) (pe_lst (pa_cons pe_str (pa_cons pe_str (pa_cons pe_str (pa_cons pe_str (pa_cons pe_str (pa_cons pe_str (pa_cons pe_str (pa_cons pe_str (pa_cons pe_str pa_nil)))))))))) (pe_g C_law_take (by exact hr.mono (by decide)) (E := fun _ => E0) (fun σ => passC0 σ) (fun _ _ _ _ _ _ us hl => match us, hl with | [_, _], _ => rfl) (pa_cons (pv 0) (pa_cons pe_int pa_nil))) (fun _ _ => rfl))))), ?_⟩
    try dsimp only [L2.cxOf, L2.Cx.nox]
    simp only [L2.start, N_law_any_sign, List.map_cons, List.map_nil, List.length_cons, List.length_nil, Nat.reduceAdd, Nat.reduceSub, List.replicate_succ, List.replicate_zero, List.cons_append, List.nil_append]

    walk_at "gos"
    · refine g_ixAll (by omega) (by simp; omega) fun v hv => ?_
      obtain ⟨z, rfl, hz⟩ : ∃ z : Str, v = .str z ∧ z.length ≤ 64 := by
        simp only [List.mem_cons, List.not_mem_nil, or_false] at hv
        rcases hv with h | h <;> exact ⟨_, h, by decide +kernel⟩
      walk_at "go"
      exact k _ _ Gx.rel inferInstance hz
    · refine g_ixAll (by omega) (by simp; omega) fun v hv => ?_
      obtain ⟨z, rfl, hz⟩ : ∃ z : Str, v = .str z ∧ z.length ≤ 64 := by
        simp only [List.mem_cons, List.not_mem_nil, or_false] at hv
        rcases hv with h | h | h | h | h | h | h | h | h <;> exact ⟨_, h, by decide +kernel⟩
      walk_at "go"
      exact k _ _ Gx.rel inferInstance hz
def spDig : Sp := fun vs H Q _ => ∃ z : Str, vs = [.str z] ∧ z.length ≤ 1000 ∧ ∀ (t : Bool) H', Ex H H' → (t = true ↔ ∃ l, z = tx l) → Q (.bl t) H'
abbrev s_law_is_digits : Stmt := (top 39)
abbrev N_law_is_digits : List Str := ["_law_text", "_law_sign"]
theorem sc_law_is_digits : FnScope N_law_is_digits ["_law_text"] (defScope s_law_is_digits) := ⟨rfl, rfl, rfl, by decide +kernel, rfl, by decide +kernel, by decide +kernel⟩
theorem cl_law_is_digits (T : Bl mg) (Z : EcF P K mg c_StoreError c_InvalidInput c_NoPlace) (D : DfG K mg "_law_is_digits" s_law_is_digits [] [])  : ClG CX0 P w K mg base 3 "_law_is_digits" s_law_is_digits ["_law_text"] [] [] spDig := by
  have nd := sc_law_is_digits.nd
  refine D.okP sc_law_is_digits (fun vs H Q E h => ?_) (fun f cdv A outer s H vs Q E hr h => ?_)
  · obtain ⟨z, rfl, _⟩ := h
    rfl
  · obtain ⟨z, rfl, hz, k⟩ := h
    have hu := hu64 hr
    refine ⟨_, (pss_cons (ps_for PassesOwn.never rfl (pi_str (pv 0)) (pg_name (i := 1) nd rfl (Or.inl rfl))
      (pss_one (ps_if (PW.pt (pw_and (pt_cmpR (opNeK (K := K) (by rfl) (by exact hu)) (pv 1) pe_str (nomark _)) (pw_and1 (pt_cmpR (opNeK (K := K) (by rfl) (by exact hu)) (pv 1) pe_str (nomark _)))))
      (pss_one (ps_ret pe_bl))
      pss_nil)))
    (pss_one (ps_ret pe_bl))), ?_⟩
    try dsimp only [L2.cxOf, L2.Cx.nox]
    simp only [L2.start, N_law_is_digits, List.map_cons, List.map_nil, List.length_cons, List.length_nil, Nat.reduceAdd, Nat.reduceSub, List.replicate_succ, List.replicate_zero, List.cons_append, List.nil_append]

    walk_at "gos"
    refine Gx.forS [] (fun i σ' H' => ∃ s1, σ' = [some (.str z), s1] ∧ ∀ j, j < i → ∀ ch, z.cps[j]? = some ch → ch = 48 ∨ ch = 49) ⟨_, rfl, fun j h => absurd h (Nat.not_lt_zero _)⟩ ?_ ?_
    · rintro i ch x σ' H' hi hc rfl e ⟨s1, rfl, hall⟩
      have hnew : (ch = 48 ∨ ch = 49) → ∀ j, j < i + 1 → ∀ c2, z.cps[j]? = some c2 → c2 = 48 ∨ c2 = 49 := fun h j hj c2 hc2 => by
        by_cases zz : j = i
        · subst zz
          rw [hc] at hc2
          cases hc2
          exact h
        · exact hall j (by omega) c2 hc2
      have hmem : ch ∈ z.cps.toList := by
        obtain ⟨h1, h2⟩ := Array.getElem?_eq_some_iff.mp hc
        rw [← h2]
        exact Array.getElem_mem_toList h1
      walk_at "go"
      by_cases h0 : ch = 48
      · rw [show (!decide ((⟨#[ch]⟩ : Str) = tx [false])) = false from by rw [decide_eq_true (one_eq.mpr h0)]; rfl]
        walk_at "go"
        exact Gx.li ⟨_, rfl, hnew (.inl h0)⟩
      · rw [show (!decide ((⟨#[ch]⟩ : Str) = tx [false])) = true from by rw [decide_eq_false (fun h => h0 (one_eq.mp h))]; rfl]
        walk_at "go"
        by_cases h1 : ch = 49
        · rw [show (!decide ((⟨#[ch]⟩ : Str) = tx [true])) = false from by rw [decide_eq_true (one_eq.mpr h1)]; rfl]
          walk_at "go"
          exact Gx.li ⟨_, rfl, hnew (.inr h1)⟩
        · rw [show (!decide ((⟨#[ch]⟩ : Str) = tx [true])) = true from by rw [decide_eq_false (fun h => h1 (one_eq.mp h))]; rfl]
          walk_at "go"
          exact k false _ Gx.rel ⟨fun h => (nomatch h), fun h => absurd h (no_tx hmem h0 h1)⟩
    · rintro σ' H' e ⟨s1, rfl, hall⟩
      walk_at "go"
      refine k true _ Gx.rel ⟨fun _ => ?_, fun _ => rfl⟩
      rcases str_or z with h | ⟨ch, hc, h0, h1⟩
      · exact h
      · obtain ⟨j, hj, hje⟩ := List.getElem_of_mem hc
        have hj2 : j < z.cps.size := by simpa using hj
        have := hall j hj2 ch (Array.getElem?_eq_some_iff.mpr ⟨hj2, by simpa using hje⟩)
        omega
local macro_rules | `(tactic| walk_at "call") => `(tactic| ((with_reducible show spDig _ _ _ _); refine ⟨_, rfl, by first | assumption | omega, ?_⟩; intro t_ H_ e_ ht_))
def spIsw : Sp := fun vs H Q _ => ∃ z : Str, vs = [.str z] ∧ z.length ≤ 1000 ∧ ∀ (t : Bool) H', Ex H H' → (t = true ↔ Good z) → Q (.bl t) H'
abbrev s_law_is_word : Stmt := (top 40)
abbrev N_law_is_word : List Str := ["_law_text"]
theorem sc_law_is_word : FnScope N_law_is_word ["_law_text"] (defScope s_law_is_word) := ⟨rfl, rfl, rfl, by decide +kernel, rfl, by decide +kernel, by decide +kernel⟩
theorem cl_law_is_word (T : Bl mg) (Z : EcF P K mg c_StoreError c_InvalidInput c_NoPlace) (D : DfG K mg "_law_is_word" s_law_is_word [] []) (C_law_is_digits : ClG CX0 P w K mg base 3 "_law_is_digits" s_law_is_digits ["_law_text"] [] [] spDig) : ClG CX0 P w K mg base 5 "_law_is_word" s_law_is_word ["_law_text"] [] [] spIsw := by
  have nd := sc_law_is_word.nd
  refine D.okP sc_law_is_word (fun vs H Q E h => ?_) (fun f cdv A outer s H vs Q E hr h => ?_)
  · obtain ⟨z, rfl, _⟩ := h
    rfl
  · obtain ⟨z, rfl, hz, k⟩ := h
    have hu := hu64 hr
    refine ⟨_, (pss_one (ps_ret (pe_and (pe_g C_law_is_digits (by exact hr.mono (by decide)) (E := fun _ => E0) (fun σ => passC0 σ) (fun _ _ _ _ _ _ us hl => match us, hl with | [_], _ => rfl) (pa_cons (pv 0) pa_nil)) (pe_one (pe_or (pe_cmpR (opEqK (K := K) (by rfl) (by exact hu)) (pv 0) pe_str (nomark _)) (pe_one (pe_cmpR (opEqK (K := K) (by rfl) (by exact hu)) (pe_ix (ixSeqK (K := K) (by rfl)) (pv 0) pe_int (fun _ _ => rfl)) pe_str (nomark _)))))))), ?_⟩
    try dsimp only [L2.cxOf, L2.Cx.nox]
    simp only [L2.start, N_law_is_word, List.map_cons, List.map_nil, List.length_cons, List.length_nil, Nat.reduceAdd, Nat.reduceSub, List.replicate_succ, List.replicate_zero, List.cons_append, List.nil_append]

    walk_at "go"
    rename_i t H1 e1 ht
    cases t with
    | false =>
      walk_at "go"
      exact k false _ Gx.rel ⟨fun h => (nomatch h), fun ⟨l, h, _⟩ => (ht.mpr ⟨l, h⟩)⟩
    | true =>
      obtain ⟨l, rfl⟩ := ht.mp rfl
      rw [tx_len] at hz
      cases l with
      | nil =>
        walk_at "gos"
        exact k true _ Gx.rel ⟨fun _ => ⟨[], rfl, by simp⟩, fun _ => rfl⟩
      | cons b r =>
        walk_at "gos"
        refine Gx.g_ixTx (i := ((0 : Nat) : Int)) (b := b) (by omega) (Gx.atI_nat rfl) ?_
        cases b with
        | true =>
          walk_at "go"
          exact k true _ Gx.rel ⟨fun _ => ⟨_, rfl, by simp⟩, fun _ => rfl⟩
        | false =>
          walk_at "go"
          refine k false _ Gx.rel ⟨fun h => (nomatch h), fun ⟨m, h, hm⟩ => ?_⟩
          have := tx_inj h
          subst this
          exact absurd rfl hm
local macro_rules | `(tactic| walk_at "call") => `(tactic| ((with_reducible show spIsw _ _ _ _); refine ⟨_, rfl, by first | assumption | omega, ?_⟩; intro t_ H_ e_ ht_))

theorem dep_trim (l : List Bool) : dep (trimW l) = dep l := by
  have e := tw_dw l
  conv => rhs; rw [e, dep_zeros]
  rfl
theorem clr_len : ∀ (l : List Bool) (i : Nat), (clr l i).length = l.length
  | [], i => rfl
  | true :: r, 0 => rfl
  | true :: r, i + 1 => by show (clr r i).length + 1 = _; rw [clr_len r i]; rfl
  | false :: r, i => by
    rw [show clr (false :: r) i = false :: clr r i from by cases i <;> rfl, List.length_cons, clr_len r i]
    rfl
theorem dep_clr : ∀ {l : List Bool} {i : Nat}, i < l.count true → dep (clr l i) = (dep l).eraseIdx i
  | [], i, h => absurd h (by simp)
  | true :: r, 0, h => by
    rw [show clr (true :: r) 0 = false :: r from rfl, dep_cons, dep_cons]
    simp
  | true :: r, i + 1, h => by
    have h' : i < r.count true := by simpa using h
    rw [show clr (true :: r) (i + 1) = true :: clr r i from rfl, dep_cons, dep_cons, dep_clr h', clr_len]
    simp
  | false :: r, i, h => by
    have h' : i < r.count true := by simpa using h
    rw [show clr (false :: r) i = false :: clr r i from by cases i <;> rfl, dep_cons, dep_cons, dep_clr h']
    simp
theorem dep_rel {l : List Bool} {i : Nat} (h : i < l.count true) : dep (relW l i) = (dep l).eraseIdx i := by rw [rel_clr h, dep_trim, dep_clr h]

theorem car_len2 {n : Nat} {l : List Bool} : (carW n l).length ≤ l.length := by
  by_cases h : l = []
  · rw [h, show carW n [] = [] from if_pos (.inl rfl)]; exact Nat.le_refl _
  · have := car_len n l
    have : l.length ≠ 0 := fun z => h (List.length_eq_zero_iff.mp z)
    omega
theorem carN_len2 {n : Nat} : ∀ (k : Nat) {l : List Bool}, (carN n k l).length ≤ l.length
  | 0, l => Nat.le_refl _
  | k + 1, l => Nat.le_trans (carN_len2 k) car_len2
theorem car_full {n : Nat} {l : List Bool} (h : n ≤ l.length) : carW n l = l := if_pos (.inr h)
theorem carN_full0 {n : Nat} {l : List Bool} (h : n ≤ l.length) : ∀ k, carN n k l = l
  | 0 => rfl
  | k + 1 => by rw [carN, car_full h, carN_full0 h k]
theorem dep_hd {u : List Bool} (h : u.head? ≠ some false) (hn : u ≠ []) : (dep u).getD 0 0 = (u.length : Int) := by
  cases u with
  | nil => exact absurd rfl hn
  | cons b r =>
    cases b with
    | false => exact absurd rfl h
    | true =>
      rw [dep_cons, if_pos rfl, List.singleton_append, List.getD_cons_zero, List.length_cons]
      omega
inductive Wy | normal | living | depths | newest | release | carry | carries | append | step | dominates | best | worst | wordof
def Wy.nm : Wy → Str
  | .normal => "normal" | .living => "living" | .depths => "depths" | .newest => "newest" | .release => "release" | .carry => "carry" | .carries => "carries"
  | .append => "append_record" | .step => "step" | .dominates => "dominates" | .best => "best_word" | .worst => "worst_word" | .wordof => "word_of"
/-- a call: way, word, index (or a list), count, places, sign -/
structure Cal where
  w : Wy
  z : Str
  o : Option Int
  a : Addr
  ds : List Int
  c : Int
  p : Int
  g : Str
def Cal.x (k : Cal) : V := match k.w with
  | .wordof => .ref k.a
  | _ => iv k.o
def Cal.vs (k : Cal) : List V := [.str k.w.nm, .str k.z, k.x, .int k.c, .int k.p, .str k.g]
def Cal.Ok (K : PySem.W.Frag) (H : Hp) (k : Cal) : Prop := k.z.length ≤ 64 ∧ k.g.length ≤ 64 ∧ -(2 ^ 101) < k.c ∧ k.c < 2 ^ 101 ∧ -(2 ^ 102) < k.p ∧ k.p ≤ 64 ∧ (∀ i, k.o = some i → -(2 ^ 101) < i ∧ i < 2 ^ 101) ∧
  (k.w = .wordof → SqC K H k.a (k.ds.map V.int) ∧ k.ds.length ≤ 70 ∧ (∀ d ∈ k.ds, d ≤ 64)) ∧ (k.w = .release → k.o ≠ none) ∧ (k.w = .best → k.c ≤ 64) ∧ (k.w = .carries → k.c ≤ 200)
/-- what is due: none, or the field of the first broken limit -/
def Cal.Due (k : Cal) (f : Option Str) : Prop := match k.w with
  | .normal => (¬ (∃ l, k.z = tx l) ∧ f = some "text") ∨ ((∃ l, k.z = tx l) ∧ f = none)
  | .living => DueW "word" k.z (fun _ => none) f
  | .depths => DueW "word" k.z (fun _ => none) f
  | .newest => DueW "word" k.z (fun _ => none) f
  | .release => ∃ i, k.o = some i ∧ DueW "word" k.z (fRel i) f
  | .carry => DueW "word" k.z (fCar k.p) f
  | .carries => DueW "word" k.z (fCars k.c k.p) f
  | .append => DueW "word" k.z (fApp k.p k.g) f
  | .step => DueW "word" k.z (fStp k.o k.c k.p) f
  | .dominates => (¬ Good k.z ∧ f = some "first") ∨ (Good k.z ∧ DueW "second" k.g (fun _ => none) f)
  | .best => f = fBest k.c
  | .worst => f = fWor k.c k.p
  | .wordof => (Dec k.ds ∧ f = none) ∨ (¬ Dec k.ds ∧ f = some "depths")
/-- no place is left -/
def Cal.Full (k : Cal) : Prop := match k.w with
  | .append => (k.z.length : Int) = k.p
  | .step => if k.g = "late" then (k.z.length : Int) = k.p else ∃ l, k.z = tx l ∧ ((relO l (k.o.map Int.toNat)).length : Int) = k.p
  | _ => False
theorem dueW_ex (fw z : Str) (g : List Bool → Option Str) : ∃ f, DueW fw z g f := by
  by_cases h : Good z
  · obtain ⟨l, h1, h2⟩ := h
    exact ⟨g l, .inr ⟨l, h1, h2, rfl⟩⟩
  · exact ⟨_, .inl ⟨h, rfl⟩⟩
theorem Cal.due_ex (k : Cal) (h : k.w = .release → k.o ≠ none) : ∃ f, k.Due f := by
  obtain ⟨w, z, o, a, ds, c, p, g⟩ := k
  cases w
  case normal =>
    by_cases h : ∃ l, z = tx l
    · exact ⟨none, .inr ⟨h, rfl⟩⟩
    · exact ⟨_, .inl ⟨h, rfl⟩⟩
  case living => exact dueW_ex _ _ _
  case depths => exact dueW_ex _ _ _
  case newest => exact dueW_ex _ _ _
  case release =>
    cases o with
    | none => exact absurd rfl (h rfl)
    | some i =>
      obtain ⟨f, hf⟩ := dueW_ex "word" z (fRel i)
      exact ⟨f, i, rfl, hf⟩
  case carry => exact dueW_ex _ _ _
  case carries => exact dueW_ex _ _ _
  case append => exact dueW_ex _ _ _
  case step => exact dueW_ex _ _ _
  case dominates =>
    by_cases h : Good z
    · obtain ⟨f, hf⟩ := dueW_ex "second" g (fun _ => none)
      exact ⟨f, .inr ⟨h, hf⟩⟩
    · exact ⟨_, .inl ⟨h, rfl⟩⟩
  case best => exact ⟨_, rfl⟩
  case worst => exact ⟨_, rfl⟩
  case wordof =>
    by_cases h : Dec ds
    · exact ⟨none, .inl ⟨h, rfl⟩⟩
    · exact ⟨_, .inr ⟨h, rfl⟩⟩
/-- the kind of the result -/
def KindOk (w : Wy) (v : V) (H : Hp) : Prop := match w with
  | .living => ∃ i : Int, v = .int i
  | .newest => v = .non ∨ ∃ i : Int, v = .int i
  | .depths => ∃ (q : Addr) (xs : List V), v = .ref q ∧ H q = some (.lst xs)
  | .dominates => ∃ b : Bool, v = .bl b
  | _ => ∃ z : Str, v = .str z
theorem if_f {b : Bool} {A B : Prop} (h : b = false) (q : B) : if b = true then A else B := by rw [h, if_neg Bool.false_ne_true]; exact q
theorem if_t {b : Bool} {A B : Prop} (h : b = true) (q : A) : if b = true then A else B := by rw [if_pos h]; exact q
local macro_rules | `(tactic| walk_at "call") => `(tactic| first | with_reducible refine if_f (by decide +kernel) ?_ | with_reducible refine if_t (by decide +kernel) ?_)
def spKind : Sp := fun vs H Q _ => ∃ (v : V) (w : Wy), vs = [v, .str w.nm] ∧ KindOk w v H ∧ Q (.bl true) H
abbrev s_law_is_kind : Stmt := (top 46)
abbrev N_law_is_kind : List Str := ["_law_told_here", "_law_way"]
theorem sc_law_is_kind : FnScope N_law_is_kind ["_law_told_here", "_law_way"] (defScope s_law_is_kind) := ⟨rfl, rfl, rfl, by decide +kernel, rfl, by decide +kernel, by decide +kernel⟩
theorem cl_law_is_kind (T : Bl mg) (Z : EcF P K mg c_StoreError c_InvalidInput c_NoPlace) (D : DfG K mg "_law_is_kind" s_law_is_kind [] []) (C_law_is_integer : ClG CX0 P w K mg base 3 "_law_is_integer" s_law_is_integer ["_law_told_here"] [] [] spIit) : ClG CX0 P w K mg base 5 "_law_is_kind" s_law_is_kind ["_law_told_here", "_law_way"] [] [] spKind := by
  have nd := sc_law_is_kind.nd
  refine D.okP sc_law_is_kind (fun vs H Q E h => ?_) (fun f cdv A outer s H vs Q E hr h => ?_)
  · obtain ⟨v, w, rfl, _⟩ := h
    rfl
  · obtain ⟨v, w, rfl, hk, k⟩ := h
    have hu := hu64 hr
    refine ⟨_, (pss_cons (ps_if (pt_cmpR (opEqK (K := K) (by rfl) (by exact hu)) (pv 1) pe_str (nomark _))
      (pss_one (ps_ret (pe_g C_law_is_integer (by exact hr.mono (by decide)) (E := fun _ => E0) (fun σ => passC0 σ) (fun _ _ _ _ _ _ us hl => match us, hl with | [_], _ => rfl) (pa_cons (pv 0) pa_nil))))
      pss_nil)
    (pss_cons (ps_if (pt_cmpR (opEqK (K := K) (by rfl) (by exact hu)) (pv 1) pe_str (nomark _))
      (pss_one (ps_ret (pe_or (pe_cmpR opIsN (pv 0) pe_non (nomark _)) (pe_one (pe_g C_law_is_integer (by exact hr.mono (by decide)) (E := fun _ => E0) (fun σ => passC0 σ) (fun _ _ _ _ _ _ us hl => match us, hl with | [_], _ => rfl) (pa_cons (pv 0) pa_nil))))))
      pss_nil)
    (pss_cons (ps_if (pt_cmpR (opEqK (K := K) (by rfl) (by exact hu)) (pv 1) pe_str (nomark _))
      (pss_one (ps_ret (pe_callB (callIsiK (K := K) (by rfl)) (by rfl) T.isinstance (by decide +kernel) (pa_cons (pv 0) (pa_cons (pe_bltn (v := .ty "list") (by rfl) T.list (by decide +kernel) rfl) pa_nil)))))
      pss_nil)
    (pss_cons (ps_if (pt_cmpR (opEqK (K := K) (by rfl) (by exact hu)) (pv 1) pe_str (nomark _))
      (pss_one (ps_ret (pe_callB (callIsiK (K := K) (by rfl)) (by rfl) T.isinstance (by decide +kernel) (pa_cons (pv 0) (pa_cons (pe_bltn (v := .ty "bool") (by rfl) T.bool (by decide +kernel) rfl) pa_nil)))))
      pss_nil)
    (pss_one (ps_ret (pe_callB (callIsiK (K := K) (by rfl)) (by rfl) T.isinstance (by decide +kernel) (pa_cons (pv 0) (pa_cons (pe_bltn (v := .ty "str") (by rfl) T.str (by decide +kernel) rfl) pa_nil))))))))), ?_⟩
    try dsimp only [L2.cxOf, L2.Cx.nox]
    simp only [L2.start, N_law_is_kind, List.map_cons, List.map_nil, List.length_cons, List.length_nil, Nat.reduceAdd, Nat.reduceSub, List.replicate_succ, List.replicate_zero, List.cons_append, List.nil_append]

    cases w
    all_goals simp only [Wy.nm]
    all_goals simp only [KindOk] at hk
    case' living => obtain ⟨i, rfl⟩ := hk
    case' dominates => obtain ⟨b, rfl⟩ := hk
    case' depths => obtain ⟨q, xs, rfl, hq⟩ := hk; have hq : At H q _ := ⟨hq⟩
    case' newest => rcases hk with rfl | ⟨i, rfl⟩
    all_goals first
      | (obtain ⟨z, rfl⟩ := hk; walk_at "go"; exact k)
      | (walk_at "go"; exact k)
local macro_rules | `(tactic| walk_at "call") => `(tactic| ((with_reducible show spKind _ _ _ _); refine ⟨_, _, rfl, by assumption, ?_⟩))
theorem dec_iff {ds : List Int} : Dec ds ↔ ∀ (i : Nat) (d : Int), ds[i]? = some d → 1 ≤ d ∧ ∀ (e : Int), 0 < i → ds[i - 1]? = some e → d < e := by
  constructor
  · intro h i d hd
    have hp : ∀ ds : List Int, Dec ds → ∀ x ∈ ds, 1 ≤ x := by
      intro ds
      induction ds with
      | nil => intro _ x hx; cases hx
      | cons a r ih =>
        intro h x hx
        have ihr := ih h.2
        rcases List.mem_cons.mp hx with e | e
        · subst e
          have h1 := h.1
          cases r with
          | nil => simp at h1; omega
          | cons b r => have := ihr b (List.mem_cons_self ..); simp at h1; omega
        · exact ihr x e
    refine ⟨hp ds h d (List.mem_of_getElem? hd), fun e h0 he => ?_⟩
    refine dec_at ds (i - 1) e d h he ?_
    rw [List.getElem?_append_left (by rw [List.length_drop]; have := (List.getElem?_eq_some_iff.mp hd).1; omega), List.getElem?_drop, show 1 + (i - 1) = i from by omega]
    exact hd
  · intro h
    refine dec_of ds fun i d e h1 h2 => ?_
    have hl := (List.getElem?_eq_some_iff.mp h1).1
    by_cases z : i + 1 < ds.length
    · rw [List.getElem?_append_left (by rw [List.length_drop]; omega), List.getElem?_drop, show 1 + i = i + 1 from by omega] at h2
      exact (h (i + 1) e h2).2 d (by omega) h1
    · rw [List.getElem?_append_right (by rw [List.length_drop]; omega), List.length_drop, show i - (ds.length - 1) = 0 from by omega] at h2
      have := (h i d h1).1
      cases h2
      omega
def spDsc (K : PySem.W.Frag) : Sp := fun vs H Q _ => ∃ (a : Addr) (ds : List Int), vs = [.ref a] ∧ (SqC K H a (ds.map V.int) ∧ ds.length ≤ 1000) ∧ ∀ (t : Bool) H', Ex H H' → (t = true ↔ Dec ds) → Q (.bl t) H'
abbrev s_law_descends : Stmt := (top 50)
abbrev N_law_descends : List Str := ["_law_row", "_law_place"]
theorem sc_law_descends : FnScope N_law_descends ["_law_row"] (defScope s_law_descends) := ⟨rfl, rfl, rfl, by decide +kernel, rfl, by decide +kernel, by decide +kernel⟩
theorem cl_law_descends (T : Bl mg) (Z : EcF P K mg c_StoreError c_InvalidInput c_NoPlace) (D : DfG K mg "_law_descends" s_law_descends [] [])  : ClG CX0 P w K mg base 3 "_law_descends" s_law_descends ["_law_row"] [] [] (spDsc K) := by
  have nd := sc_law_descends.nd
  refine D.okP sc_law_descends (fun vs H Q E h => ?_) (fun f cdv A outer s H vs Q E hr h => ?_)
  · obtain ⟨a, ds, rfl, _⟩ := h
    rfl
  · obtain ⟨a, ds, rfl, ⟨hs, hl⟩, k⟩ := h
    have hu := hu64 hr
    refine ⟨_, (pss_cons (ps_for PassesOwn.never rfl (pi_range1 rfl T.range (pa_cons (pe_callB (callLenK (K := K) (by rfl)) (by rfl) T.len (by decide +kernel) (pa_cons (pv 0) pa_nil)) pa_nil)) (pg_name (i := 1) nd rfl (Or.inl rfl))
      (pss_cons (ps_if (pt_cmpR opLt (pe_ix (ixSeqK (K := K) (by rfl)) (pv 0) (pv 1) (fun _ _ => rfl)) pe_int (nomark _))
      (pss_one (ps_ret pe_bl))
      pss_nil)
    (pss_one (ps_if (PW.pt (pw_and (pt_cmpR opGt (pv 1) pe_int (nomark _)) (pw_and1 (pt_cmpR opGe (pe_ix (ixSeqK (K := K) (by rfl)) (pv 0) (pv 1) (fun _ _ => rfl)) (pe_ix (ixSeqK (K := K) (by rfl)) (pv 0) (pe_op opSub (pv 1) pe_int) (fun _ _ => rfl)) (nomark _)))))
      (pss_one (ps_ret pe_bl))
      pss_nil))))
    (pss_one (ps_ret pe_bl))), ?_⟩
    try dsimp only [L2.cxOf, L2.Cx.nox]
    simp only [L2.start, N_law_descends, List.map_cons, List.map_nil, List.length_cons, List.length_nil, Nat.reduceAdd, Nat.reduceSub, List.replicate_succ, List.replicate_zero, List.cons_append, List.nil_append]

    walk_at "go"
    refine Gx.for1 [] (fun i σ' H' => ∃ s1, σ' = [some (.ref a), s1] ∧ ∀ (j : Nat) (d : Int), j < i → ds[j]? = some d → 1 ≤ d ∧ ∀ (e : Int), 0 < j → ds[j - 1]? = some e → d < e) (by simp; omega) ⟨_, rfl, fun j d h => absurd h (Nat.not_lt_zero _)⟩ ?_ ?_
    · rintro i σ' H' hi e ⟨s1, rfl, hall⟩
      have hi : (i : Int) < (ds.length : Nat) := by simpa using hi
      have hg : ∀ j : Nat, j < ds.length → ds[j]? = some (ds.getD j 0) := fun j h => by rw [List.getD_eq_getElem?_getD, List.getElem?_eq_getElem h]; rfl
      have hd := hg i (by omega)
      have hpv : ((i : Int) - 1).toNat = i - 1 := by omega
      have hnew : 1 ≤ ds.getD i 0 → (0 < i → ds.getD i 0 < ds.getD (i - 1) 0) → ∀ (j : Nat) (d : Int), j < i + 1 → ds[j]? = some d → 1 ≤ d ∧ ∀ (e : Int), 0 < j → ds[j - 1]? = some e → d < e := fun h1 h2 j d hj hjd => by
        by_cases z : j = i
        · subst z
          rw [hd] at hjd
          cases hjd
          refine ⟨h1, fun e h0 he => ?_⟩
          rw [hg (j - 1) (by omega)] at he
          cases he
          exact h2 h0
        · exact hall j d (by omega) hjd
      walk_at "gos"
      · exact k false _ Gx.rel ⟨fun h => (nomatch h), fun h => by have := (dec_iff.mp h i _ hd).1; omega⟩
      · rename_i hI3 hI2 hI
        rw [hpv] at hI
        exact k false _ Gx.rel ⟨fun h => (nomatch h), fun h => by have := (dec_iff.mp h i _ hd).2 _ (by omega) (hg (i - 1) (by omega)); omega⟩
      · rename_i hI3 hI2 hI
        rw [hpv] at hI
        exact Gx.li ⟨_, rfl, hnew (by omega) fun _ => by omega⟩
      · exact Gx.li ⟨_, rfl, hnew (by omega) fun h => by omega⟩
    · rintro σ' H' e ⟨s1, rfl, hall⟩
      walk_at "go"
      refine k true _ Gx.rel ⟨fun _ => dec_iff.mpr fun i d hd => hall i d ?_ hd, fun _ => rfl⟩
      have := (List.getElem?_eq_some_iff.mp hd).1
      simp
      omega
local macro_rules | `(tactic| walk_at "call") => `(tactic| ((with_reducible show spDsc _ _ _ _ _); refine ⟨_, _, rfl, ⟨by infer_instance, by omega⟩, ?_⟩; intro t_ H_ e_ ht_))
/-- the moves: what is due of a good word -/
def Cal.mv (k : Cal) (l : List Bool) : Option Str := match k.w with
  | .carry => fCar k.p l
  | .carries => fCars k.c k.p l
  | .append => fApp k.p k.g l
  | _ => fStp k.o k.c k.p l
def spDmv (K : PySem.W.Frag) : Sp := fun vs H Q _ => ∃ (w : Wy) (l : List Bool) (o : Option Int) (a : Addr) (ds : List Int) (c p : Int) (g : Str), vs = [.str w.nm, .str (tx l), iv o, .int c, .int p, .str g] ∧ (Cal.Ok K H ⟨w, tx l, o, a, ds, c, p, g⟩ ∧ (w = .carry ∨ w = .carries ∨ w = .append ∨ w = .step)) ∧ ∀ H', Ex H H' → Q (.str ((Cal.mv ⟨w, tx l, o, a, ds, c, p, g⟩ l).getD "")) H'
theorem q_str {H : Hp} {Q : VK} {a b : Str} (k : Q (.str a) H) (e : a = b) : Q (.str b) H := e ▸ k
abbrev s_law_due_move : Stmt := (top 52)
abbrev N_law_due_move : List Str := ["_law_way", "_law_word_here", "_law_index", "_law_count", "_law_places", "_law_sign"]
theorem sc_law_due_move : FnScope N_law_due_move ["_law_way", "_law_word_here", "_law_index", "_law_count", "_law_places", "_law_sign"] (defScope s_law_due_move) := ⟨rfl, rfl, rfl, by decide +kernel, rfl, by decide +kernel, by decide +kernel⟩
theorem cl_law_due_move (T : Bl mg) (Z : EcF P K mg c_StoreError c_InvalidInput c_NoPlace) (D : DfG K mg "_law_due_move" s_law_due_move [] []) (C_law_depths : ClG CX0 P w K mg base 3 "_law_depths" s_law_depths ["_law_word_here"] [] [] spDeU) : ClG CX0 P w K mg base 5 "_law_due_move" s_law_due_move ["_law_way", "_law_word_here", "_law_index", "_law_count", "_law_places", "_law_sign"] [] [] (spDmv K) := by
  have nd := sc_law_due_move.nd
  refine D.okP sc_law_due_move (fun vs H Q E h => ?_) (fun f cdv A outer s H vs Q E hr h => ?_)
  · obtain ⟨w, l, o, a, ds, c, p, g, rfl, _⟩ := h
    rfl
  · obtain ⟨w, l, o, a, ds, c, p, g, rfl, ⟨hO, hw⟩, k⟩ := h
    have hu := hu64 hr
    refine ⟨_, (pss_cons (ps_if (PW.pt (pw_and (pt_cmpR (opEqK (K := K) (by rfl) (by exact hu)) (pv 0) pe_str (nomark _)) (pw_and (pt_cmpR opNotN (pv 2) pe_non (nomark _)) (pw_and1 (pt_cmpR opLt (pv 2) pe_int (nomark _))))))
      (pss_one (ps_ret pe_str))
      pss_nil)
    (pss_cons (ps_if (PW.pt (pw_and (PW.pt (pw_or (pt_cmpR (opEqK (K := K) (by rfl) (by exact hu)) (pv 0) pe_str (nomark _)) (pw_or1 (pt_cmpR (opEqK (K := K) (by rfl) (by exact hu)) (pv 0) pe_str (nomark _))))) (pw_and1 (pt_cmpR opLt (pv 3) pe_int (nomark _)))))
      (pss_one (ps_ret pe_str))
      pss_nil)
    (pss_cons (ps_if (pt_cmpR opLt (pv 4) pe_int (nomark _))
      (pss_one (ps_ret pe_str))
      pss_nil)
    (pss_cons (ps_if (PW.pt (pw_and (pt_cmpR (opEqK (K := K) (by rfl) (by exact hu)) (pv 0) pe_str (nomark _)) (pw_and (pt_cmpR (opNeK (K := K) (by rfl) (by exact hu)) (pv 5) pe_str (nomark _)) (pw_and1 (pt_cmpR (opNeK (K := K) (by rfl) (by exact hu)) (pv 5) pe_str (nomark _))))))
      (pss_one (ps_ret pe_str))
      pss_nil)
    (pss_cons (ps_if (PW.pt (pw_and (pt_cmpR (opEqK (K := K) (by rfl) (by exact hu)) (pv 0) pe_str (nomark _)) (pw_and (pt_cmpR opNotN (pv 2) pe_non (nomark _)) (pw_and1 (pt_cmpR opGe (pv 2) (pe_callB (callLenK (K := K) (by rfl)) (by rfl) T.len (by decide +kernel) (pa_cons (pe_g C_law_depths (by exact hr.mono (by decide)) (E := fun _ => E0) (fun σ => passC0 σ) (fun _ _ _ _ _ _ us hl => match us, hl with | [_], _ => rfl) (pa_cons (pv 1) pa_nil)) pa_nil)) (nomark _))))))
      (pss_one (ps_ret pe_str))
      pss_nil)
    (pss_one (ps_ret (pe_ix (ixSeqK (K := K) (by rfl)) (pe_lst (pa_cons pe_str (pa_cons pe_str pa_nil))) (pe_callTy callInt (by rfl) T.int (by decide +kernel) (pa_cons (pe_cmpR opLt (pv 4) (pe_callB (callLenK (K := K) (by rfl)) (by rfl) T.len (by decide +kernel) (pa_cons (pv 1) pa_nil)) (nomark _)) pa_nil)) (fun _ _ => rfl))))))))), ?_⟩
    try dsimp only [L2.cxOf, L2.Cx.nox]
    simp only [L2.start, N_law_due_move, List.map_cons, List.map_nil, List.length_cons, List.length_nil, Nat.reduceAdd, Nat.reduceSub, List.replicate_succ, List.replicate_zero, List.cons_append, List.nil_append]

    dsimp only [Cal.Ok] at hO
    obtain ⟨o1, o2, o3, o4, o5, o6, o7, o8⟩ := hO
    clear o8
    rw [tx_len] at o1
    have e0 : tx [false] = ("0" : Str) := by decide +kernel
    have e1 : tx [true] = ("1" : Str) := by decide +kernel
    have hdl := dep_len l
    rcases hw with rfl | rfl | rfl | rfl
    · simp only [Wy.nm]
      walk_at "gos"
      all_goals
        first
          | (by_cases y : p < ((l.length : Nat) : Int)
             · rw [if_pos y]
               walk_at "go"
               refine q_str (k _ Gx.rel) ?_
               dsimp only [Cal.mv, fCar, fCars, fApp, fStp, negO, overO]
               try simp only [decide_eq_true_eq, Bool.false_eq_true, if_false]
               repeat' split
               all_goals first
                 | rfl
                 | (exfalso; omega)
                 | (exfalso; simp_all; done)
                 | (exfalso; simp_all; omega)
             · rw [if_neg y]
               walk_at "go"
               refine q_str (k _ Gx.rel) ?_
               dsimp only [Cal.mv, fCar, fCars, fApp, fStp, negO, overO]
               try simp only [decide_eq_true_eq, Bool.false_eq_true, if_false]
               repeat' split
               all_goals first
                 | rfl
                 | (exfalso; omega)
                 | (exfalso; simp_all; done)
                 | (exfalso; simp_all; omega))
          | (refine q_str (k _ Gx.rel) ?_
             dsimp only [Cal.mv, fCar, fCars, fApp, fStp, negO, overO]
             try simp only [decide_eq_true_eq, Bool.false_eq_true, if_false]
             repeat' split
             all_goals first
               | rfl
               | (exfalso; omega)
               | (exfalso; simp_all; done)
               | (exfalso; simp_all; omega))
    · simp only [Wy.nm]
      walk_at "gos"
      all_goals
        first
          | (by_cases y : p < ((l.length : Nat) : Int)
             · rw [if_pos y]
               walk_at "go"
               refine q_str (k _ Gx.rel) ?_
               dsimp only [Cal.mv, fCar, fCars, fApp, fStp, negO, overO]
               try simp only [decide_eq_true_eq, Bool.false_eq_true, if_false]
               repeat' split
               all_goals first
                 | rfl
                 | (exfalso; omega)
                 | (exfalso; simp_all; done)
                 | (exfalso; simp_all; omega)
             · rw [if_neg y]
               walk_at "go"
               refine q_str (k _ Gx.rel) ?_
               dsimp only [Cal.mv, fCar, fCars, fApp, fStp, negO, overO]
               try simp only [decide_eq_true_eq, Bool.false_eq_true, if_false]
               repeat' split
               all_goals first
                 | rfl
                 | (exfalso; omega)
                 | (exfalso; simp_all; done)
                 | (exfalso; simp_all; omega))
          | (refine q_str (k _ Gx.rel) ?_
             dsimp only [Cal.mv, fCar, fCars, fApp, fStp, negO, overO]
             try simp only [decide_eq_true_eq, Bool.false_eq_true, if_false]
             repeat' split
             all_goals first
               | rfl
               | (exfalso; omega)
               | (exfalso; simp_all; done)
               | (exfalso; simp_all; omega))
    · simp only [Wy.nm]
      walk_at "gos"
      all_goals try simp only [e0, e1] at *
      all_goals
        first
          | (by_cases y : p < ((l.length : Nat) : Int)
             · rw [if_pos y]
               walk_at "go"
               refine q_str (k _ Gx.rel) ?_
               dsimp only [Cal.mv, fCar, fCars, fApp, fStp, negO, overO]
               try simp only [decide_eq_true_eq, Bool.false_eq_true, if_false]
               repeat' split
               all_goals first
                 | rfl
                 | (exfalso; omega)
                 | (exfalso; simp_all; done)
                 | (exfalso; simp_all; omega)
             · rw [if_neg y]
               walk_at "go"
               refine q_str (k _ Gx.rel) ?_
               dsimp only [Cal.mv, fCar, fCars, fApp, fStp, negO, overO]
               try simp only [decide_eq_true_eq, Bool.false_eq_true, if_false]
               repeat' split
               all_goals first
                 | rfl
                 | (exfalso; omega)
                 | (exfalso; simp_all; done)
                 | (exfalso; simp_all; omega))
          | (refine q_str (k _ Gx.rel) ?_
             dsimp only [Cal.mv, fCar, fCars, fApp, fStp, negO, overO]
             try simp only [decide_eq_true_eq, Bool.false_eq_true, if_false]
             repeat' split
             all_goals first
               | rfl
               | (exfalso; omega)
               | (exfalso; simp_all; done)
               | (exfalso; simp_all; omega))
    · simp only [Wy.nm]
      cases o with
      | none =>
        simp only [iv]
        walk_at "gos"
        all_goals
          first
            | (by_cases y : p < ((l.length : Nat) : Int)
               · rw [if_pos y]
                 walk_at "go"
                 refine q_str (k _ Gx.rel) ?_
                 dsimp only [Cal.mv, fCar, fCars, fApp, fStp, negO, overO]
                 try simp only [decide_eq_true_eq, Bool.false_eq_true, if_false]
                 repeat' split
                 all_goals first
                   | rfl
                   | (exfalso; omega)
                   | (exfalso; simp_all; done)
                   | (exfalso; simp_all; omega)
               · rw [if_neg y]
                 walk_at "go"
                 refine q_str (k _ Gx.rel) ?_
                 dsimp only [Cal.mv, fCar, fCars, fApp, fStp, negO, overO]
                 try simp only [decide_eq_true_eq, Bool.false_eq_true, if_false]
                 repeat' split
                 all_goals first
                   | rfl
                   | (exfalso; omega)
                   | (exfalso; simp_all; done)
                   | (exfalso; simp_all; omega))
            | (refine q_str (k _ Gx.rel) ?_
               dsimp only [Cal.mv, fCar, fCars, fApp, fStp, negO, overO]
               try simp only [decide_eq_true_eq, Bool.false_eq_true, if_false]
               repeat' split
               all_goals first
                 | rfl
                 | (exfalso; omega)
                 | (exfalso; simp_all; done)
                 | (exfalso; simp_all; omega))
      | some i =>
        simp only [iv]
        walk_at "gos"
        all_goals
          first
            | (by_cases y : p < ((l.length : Nat) : Int)
               · rw [if_pos y]
                 walk_at "go"
                 refine q_str (k _ Gx.rel) ?_
                 dsimp only [Cal.mv, fCar, fCars, fApp, fStp, negO, overO]
                 try simp only [decide_eq_true_eq, Bool.false_eq_true, if_false]
                 repeat' split
                 all_goals first
                   | rfl
                   | (exfalso; omega)
                   | (exfalso; simp_all; done)
                   | (exfalso; simp_all; omega)
               · rw [if_neg y]
                 walk_at "go"
                 refine q_str (k _ Gx.rel) ?_
                 dsimp only [Cal.mv, fCar, fCars, fApp, fStp, negO, overO]
                 try simp only [decide_eq_true_eq, Bool.false_eq_true, if_false]
                 repeat' split
                 all_goals first
                   | rfl
                   | (exfalso; omega)
                   | (exfalso; simp_all; done)
                   | (exfalso; simp_all; omega))
            | (refine q_str (k _ Gx.rel) ?_
               dsimp only [Cal.mv, fCar, fCars, fApp, fStp, negO, overO]
               try simp only [decide_eq_true_eq, Bool.false_eq_true, if_false]
               repeat' split
               all_goals first
                 | rfl
                 | (exfalso; omega)
                 | (exfalso; simp_all; done)
                 | (exfalso; simp_all; omega))

local macro_rules | `(tactic| walk_at "call") => `(tactic| ((with_reducible show L2.rIn _ _ _ _ _ _); first | refine Gx.g_inL (b := true) rfl rfl (by decide +kernel) ?_ | refine Gx.g_inL (b := false) rfl rfl (by decide +kernel) ?_))
theorem Cal.Ok.any {K : PySem.W.Frag} {H H' : Hp} {k : Cal} (h : k.Ok K H) (hw : k.w ≠ .wordof) : k.Ok K H' := by
  obtain ⟨o1, o2, o3, o4, o5, o6, o7, _, o9⟩ := h
  exact ⟨o1, o2, o3, o4, o5, o6, o7, fun z => absurd z hw, o9⟩
def spDue (K : PySem.W.Frag) : Sp := fun vs H Q _ => ∃ (w : Wy) (z : Str) (x : V) (o : Option Int) (a : Addr) (ds : List Int) (c p : Int) (g : Str) (f : Option Str), vs = [.str w.nm, .str z, x, .int c, .int p, .str g] ∧ (x = Cal.x ⟨w, z, o, a, ds, c, p, g⟩ ∧ Cal.Ok K H ⟨w, z, o, a, ds, c, p, g⟩ ∧ Cal.Due ⟨w, z, o, a, ds, c, p, g⟩ f) ∧ ∀ H', Ex H H' → Q (.str (f.getD "")) H'
theorem g_esN {K : PySem.W.Frag} {H : Hp} {Q : VK} {p : Addr} {s : Str} {t : Bool} [h : At H p (.lst [.str s, .str ""])] (q : Q (.str (if t = true then "" else s)) H) : rIx K (.ref p) (.int (if t = true then 1 else 0)) H Q := by
  cases t
  · exact Gx.g_ixN (n := 0) rfl q
  · exact Gx.g_ixN (n := 1) rfl q
abbrev s_law_due : Stmt := (top 51)
abbrev N_law_due : List Str := ["_law_way", "_law_word_here", "_law_index", "_law_count", "_law_places", "_law_sign"]
theorem sc_law_due : FnScope N_law_due ["_law_way", "_law_word_here", "_law_index", "_law_count", "_law_places", "_law_sign"] (defScope s_law_due) := ⟨rfl, rfl, rfl, by decide +kernel, rfl, by decide +kernel, by decide +kernel⟩
theorem cl_law_due (T : Bl mg) (Z : EcF P K mg c_StoreError c_InvalidInput c_NoPlace) (D : DfG K mg "_law_due" s_law_due [] []) (C_law_due_move : ClG CX0 P w K mg base 5 "_law_due_move" s_law_due_move ["_law_way", "_law_word_here", "_law_index", "_law_count", "_law_places", "_law_sign"] [] [] (spDmv K)) (C_law_depths : ClG CX0 P w K mg base 3 "_law_depths" s_law_depths ["_law_word_here"] [] [] spDeU) (C_law_is_word : ClG CX0 P w K mg base 5 "_law_is_word" s_law_is_word ["_law_text"] [] [] spIsw) (C_law_is_digits : ClG CX0 P w K mg base 3 "_law_is_digits" s_law_is_digits ["_law_text"] [] [] spDig) (C_law_descends : ClG CX0 P w K mg base 3 "_law_descends" s_law_descends ["_law_row"] [] [] (spDsc K)) : ClG CX0 P w K mg base 7 "_law_due" s_law_due ["_law_way", "_law_word_here", "_law_index", "_law_count", "_law_places", "_law_sign"] [] [] (spDue K) := by
  have nd := sc_law_due.nd
  refine D.okP sc_law_due (fun vs H Q E h => ?_) (fun f cdv A outer s H vs Q E hr h => ?_)
  · obtain ⟨w, z, x, o, a, ds, c, p, g, f, rfl, _⟩ := h
    rfl
  · obtain ⟨w, z, x, o, a, ds, c, p, g, f, rfl, ⟨hx, hO, hD⟩, k⟩ := h
    have hu := hu64 hr
    refine ⟨_, (pss_cons (ps_if (PW.pt (pw_or (pt_cmpR (opEqK (K := K) (by rfl) (by exact hu)) (pv 0) pe_str (nomark _)) (pw_or1 (pt_cmpR (opEqK (K := K) (by rfl) (by exact hu)) (pv 0) pe_str (nomark _)))))
      (pss_cons (ps_if (pt_cmpR opLt (pv 3) pe_int (nomark _))
      (pss_one (ps_ret pe_str))
      pss_nil)
    (pss_cons (ps_if (PW.pt (pw_and (pt_cmpR (opEqK (K := K) (by rfl) (by exact hu)) (pv 0) pe_str (nomark _)) (pw_and1 (PW.pt (pw_or (pt_cmpR opLt (pv 4) (pv 3) (nomark _)) (pw_or1 (PW.pt (pw_and (pt_cmpR (opEqK (K := K) (by rfl) (by exact hu)) (pv 3) pe_int (nomark _)) (pw_and1 (pt_cmpR (opNeK (K := K) (by rfl) (by exact hu)) (pv 4) pe_int (nomark _)))))))))))
      (pss_one (ps_ret pe_str))
      pss_nil)
    (pss_one (ps_ret pe_str))))
      pss_nil)
    (pss_cons (ps_if (pt_cmpR (opEqK (K := K) (by rfl) (by exact hu)) (pv 0) pe_str (nomark _))
      (pss_one (ps_ret (pe_ix (ixSeqK (K := K) (by rfl)) (pe_lst (pa_cons pe_str (pa_cons pe_str pa_nil))) (pe_callTy callInt (by rfl) T.int (by decide +kernel) (pa_cons (pe_g C_law_descends (by exact hr.mono (by decide)) (E := fun _ => E0) (fun σ => passC0 σ) (fun _ _ _ _ _ _ us hl => match us, hl with | [_], _ => rfl) (pa_cons (pv 2) pa_nil)) pa_nil)) (fun _ _ => rfl))))
      pss_nil)
    (pss_cons (ps_if (pt_cmpR (opEqK (K := K) (by rfl) (by exact hu)) (pv 0) pe_str (nomark _))
      (pss_one (ps_ret (pe_ix (ixSeqK (K := K) (by rfl)) (pe_lst (pa_cons pe_str (pa_cons pe_str pa_nil))) (pe_callTy callInt (by rfl) T.int (by decide +kernel) (pa_cons (pe_g C_law_is_digits (by exact hr.mono (by decide)) (E := fun _ => E0) (fun σ => passC0 σ) (fun _ _ _ _ _ _ us hl => match us, hl with | [_], _ => rfl) (pa_cons (pv 1) pa_nil)) pa_nil)) (fun _ _ => rfl))))
      pss_nil)
    (pss_cons (ps_if (pt_cmpR (opEqK (K := K) (by rfl) (by exact hu)) (pv 0) pe_str (nomark _))
      (pss_cons (ps_if (pt_not (pt_val (pe_g C_law_is_word (by exact hr.mono (by decide)) (E := fun _ => E0) (fun σ => passC0 σ) (fun _ _ _ _ _ _ us hl => match us, hl with | [_], _ => rfl) (pa_cons (pv 1) pa_nil))))
      (pss_one (ps_ret pe_str))
      pss_nil)
    (pss_one (ps_ret (pe_ix (ixSeqK (K := K) (by rfl)) (pe_lst (pa_cons pe_str (pa_cons pe_str pa_nil))) (pe_callTy callInt (by rfl) T.int (by decide +kernel) (pa_cons (pe_g C_law_is_word (by exact hr.mono (by decide)) (E := fun _ => E0) (fun σ => passC0 σ) (fun _ _ _ _ _ _ us hl => match us, hl with | [_], _ => rfl) (pa_cons (pv 5) pa_nil)) pa_nil)) (fun _ _ => rfl)))))
      pss_nil)
    (pss_cons (ps_if (pt_not (pt_val (pe_g C_law_is_word (by exact hr.mono (by decide)) (E := fun _ => E0) (fun σ => passC0 σ) (fun _ _ _ _ _ _ us hl => match us, hl with | [_], _ => rfl) (pa_cons (pv 1) pa_nil))))
      (pss_one (ps_ret pe_str))
      pss_nil)
    (pss_cons (ps_if (PW.pt (pw_and (pt_cmpR (opEqK (K := K) (by rfl) (by exact hu)) (pv 0) pe_str (nomark _)) (pw_and1 (PW.pt (pw_or (pt_cmpR opLt (pv 2) pe_int (nomark _)) (pw_or1 (pt_cmpR opGe (pv 2) (pe_callB (callLenK (K := K) (by rfl)) (by rfl) T.len (by decide +kernel) (pa_cons (pe_g C_law_depths (by exact hr.mono (by decide)) (E := fun _ => E0) (fun σ => passC0 σ) (fun _ _ _ _ _ _ us hl => match us, hl with | [_], _ => rfl) (pa_cons (pv 1) pa_nil)) pa_nil)) (nomark _))))))))
      (pss_one (ps_ret pe_str))
      pss_nil)
    (pss_cons (ps_if (pt_cmpR (opInK (K := K) (by rfl)) (pv 0) (pe_lst (pa_cons pe_str (pa_cons pe_str (pa_cons pe_str (pa_cons pe_str pa_nil))))) (by rfl))
      (pss_one (ps_ret (pe_g C_law_due_move (by exact hr.mono (by decide)) (E := fun _ => E0) (fun σ => passC0 σ) (fun _ _ _ _ _ _ us hl => match us, hl with | [_, _, _, _, _, _], _ => rfl) (pa_cons (pv 0) (pa_cons (pv 1) (pa_cons (pv 2) (pa_cons (pv 3) (pa_cons (pv 4) (pa_cons (pv 5) pa_nil)))))))))
      pss_nil)
    (pss_one (ps_ret pe_str))))))))), ?_⟩
    try dsimp only [L2.cxOf, L2.Cx.nox]
    simp only [L2.start, N_law_due, List.map_cons, List.map_nil, List.length_cons, List.length_nil, Nat.reduceAdd, Nat.reduceSub, List.replicate_succ, List.replicate_zero, List.cons_append, List.nil_append]

    have hO0 := hO
    dsimp only [Cal.Ok] at hO
    obtain ⟨o1, o2, o3, o4, o5, o6, o7, o8, o9, o10, o11⟩ := hO
    cases w
    all_goals dsimp only [Cal.x, Cal.Due] at hx hD
    all_goals subst hx
    all_goals simp only [Wy.nm]
    case' wordof => obtain ⟨s8, s9, s10⟩ := o8 rfl
    case' release => obtain ⟨i, rfl, hD⟩ := hD; simp only [iv]
    all_goals walk_at "go"
    case' normal =>
      rename_i p1 H1 n1 e1 hp1 t H2 e2 ht
      rcases hD with ⟨h, rfl⟩ | ⟨h, rfl⟩
      · cases t
        · exact Gx.g_ixN (n := 0) rfl (k _ Gx.rel)
        · exact absurd (ht.mp rfl) h
      · cases t
        · exact absurd (ht.mpr h) (by decide)
        · exact Gx.g_ixN (n := 1) rfl (k _ Gx.rel)
    case' wordof =>
      rename_i p1 H1 n1 e1 hp1 t H2 e2 ht
      rcases hD with ⟨h, rfl⟩ | ⟨h, rfl⟩
      · cases t
        · exact absurd (ht.mpr h) (by decide)
        · exact Gx.g_ixN (n := 1) rfl (k _ Gx.rel)
      · cases t
        · exact Gx.g_ixN (n := 0) rfl (k _ Gx.rel)
        · exact absurd (ht.mp rfl) h
    case' best =>
      subst hD
      unfold fBest at k
      refine Gx.g_ite (fun hI => ?_) (fun hI => ?_)
      · rw [if_pos hI] at k
        walk_at "go"
        exact k _ Gx.rel
      · rw [if_neg hI] at k
        walk_at "go"
        exact k _ Gx.rel
    case' worst =>
      subst hD
      unfold fWor at k
      walk_at "gos"
      all_goals refine q_str (k _ Gx.rel) ?_
      all_goals repeat' split
      all_goals first
        | rfl
        | (exfalso; omega)
    case' dominates =>
      rename_i t H1 e1 ht
      rcases hD with ⟨h, rfl⟩ | ⟨h, hD⟩
      · cases t
        · walk_at "gos"
          exact k _ Gx.rel
        · exact absurd (ht.mp rfl) h
      · cases t
        · exact absurd (ht.mpr h) (by decide)
        · walk_at "gos"
          rename_i p1 H2 n2 e2 hp1 t H3 e3 ht3
          rcases hD with ⟨h3, rfl⟩ | ⟨l, rfl, hl, rfl⟩
          · cases t
            · exact Gx.g_ixN (n := 0) rfl (k _ Gx.rel)
            · exact absurd (ht3.mp rfl) h3
          · cases t
            · exact absurd (ht3.mpr ⟨l, rfl, hl⟩) (by decide)
            · exact Gx.g_ixN (n := 1) rfl (k _ Gx.rel)
    all_goals
      rename_i t H1 e1 ht
      rcases hD with ⟨h, rfl⟩ | ⟨l, rfl, hl, rfl⟩
      · cases t
        · walk_at "gos"
          exact k _ Gx.rel
        · exact absurd (ht.mp rfl) h
      cases t
      · exact absurd (ht.mpr ⟨l, rfl, hl⟩) (by decide)
      rw [tx_len] at o1
      have hdl := dep_len l
      walk_at "gos"
      all_goals first
        | exact k _ Gx.rel
        | exact ⟨.carry, l, _, a, ds, _, _, _, rfl, ⟨hO0.any (by simp), by simp⟩, fun H9 e9 => q_str (k _ Gx.rel) rfl⟩
        | exact ⟨.carries, l, _, a, ds, _, _, _, rfl, ⟨hO0.any (by simp), by simp⟩, fun H9 e9 => q_str (k _ Gx.rel) rfl⟩
        | exact ⟨.append, l, _, a, ds, _, _, _, rfl, ⟨hO0.any (by simp), by simp⟩, fun H9 e9 => q_str (k _ Gx.rel) rfl⟩
        | exact ⟨.step, l, _, a, ds, _, _, _, rfl, ⟨hO0.any (by simp), by simp⟩, fun H9 e9 => q_str (k _ Gx.rel) rfl⟩
        | (refine q_str (k _ Gx.rel) ?_
           unfold fRel
           split
           all_goals first
             | rfl
             | (exfalso; omega))
theorem late_ne : ("early" : Str) ≠ "late" := by decide +kernel
/-- the law's own word: places are full -/
def spFul : Sp := fun vs H Q _ => ∃ (w : Wy) (z : Str) (x : V) (o : Option Int) (a : Addr) (ds : List Int) (c p : Int) (g : Str), vs = [.str w.nm, .str z, x, .int p, .str g] ∧ (x = Cal.x ⟨w, z, o, a, ds, c, p, g⟩ ∧ z.length ≤ 64 ∧ (w = .step → ∃ l, z = tx l ∧ l.head? ≠ some false ∧ 1 ≤ p ∧ ∀ i, o = some i → 0 ≤ i ∧ i < (l.count true : Nat))) ∧ ∀ (t : Bool) H', Ex H H' → (t = true ↔ Cal.Full ⟨w, z, o, a, ds, c, p, g⟩) → Q (.bl t) H'
abbrev s_law_is_full : Stmt := (top 53)
abbrev N_law_is_full : List Str := ["_law_way", "_law_word_here", "_law_index", "_law_places", "_law_sign", "_law_due_here"]
theorem sc_law_is_full : FnScope N_law_is_full ["_law_way", "_law_word_here", "_law_index", "_law_places", "_law_sign"] (defScope s_law_is_full) := ⟨rfl, rfl, rfl, by decide +kernel, rfl, by decide +kernel, by decide +kernel⟩
theorem cl_law_is_full (T : Bl mg) (Z : EcF P K mg c_StoreError c_InvalidInput c_NoPlace) (D : DfG K mg "_law_is_full" s_law_is_full [] []) (C_law_depths : ClG CX0 P w K mg base 3 "_law_depths" s_law_depths ["_law_word_here"] [] [] spDeU) : ClG CX0 P w K mg base 5 "_law_is_full" s_law_is_full ["_law_way", "_law_word_here", "_law_index", "_law_places", "_law_sign"] [] [] spFul := by
  have nd := sc_law_is_full.nd
  refine D.okP sc_law_is_full (fun vs H Q E h => ?_) (fun f cdv A outer s H vs Q E hr h => ?_)
  · obtain ⟨w, z, x, o, a, ds, c, p, g, rfl, _⟩ := h
    rfl
  · obtain ⟨w, z, x, o, a, ds, c, p, g, rfl, ⟨hx, hz, hs⟩, k⟩ := h
    have hu := hu64 hr
    refine ⟨_, (pss_cons (ps_if (PW.pt (pw_or (pt_cmpR (opEqK (K := K) (by rfl) (by exact hu)) (pv 0) pe_str (nomark _)) (pw_or1 (PW.pt (pw_and (pt_cmpR (opEqK (K := K) (by rfl) (by exact hu)) (pv 0) pe_str (nomark _)) (pw_and1 (pt_cmpR (opEqK (K := K) (by rfl) (by exact hu)) (pv 4) pe_str (nomark _))))))))
      (pss_one (ps_ret (pe_cmpR (opEqK (K := K) (by rfl) (by exact hu)) (pe_callB (callLenK (K := K) (by rfl)) (by rfl) T.len (by decide +kernel) (pa_cons (pv 1) pa_nil)) (pv 3) (nomark _))))
      pss_nil)
    (pss_cons (ps_if (pt_cmpR (opNeK (K := K) (by rfl) (by exact hu)) (pv 0) pe_str (nomark _))
      (pss_one (ps_ret pe_bl))
      pss_nil)
    (pss_cons (ps_set (i := 5) nd rfl (Or.inl rfl) (pe_g C_law_depths (by exact hr.mono (by decide)) (E := fun _ => E0) (fun σ => passC0 σ) (fun _ _ _ _ _ _ us hl => match us, hl with | [_], _ => rfl) (pa_cons (pv 1) pa_nil)))
    (pss_cons (ps_if (pt_cmpR opNotN (pv 2) pe_non (nomark _))
      (pss_one (ps_set (i := 5) nd rfl (Or.inl rfl) (pe_op (opAddK (K := K) (by rfl)) (pe_slice (slAnyK (K := K) (by rfl)) (pv 5) po_none (po_some (pv 2))) (pe_slice (slAnyK (K := K) (by rfl)) (pv 5) (po_some (pe_op (opAddK (K := K) (by rfl)) (pv 2) pe_int)) po_none))))
      pss_nil)
    (pss_one (ps_ret (pe_and (pe_cmpR (opNeK (K := K) (by rfl) (by exact hu)) (pv 5) (pe_lst pa_nil) (nomark _)) (pe_one (pe_cmpR (opEqK (K := K) (by rfl) (by exact hu)) (pe_ix (ixSeqK (K := K) (by rfl)) (pv 5) pe_int (fun _ _ => rfl)) (pv 3) (nomark _)))))))))), ?_⟩
    try dsimp only [L2.cxOf, L2.Cx.nox]
    simp only [L2.start, N_law_is_full, List.map_cons, List.map_nil, List.length_cons, List.length_nil, Nat.reduceAdd, Nat.reduceSub, List.replicate_succ, List.replicate_zero, List.cons_append, List.nil_append]

    cases w
    all_goals dsimp only [Cal.x] at hx
    all_goals subst hx
    all_goals simp only [Wy.nm]
    all_goals walk_at "go"
    case' append => exact k _ _ Gx.rel (by rw [decide_eq_true_iff]; exact Iff.rfl)
    case' step =>
      obtain ⟨l, rfl, hl, hp1, hi⟩ := hs rfl
      rw [tx_len] at hz
      have hdl := dep_len l
      have hcl := List.count_le_length (a := true) (l := l)
      refine Gx.g_ite (fun hI => ?_) (fun hI => ?_)
      case' refine_1 =>
        walk_at "go"
        exact k _ _ Gx.rel (by rw [decide_eq_true_iff]; dsimp only [Cal.Full]; rw [if_pos hI, tx_len])
      have hful : ∀ u, relO l (o.map Int.toNat) = u → (Cal.Full ⟨.step, tx l, o, a, ds, c, p, g⟩ ↔ (u.length : Int) = p) := fun u hu => by
        dsimp only [Cal.Full]
        rw [if_neg hI]
        constructor
        · rintro ⟨m, hm, h⟩
          have := tx_inj hm
          subst this
          rw [← hu]
          exact h
        · intro h
          exact ⟨l, rfl, by rw [hu]; exact h⟩
      have hend : ∀ u : List Bool, u.head? ≠ some false → (0 < (dep u).length ∨ False) → relO l (o.map Int.toNat) = u → ((dep u).getD (Int.toNat 0) 0 = p ↔ Cal.Full ⟨.step, tx l, o, a, ds, c, p, g⟩) := fun u h1 h2 hu => by
        rw [hful u hu]
        have hn : u ≠ [] := fun z => by subst z; rcases h2 with h | h; · exact absurd h (by decide)
                                        · exact h
        rw [show (dep u).getD (Int.toNat 0) 0 = (u.length : Int) from dep_hd h1 hn]
      have hend0 : ∀ u : List Bool, u.head? ≠ some false → dep u = [] → relO l (o.map Int.toNat) = u → (Cal.Full ⟨.step, tx l, o, a, ds, c, p, g⟩ ↔ False) := fun u h1 h2 hu => by
        rw [hful u hu]
        refine ⟨fun h => ?_, False.elim⟩
        have hn : u ≠ [] := fun z => by subst z; simp at h; omega
        have h3 := dep_hd h1 hn
        rw [h2] at h3
        simp at h3
        omega
      cases o with
      | none =>
        simp only [iv]
        walk_at "gos"
        · rename_i hI2
          have h0 : 0 < (dep l).length := List.length_pos_iff.mpr hI2
          walk_at "go"
          exact k _ _ Gx.rel (by rw [decide_eq_true_iff]; exact hend l hl (.inl h0) (by simp [relO]))
        · rename_i hI2
          exact k false _ Gx.rel ⟨fun h => (nomatch h), fun h => by
            have := (hend0 l hl hI2 (by simp [relO])).mp h
            exact this.elim⟩
      | some i =>
        simp only [iv]
        have hi := hi i rfl
        obtain ⟨n, rfl⟩ : ∃ n : Nat, i = (n : Int) := ⟨i.toNat, by omega⟩
        have hdr := dep_rel (l := l) (i := n) (by omega)
        rw [List.eraseIdx_eq_take_drop_succ] at hdr
        have hrh : (relW l n).head? ≠ some false := head_trim _
        walk_at "gos"
        rename_i p1 H1 n1 e1 hp1 p2 H2 n2 e2 hp2 p3 H3 n3 e3 hp3
        have c1 : cutV ((dep l).map V.int) none (some (n : Int)) = ((dep l).take n).map V.int := by rw [Gx.cutV_int]; unfold Gx.cutI; rw [Gx.cutB_to]
        have c2 : cutV ((dep l).map V.int) (some ((n : Int) + 1)) none = ((dep l).drop (n + 1)).map V.int := by rw [Gx.cutV_int]; unfold Gx.cutI; rw [show ((n : Int) + 1) = ((n + 1 : Nat) : Int) from rfl, Gx.cutB_from]
        rw [c1] at hp2
        rw [c2] at hp3
        refine Gx.g_cat (by simp; omega) fun p4 H4 n4 e4 hp4 => ?_
        rw [← List.map_append, ← hdr] at hp4
        have hrl := dep_len (relW l n)
        walk_at "gos"
        · rename_i hI2
          have h0 : 0 < (dep (relW l n)).length := List.length_pos_iff.mpr hI2
          walk_at "go"
          exact k _ _ Gx.rel (by rw [decide_eq_true_iff]; exact hend (relW l n) hrh (.inl h0) (by simp [relO]))
        · rename_i hI2
          exact k false _ Gx.rel ⟨fun h => (nomatch h), fun h => by
            have := (hend0 (relW l n) hrh hI2 (by simp [relO])).mp h
            exact this.elim⟩
    all_goals exact k false _ Gx.rel ⟨fun h => (nomatch h), fun h => False.elim h⟩

def spCal (cI cN : Addr) (K : PySem.W.Frag) (T : Wy → Prop) : Sp := fun vs H Q E => ∃ (w : Wy) (z : Str) (x : V) (o : Option Int) (a : Addr) (ds : List Int) (c p : Int) (g : Str) (f : Option Str), vs = [.str w.nm, .str z, x, .int c, .int p, .str g] ∧ (x = Cal.x ⟨w, z, o, a, ds, c, p, g⟩ ∧ Cal.Ok K H ⟨w, z, o, a, ds, c, p, g⟩ ∧ Cal.Due ⟨w, z, o, a, ds, c, p, g⟩ f ∧ T w) ∧
  (∀ fl, f = some fl → Rai cI fl H E) ∧ (f = none → ¬ Cal.Full ⟨w, z, o, a, ds, c, p, g⟩ → ∀ v H', Ex H H' → KindOk w v H' → Q v H') ∧ (f = none → Cal.Full ⟨w, z, o, a, ds, c, p, g⟩ → ∀ d H', Nw H d → Ex H H' → At H' d (.xd [("length", .int p)]) → E (.ref cN) (some d) H')
def spTxt (cI : Addr) : Sp := fun vs H Q E => ∃ (w : Wy) (z : Str) (f : Option Str), vs = [.str w.nm, .str z] ∧ (z.length ≤ 64 ∧ Cal.Due ⟨w, z, none, 0, [], 0, 0, ""⟩ f ∧ (w = .normal ∨ w = .living ∨ w = .depths ∨ w = .newest)) ∧
  (∀ fl, f = some fl → Rai cI fl H E) ∧ (f = none → ∀ v H', Ex H H' → KindOk w v H' → Q v H')
theorem wd64 {l : List Bool} (h1 : l.length ≤ 64) (h2 : l.head? ≠ some false) : Wd l := ⟨h1, h2⟩
abbrev s_law_call_text : Stmt := (top 47)
abbrev N_law_call_text : List Str := ["_law_way", "_law_word_here"]
theorem sc_law_call_text : FnScope N_law_call_text ["_law_way", "_law_word_here"] (defScope s_law_call_text) := ⟨rfl, rfl, rfl, by decide +kernel, rfl, by decide +kernel, by decide +kernel⟩
theorem cl_law_call_text (T : Bl mg) (Z : EcF P K mg c_StoreError c_InvalidInput c_NoPlace) (D : DfG K mg "_law_call_text" s_law_call_text [] []) (C_newest_J : ClG (L2.CX P w) P w K mg base 5 "newest" s_newest_J ["word"] [] [] (Gx.spOr spNewest (spWX c_InvalidInput "word"))) (C_depths_J : ClG (L2.CX P w) P w K mg base 5 "depths" s_depths_J ["word"] [] [] (Gx.spOr spDepths (spWX c_InvalidInput "word"))) (C_living_J : ClG (L2.CX P w) P w K mg base 5 "living" s_living_J ["word"] [] [] (Gx.spOr spLiving (spWX c_InvalidInput "word"))) (C_normal_J : ClG (L2.CX P w) P w K mg base 5 "normal" s_normal_J ["text"] [] [] (Gx.spOr spNormal (spNoX c_InvalidInput))) : ClG (L2.CX P w) P w K mg base 7 "_law_call_text" s_law_call_text ["_law_way", "_law_word_here"] [] [] (spTxt c_InvalidInput) := by
  have nd := sc_law_call_text.nd
  refine D.ok sc_law_call_text (fun vs H Q E h => ?_) (fun f cdv A outer s H vs Q E hr h => ?_)
  · obtain ⟨w, z, f, rfl, _⟩ := h
    rfl
  · obtain ⟨w, z, f, rfl, ⟨hz, hD, hw⟩, k1, k2⟩ := h
    have hu := hu64 hr
    refine ⟨_, (pss_cons (ps_if (pt_cmpR (opEqK (K := K) (by rfl) (by exact hu)) (pv 0) pe_str (nomark _))
      (pss_one (ps_ret (pe_g C_normal_J (by exact hr.mono (by decide)) (fun σ => passC takesX σ) (fun _ _ _ _ _ _ us hl => match us, hl with | [_], _ => rfl) (pa_cons (pv 1) pa_nil))))
      pss_nil)
    (pss_cons (ps_if (pt_cmpR (opEqK (K := K) (by rfl) (by exact hu)) (pv 0) pe_str (nomark _))
      (pss_one (ps_ret (pe_g C_living_J (by exact hr.mono (by decide)) (fun σ => passC takesX σ) (fun _ _ _ _ _ _ us hl => match us, hl with | [_], _ => rfl) (pa_cons (pv 1) pa_nil))))
      pss_nil)
    (pss_cons (ps_if (pt_cmpR (opEqK (K := K) (by rfl) (by exact hu)) (pv 0) pe_str (nomark _))
      (pss_one (ps_ret (pe_g C_depths_J (by exact hr.mono (by decide)) (fun σ => passC takesX σ) (fun _ _ _ _ _ _ us hl => match us, hl with | [_], _ => rfl) (pa_cons (pv 1) pa_nil))))
      pss_nil)
    (pss_one (ps_ret (pe_g C_newest_J (by exact hr.mono (by decide)) (fun σ => passC takesX σ) (fun _ _ _ _ _ _ us hl => match us, hl with | [_], _ => rfl) (pa_cons (pv 1) pa_nil))))))), ?_⟩
    try dsimp only [L2.cxOf, L2.Cx.nox]
    simp only [L2.start, N_law_call_text, List.map_cons, List.map_nil, List.length_cons, List.length_nil, Nat.reduceAdd, Nat.reduceSub, List.replicate_succ, List.replicate_zero, List.cons_append, List.nil_append]

    rcases hw with rfl | rfl | rfl | rfl
    all_goals dsimp only [Cal.Due] at hD
    all_goals simp only [Wy.nm]
    all_goals walk_at "go"
    · rcases hD with ⟨h, rfl⟩ | ⟨⟨l, rfl⟩, rfl⟩
      · exact .inr ⟨z, rfl, ⟨by omega, h⟩, k1 _ rfl⟩
      · exact .inl ⟨l, rfl, by rw [tx_len] at hz; omega, k2 rfl _ _ Gx.rel ⟨_, rfl⟩⟩
    · rcases hD with ⟨h, rfl⟩ | ⟨l, rfl, hl, rfl⟩
      · exact .inr ⟨z, rfl, ⟨by omega, h⟩, k1 _ rfl⟩
      · exact .inl ⟨l, rfl, wd64 (by rw [tx_len] at hz; exact hz) hl, k2 rfl _ _ Gx.rel ⟨_, rfl⟩⟩
    · rcases hD with ⟨h, rfl⟩ | ⟨l, rfl, hl, rfl⟩
      · exact .inr ⟨z, rfl, ⟨by omega, h⟩, k1 _ rfl⟩
      · exact .inl ⟨l, rfl, wd64 (by rw [tx_len] at hz; exact hz) hl, fun p H' n e hp => k2 rfl _ _ Gx.rel ⟨p, _, rfl, hp.eq⟩⟩
    · rcases hD with ⟨h, rfl⟩ | ⟨l, rfl, hl, rfl⟩
      · exact .inr ⟨z, rfl, ⟨by omega, h⟩, k1 _ rfl⟩
      · refine .inl ⟨l, rfl, wd64 (by rw [tx_len] at hz; exact hz) hl, k2 rfl _ _ Gx.rel ?_⟩
        split
        · exact .inl rfl
        · exact .inr ⟨_, rfl⟩
theorem dueW_none {fw z : Str} {g : List Bool → Option Str} (h : DueW fw z g none) : ∃ l, z = tx l ∧ l.head? ≠ some false ∧ none = g l := by
  rcases h with ⟨_, h⟩ | h
  · cases h
  · exact h
theorem wof_fl : ∀ {ds : List Int}, Dec ds → ((wof ds).flatten.length : Int) = ds.headD 0 ∧ 0 ≤ ds.headD 0
  | [], _ => ⟨rfl, Int.le_refl _⟩
  | d :: r, h => by
    obtain ⟨h1, h2⟩ := wof_fl h.2
    have h3 := h.1
    rw [wof, List.flatten_cons, List.length_append, List.length_cons, List.length_replicate, List.headD_cons]
    omega
theorem wof_le {ds : List Int} (h : Dec ds) (hb : ∀ d ∈ ds, d ≤ 64) : (wof ds).flatten.length ≤ 1000 := by
  obtain ⟨h1, h2⟩ := wof_fl h
  cases ds with
  | nil => decide
  | cons d r =>
    have := hb d (List.mem_cons_self ..)
    rw [List.headD_cons] at h1
    omega
theorem fRel_none {i : Int} {l : List Bool} (h : none = fRel i l) : 0 ≤ i ∧ i < (l.count true : Nat) := by
  unfold fRel at h
  split at h
  · cases h
  · omega
theorem fCar_none {p : Int} {l : List Bool} (h : none = fCar p l) : 1 ≤ p ∧ ((l.length : Nat) : Int) ≤ p := by
  unfold fCar at h
  split at h
  · cases h
  · omega
theorem fCars_none {c p : Int} {l : List Bool} (h : none = fCars c p l) : 0 ≤ c ∧ 1 ≤ p ∧ ((l.length : Nat) : Int) ≤ p := by
  unfold fCars at h
  split at h
  · cases h
  · exact ⟨by omega, fCar_none h⟩
theorem fApp_none {p : Int} {r : Str} {l : List Bool} (h : none = fApp p r l) : (∃ b : Bool, r = tx [b]) ∧ 1 ≤ p ∧ ((l.length : Nat) : Int) ≤ p := by
  have e0 : tx [false] = ("0" : Str) := by decide +kernel
  have e1 : tx [true] = ("1" : Str) := by decide +kernel
  unfold fApp at h
  split at h
  · cases h
  · split at h
    · cases h
    · rename_i h2
      split at h
      · cases h
      · refine ⟨?_, by omega, by omega⟩
        by_cases z : r = "0"
        · exact ⟨false, by rw [e0]; exact z⟩
        · by_cases y : r = "1"
          · exact ⟨true, by rw [e1]; exact y⟩
          · exact absurd ⟨z, y⟩ h2
theorem fStp_none {o : Option Int} {c p : Int} {l : List Bool} (h : none = fStp o c p l) : (∀ i, o = some i → 0 ≤ i ∧ i < (l.count true : Nat)) ∧ 0 ≤ c ∧ 1 ≤ p ∧ ((l.length : Nat) : Int) ≤ p := by
  unfold fStp at h
  split at h
  · cases h
  · rename_i h1
    split at h
    · cases h
    · split at h
      · cases h
      · split at h
        · cases h
        · rename_i h4
          split at h
          · cases h
          · refine ⟨fun i hi => ?_, by omega, by omega, by omega⟩
            subst hi
            simp only [negO, overO, decide_eq_true_eq] at h1 h4
            omega
theorem fBest_none {c : Int} (h : none = fBest c) : 0 ≤ c := by
  unfold fBest at h
  split at h
  · cases h
  · omega
theorem fWor_none {c n : Int} (h : none = fWor c n) : 0 ≤ c ∧ c ≤ n ∧ (c = 0 → n = 0) := by
  unfold fWor at h
  split at h
  · cases h
  · split at h
    · cases h
    · omega
/-- the early put finds no place exactly if the released word fills its places -/
theorem step_none_e {l : List Bool} {o : Option Nat} {c n : Nat} (h1 : 1 ≤ n) (hl : (relO l o).length ≤ n) : stepW l o c n false = none ↔ (relO l o).length = n := by
  constructor
  · intro h
    by_cases z : (relO l o).length = n
    · exact z
    · have := carN_len2 (n := n) (min c ((relO l o).count true)) (l := relO l o)
      rw [step_e1 (by omega)] at h
      cases h
  · intro h
    rw [step_e0 (by rw [carN_full0 (by omega)]; omega)]
theorem step_none_l {l : List Bool} {o : Option Nat} {c n : Nat} (hl : l.length ≤ n) : stepW l o c n true = none ↔ l.length = n := by
  constructor
  · intro h
    by_cases z : l.length = n
    · exact z
    · rw [step_l1 (by omega)] at h
      cases h
  · intro h
    rw [step_l0 (by omega)]
abbrev s_law_call : Stmt := (top 48)
abbrev N_law_call : List Str := ["_law_way", "_law_word_here", "_law_index", "_law_count", "_law_places", "_law_sign"]
theorem sc_law_call : FnScope N_law_call ["_law_way", "_law_word_here", "_law_index", "_law_count", "_law_places", "_law_sign"] (defScope s_law_call) := ⟨rfl, rfl, rfl, by decide +kernel, rfl, by decide +kernel, by decide +kernel⟩
theorem cl_law_call (T : Bl mg) (Z : EcF P K mg c_StoreError c_InvalidInput c_NoPlace) (D : DfG K mg "_law_call" s_law_call [] []) (C_law_call_text : ClG (L2.CX P w) P w K mg base 7 "_law_call_text" s_law_call_text ["_law_way", "_law_word_here"] [] [] (spTxt c_InvalidInput)) (C_word_of_J : ClG (L2.CX P w) P w K mg base 5 "word_of" s_word_of_J ["depths"] [] [] (Gx.spOr (spWordOf K) (spWoX c_InvalidInput K))) (C_worst_word_J : ClG (L2.CX P w) P w K mg base 5 "worst_word" s_worst_word_J ["count", "length"] [] [] (Gx.spOr spWorst (spWsX c_InvalidInput))) (C_best_word_J : ClG (L2.CX P w) P w K mg base 5 "best_word" s_best_word_J ["count"] [] [] (Gx.spOr spBest (spBsX c_InvalidInput))) (C_dominates_J : ClG (L2.CX P w) P w K mg base 5 "dominates" s_dominates_J ["first", "second"] [] [] (Gx.spOr spDom (spDmX c_InvalidInput))) (C_step_J : ClG (L2.CX P w) P w K mg base 9 "step" s_step_J ["word", "index", "count", "places", "late"] [] [("late", .bl false)] (Gx.spOr (spStep c_NoPlace) (spStX c_InvalidInput))) (C_append_record_J : ClG (L2.CX P w) P w K mg base 7 "append_record" s_append_record_J ["word", "places", "record"] [.str "1"] [] (Gx.spOr (spAppR c_NoPlace) (spApX c_InvalidInput))) (C_carries_J : ClG (L2.CX P w) P w K mg base 9 "carries" s_carries_J ["word", "count", "places"] [] [] (Gx.spOr spCarries (spCsX c_InvalidInput))) (C_carry_J : ClG (L2.CX P w) P w K mg base 7 "carry" s_carry_J ["word", "places"] [] [] (Gx.spOr spCarry (spCyX c_InvalidInput))) (C_release_J : ClG (L2.CX P w) P w K mg base 7 "release" s_release_J ["word", "index"] [] [] (Gx.spOr spRelease (spRlX c_InvalidInput))) : ClG (L2.CX P w) P w K mg base 11 "_law_call" s_law_call ["_law_way", "_law_word_here", "_law_index", "_law_count", "_law_places", "_law_sign"] [] [] (spCal c_InvalidInput c_NoPlace K (fun _ => True)) := by
  have nd := sc_law_call.nd
  refine D.ok sc_law_call (fun vs H Q E h => ?_) (fun f cdv A outer s H vs Q E hr h => ?_)
  · obtain ⟨w, z, x, o, a, ds, c, p, g, f, rfl, _⟩ := h
    rfl
  · obtain ⟨w, z, x, o, a, ds, c, p, g, f, rfl, ⟨hx, hO, hD, _⟩, k1, k2, k3⟩ := h
    have hu := hu64 hr
    refine ⟨_, (pss_cons (ps_if (pt_cmpR (opEqK (K := K) (by rfl) (by exact hu)) (pv 0) pe_str (nomark _))
      (pss_one (ps_ret (pe_g C_release_J (by exact hr.mono (by decide)) (fun σ => passC takesX σ) (fun _ _ _ _ _ _ us hl => match us, hl with | [_, _], _ => rfl) (pa_cons (pv 1) (pa_cons (pv 2) pa_nil)))))
      pss_nil)
    (pss_cons (ps_if (pt_cmpR (opEqK (K := K) (by rfl) (by exact hu)) (pv 0) pe_str (nomark _))
      (pss_one (ps_ret (pe_g C_carry_J (by exact hr.mono (by decide)) (fun σ => passC takesX σ) (fun _ _ _ _ _ _ us hl => match us, hl with | [_, _], _ => rfl) (pa_cons (pv 1) (pa_cons (pv 4) pa_nil)))))
      pss_nil)
    (pss_cons (ps_if (pt_cmpR (opEqK (K := K) (by rfl) (by exact hu)) (pv 0) pe_str (nomark _))
      (pss_one (ps_ret (pe_g C_carries_J (by exact hr.mono (by decide)) (fun σ => passC takesX σ) (fun _ _ _ _ _ _ us hl => match us, hl with | [_, _, _], _ => rfl) (pa_cons (pv 1) (pa_cons (pv 3) (pa_cons (pv 4) pa_nil))))))
      pss_nil)
    (pss_cons (ps_if (pt_cmpR (opEqK (K := K) (by rfl) (by exact hu)) (pv 0) pe_str (nomark _))
      (pss_one (ps_ret (pe_g1 C_append_record_J (by exact hr.mono (by decide)) (fun σ => passC takesX σ) 3 1 (by decide) (by decide) (fun _ _ _ _ _ _ _ us its h1 h2 => match us, its, h1, h2 with | [_, _, _], [_], _, _ => ⟨_, rfl, rfl⟩) (pa_cons (pv 1) (pa_cons (pv 4) (pa_cons (pv 5) pa_nil))))))
      pss_nil)
    (pss_cons (ps_if (pt_cmpR (opEqK (K := K) (by rfl) (by exact hu)) (pv 0) pe_str (nomark _))
      (pss_one (ps_ret (pe_gk (st := s_step_J) (ps := ["word", "index", "count", "places", "late"]) (kws := [("late", .bl false)]) (x := "step") C_step_J (by exact hr.mono (by decide)) (fun σ => passC takesX σ) 4 ["late"] [] (fun us mv ws => (us ++ ((ws.drop 0).take 1))) (by decide) (by decide) (fun r1 r2 r3 => (Vals.append r1 ((r3.drop 0).take 1))) (fun _ _ _ _ _ _ us mv ws h1 h2 h3 => match us, mv, ws, h1, h2, h3 with | [_, _, _, _], [], [_], _, _, _ => rfl) (pa_cons (pv 1) (pa_cons (pv 2) (pa_cons (pv 3) (pa_cons (pv 4) pa_nil)))) (pk_cons (pe_cmpR (opEqK (K := K) (by rfl) (by exact hu)) (pv 5) pe_str (nomark _)) pk_nil))))
      pss_nil)
    (pss_cons (ps_if (pt_cmpR (opEqK (K := K) (by rfl) (by exact hu)) (pv 0) pe_str (nomark _))
      (pss_one (ps_ret (pe_g C_dominates_J (by exact hr.mono (by decide)) (fun σ => passC takesX σ) (fun _ _ _ _ _ _ us hl => match us, hl with | [_, _], _ => rfl) (pa_cons (pv 1) (pa_cons (pv 5) pa_nil)))))
      pss_nil)
    (pss_cons (ps_if (pt_cmpR (opEqK (K := K) (by rfl) (by exact hu)) (pv 0) pe_str (nomark _))
      (pss_one (ps_ret (pe_g C_best_word_J (by exact hr.mono (by decide)) (fun σ => passC takesX σ) (fun _ _ _ _ _ _ us hl => match us, hl with | [_], _ => rfl) (pa_cons (pv 3) pa_nil))))
      pss_nil)
    (pss_cons (ps_if (pt_cmpR (opEqK (K := K) (by rfl) (by exact hu)) (pv 0) pe_str (nomark _))
      (pss_one (ps_ret (pe_g C_worst_word_J (by exact hr.mono (by decide)) (fun σ => passC takesX σ) (fun _ _ _ _ _ _ us hl => match us, hl with | [_, _], _ => rfl) (pa_cons (pv 3) (pa_cons (pv 4) pa_nil)))))
      pss_nil)
    (pss_cons (ps_if (pt_cmpR (opEqK (K := K) (by rfl) (by exact hu)) (pv 0) pe_str (nomark _))
      (pss_one (ps_ret (pe_g C_word_of_J (by exact hr.mono (by decide)) (fun σ => passC takesX σ) (fun _ _ _ _ _ _ us hl => match us, hl with | [_], _ => rfl) (pa_cons (pv 2) pa_nil))))
      pss_nil)
    (pss_one (ps_ret (pe_g C_law_call_text (by exact hr.mono (by decide)) (fun σ => passC takesX σ) (fun _ _ _ _ _ _ us hl => match us, hl with | [_, _], _ => rfl) (pa_cons (pv 0) (pa_cons (pv 1) pa_nil)))))))))))))), ?_⟩
    try dsimp only [L2.cxOf, L2.Cx.nox]
    simp only [L2.start, N_law_call, List.map_cons, List.map_nil, List.length_cons, List.length_nil, Nat.reduceAdd, Nat.reduceSub, List.replicate_succ, List.replicate_zero, List.cons_append, List.nil_append]

    have hO0 := hO
    dsimp only [Cal.Ok] at hO
    obtain ⟨o1, o2, o3, o4, o5, o6, o7, o8, o9, o10, o11⟩ := hO
    cases w
    all_goals dsimp only [Cal.x, Cal.Due] at hx hD
    all_goals subst hx
    all_goals simp only [Wy.nm]
    case' release => obtain ⟨i, rfl, hD⟩ := hD; simp only [iv]
    all_goals walk_at "go"
    case' normal => exact ⟨.normal, z, f, rfl, ⟨o1, hD, by simp⟩, k1, fun hf => k2 hf fun h => h⟩
    case' living => exact ⟨.living, z, f, rfl, ⟨o1, hD, by simp⟩, k1, fun hf => k2 hf fun h => h⟩
    case' depths => exact ⟨.depths, z, f, rfl, ⟨o1, hD, by simp⟩, k1, fun hf => k2 hf fun h => h⟩
    case' newest => exact ⟨.newest, z, f, rfl, ⟨o1, hD, by simp⟩, k1, fun hf => k2 hf fun h => h⟩
    case' best =>
      cases f with
      | some fl => exact .inr ⟨c, fl, rfl, hD.symm, k1 fl rfl⟩
      | none =>
        have h := fBest_none hD
        have h64 := o10 rfl
        obtain ⟨m, rfl⟩ : ∃ m : Nat, c = (m : Int) := ⟨c.toNat, by omega⟩
        exact .inl ⟨m, rfl, by omega, k2 rfl (fun h => h) _ _ Gx.rel ⟨_, rfl⟩⟩
    case' worst =>
      cases f with
      | some fl => exact .inr ⟨c, p, fl, rfl, hD.symm, k1 fl rfl⟩
      | none =>
        have h := fWor_none hD
        obtain ⟨m, rfl⟩ : ∃ m : Nat, c = (m : Int) := ⟨c.toNat, by omega⟩
        obtain ⟨n, rfl⟩ : ∃ n : Nat, p = (n : Int) := ⟨p.toNat, by omega⟩
        exact .inl ⟨m, n, rfl, ⟨by omega, by omega, fun z => by omega⟩, k2 rfl (fun h => h) _ _ Gx.rel ⟨_, rfl⟩⟩
    case' dominates =>
      rcases hD with ⟨h, rfl⟩ | ⟨h, hD⟩
      · exact .inr ⟨z, g, _, rfl, ⟨by omega, by omega, .inl ⟨h, rfl⟩⟩, k1 _ rfl⟩
      · rcases hD with ⟨h3, rfl⟩ | ⟨m, rfl, hm, rfl⟩
        · exact .inr ⟨z, g, _, rfl, ⟨by omega, by omega, .inr ⟨h, h3, rfl⟩⟩, k1 _ rfl⟩
        · obtain ⟨l, rfl, hl⟩ := h
          rw [tx_len] at o1 o2
          exact .inl ⟨l, m, rfl, ⟨wd64 o1 hl, wd64 o2 hm⟩, fun H' e => k2 rfl (fun h => h) _ _ Gx.rel ⟨_, rfl⟩⟩
    case' wordof =>
      obtain ⟨s8, s9, s10⟩ := o8 rfl
      rcases hD with ⟨h, rfl⟩ | ⟨h, rfl⟩
      · exact .inl ⟨a, ds, rfl, ⟨s8, h, by omega, fun d hd => by have := s10 d hd; omega, wof_le h s10⟩, fun H' e => k2 rfl (fun h => h) _ _ Gx.rel ⟨_, rfl⟩⟩
      · exact .inr ⟨a, _, rfl, ⟨s8, by rw [List.length_map]; omega, .inl ⟨ds, rfl, h⟩⟩, k1 _ rfl⟩
    case' release =>
      cases f with
      | some fl => exact .inr ⟨z, i, fl, rfl, ⟨by omega, hD⟩, k1 fl rfl⟩
      | none =>
        obtain ⟨l, rfl, hl, hf⟩ := dueW_none hD
        rw [tx_len] at o1
        have h := fRel_none hf
        exact .inl ⟨l, i, rfl, ⟨wd64 o1 hl, h.1, h.2⟩, fun H' e => k2 rfl (fun h => h) _ _ Gx.rel ⟨_, rfl⟩⟩
    case' carry =>
      cases f with
      | some fl => exact .inr ⟨z, p, fl, rfl, ⟨by omega, hD⟩, k1 fl rfl⟩
      | none =>
        obtain ⟨l, rfl, hl, hf⟩ := dueW_none hD
        rw [tx_len] at o1
        have h := fCar_none hf
        obtain ⟨n, rfl⟩ : ∃ n : Nat, p = (n : Int) := ⟨p.toNat, by omega⟩
        exact .inl ⟨l, n, rfl, ⟨wd64 o1 hl, by omega, by omega⟩, k2 rfl (fun h => h) _ _ Gx.rel ⟨_, rfl⟩⟩
    case' carries =>
      cases f with
      | some fl => exact .inr ⟨z, c, p, fl, rfl, ⟨by omega, hD⟩, k1 fl rfl⟩
      | none =>
        obtain ⟨l, rfl, hl, hf⟩ := dueW_none hD
        rw [tx_len] at o1
        have h := fCars_none hf
        have h200 := o11 rfl
        obtain ⟨n, rfl⟩ : ∃ n : Nat, p = (n : Int) := ⟨p.toNat, by omega⟩
        obtain ⟨m, rfl⟩ : ∃ m : Nat, c = (m : Int) := ⟨c.toNat, by omega⟩
        exact .inl ⟨l, m, n, rfl, ⟨wd64 o1 hl, by omega, by omega, by omega⟩, fun H' e => k2 rfl (fun h => h) _ _ Gx.rel ⟨_, rfl⟩⟩
    case' append =>
      cases f with
      | some fl => exact .inr ⟨z, p, g, fl, rfl, ⟨by omega, hD⟩, k1 fl rfl⟩
      | none =>
        obtain ⟨l, rfl, hl, hf⟩ := dueW_none hD
        rw [tx_len] at o1
        obtain ⟨⟨b, rfl⟩, h⟩ := fApp_none hf
        obtain ⟨n, rfl⟩ : ∃ n : Nat, p = (n : Int) := ⟨p.toNat, by omega⟩
        have hfl : Cal.Full ⟨.append, tx l, o, a, ds, c, (n : Int), tx [b]⟩ ↔ l.length = n := by
          dsimp only [Cal.Full]
          rw [tx_len]
          omega
        refine .inl ⟨l, b, n, rfl, ⟨wd64 o1 hl, by omega, by omega⟩, fun hlt H' e => k2 rfl (fun h => by have := hfl.mp h; omega) _ _ Gx.rel ⟨_, rfl⟩, fun hlt d H' nd e hd => ?_⟩
        have hln : l.length = n := by omega
        rw [hln] at hd
        exact k3 rfl (hfl.mpr hln) d H' nd e hd
    case' step =>
      cases f with
      | some fl => exact .inr ⟨z, o, c, p, _, fl, rfl, ⟨by omega, hD⟩, k1 fl rfl⟩
      | none =>
        obtain ⟨l, rfl, hl, hf⟩ := dueW_none hD
        rw [tx_len] at o1
        obtain ⟨hi, h⟩ := fStp_none hf
        obtain ⟨n, rfl⟩ : ∃ n : Nat, p = (n : Int) := ⟨p.toNat, by omega⟩
        obtain ⟨m, rfl⟩ : ∃ m : Nat, c = (m : Int) := ⟨c.toNat, by omega⟩
        have hio : ∀ i, o.map Int.toNat = some i → i < l.count true := fun i hio => by
          cases o with
          | none => cases hio
          | some j =>
            have := hi j rfl
            simp only [Option.map_some, Option.some.injEq] at hio
            omega
        have hrl : (relO l (o.map Int.toNat)).length ≤ l.length := by
          cases ho : o.map Int.toNat with
          | none => exact Nat.le_refl _
          | some i => exact rel_len (hio i ho)
        have hfl : Cal.Full ⟨.step, tx l, o, a, ds, (m : Int), (n : Int), g⟩ ↔ stepW l (o.map Int.toNat) m n (decide (g = "late")) = none := by
          dsimp only [Cal.Full]
          by_cases hg : g = "late"
          · rw [if_pos hg, decide_eq_true hg, step_none_l (by omega), tx_len]
            omega
          · rw [if_neg hg, decide_eq_false hg, step_none_e (by omega) (by omega)]
            constructor
            · rintro ⟨q, hq, hh⟩
              have := tx_inj hq
              subst this
              omega
            · intro hh
              exact ⟨l, rfl, by omega⟩
        refine .inl ⟨l, iv o, o.map Int.toNat, m, n, _, rfl, ?_, ⟨wd64 o1 hl, by omega, by omega, by omega⟩, fun v hv H' e => k2 rfl (fun h => by rw [hfl] at h; rw [hv] at h; cases h) _ _ Gx.rel ⟨_, rfl⟩, fun hv d H' q nd e hq hd => ?_⟩
        · cases o with
          | none => exact .inl ⟨rfl, rfl⟩
          | some j =>
            have := hi j rfl
            exact .inr ⟨j.toNat, by simp only [iv]; congr 1; omega, rfl, by omega⟩
        · subst hq
          exact k3 rfl (hfl.mpr hv) d H' nd e hd
theorem KindOk.ex {w : Wy} {v : V} {H H' : Hp} (h : KindOk w v H) (e : Ex H H') : KindOk w v H' := by
  cases w <;> first | exact h | (obtain ⟨q, xs, h1, h2⟩ := h; exact ⟨q, xs, h1, e.keep _ _ (by simp) h2⟩)
def spTold (K : PySem.W.Frag) : Sp := fun vs H Q _ => ∃ (w : Wy) (z : Str) (x : V) (o : Option Int) (a : Addr) (ds : List Int) (c p : Int) (g : Str) (f : Option Str), vs = [.str w.nm, .str z, x, .int c, .int p, .str g] ∧ (x = Cal.x ⟨w, z, o, a, ds, c, p, g⟩ ∧ Cal.Ok K H ⟨w, z, o, a, ds, c, p, g⟩ ∧ Cal.Due ⟨w, z, o, a, ds, c, p, g⟩ f) ∧
  (∀ fl, f = some fl → ∀ t H', Ex H H' → At H' t (.tup [.str "field", .str fl]) → Q (.ref t) H') ∧
  (f = none → ¬ Cal.Full ⟨w, z, o, a, ds, c, p, g⟩ → ∀ v t H', Ex H H' → KindOk w v H' → At H' t (.tup [.str "good", v]) → Q (.ref t) H') ∧
  (f = none → Cal.Full ⟨w, z, o, a, ds, c, p, g⟩ → ∀ t H', Ex H H' → At H' t (.tup [.str "full", .int p]) → Q (.ref t) H')
abbrev s_law_told : Stmt := (top 49)
abbrev N_law_told : List Str := ["_law_way", "_law_word_here", "_law_index", "_law_count", "_law_places", "_law_sign", "_law_found", "_law_full"]
theorem sc_law_told : FnScope N_law_told ["_law_way", "_law_word_here", "_law_index", "_law_count", "_law_places", "_law_sign"] (defScope s_law_told) := ⟨rfl, rfl, rfl, by decide +kernel, rfl, by decide +kernel, by decide +kernel⟩
theorem cl_law_told (T : Bl mg) (Z : EcF P K mg c_StoreError c_InvalidInput c_NoPlace) (D : DfG K mg "_law_told" s_law_told [] []) (C_law_call : ClG (L2.CX P w) P w K mg base 11 "_law_call" s_law_call ["_law_way", "_law_word_here", "_law_index", "_law_count", "_law_places", "_law_sign"] [] [] (spCal c_InvalidInput c_NoPlace K (fun _ => True))) : ClG CX0 P w K mg base 13 "_law_told" s_law_told ["_law_way", "_law_word_here", "_law_index", "_law_count", "_law_places", "_law_sign"] [] [] (spTold K) := by
  have nd := sc_law_told.nd
  refine D.okP sc_law_told (fun vs H Q E h => ?_) (fun f cdv A outer s H vs Q E hr h => ?_)
  · obtain ⟨w, z, x, o, a, ds, c, p, g, f, rfl, _⟩ := h
    rfl
  · obtain ⟨w, z, x, o, a, ds, c, p, g, f, rfl, ⟨hx, hO, hD⟩, k1, k2, k3⟩ := h
    have hu := hu64 hr
    refine ⟨_, (pss_one (ps_try_cl rfl rfl (fun W pn xe tk po => (pss_one (ps_ret (pe_tup (pa_cons pe_str (pa_cons (pe_g C_law_call (by exact hr.mono (by decide)) (fun σ => passC tk σ) (fun _ _ _ _ _ _ us hl => match us, hl with | [_, _, _, _, _, _], _ => rfl) (pa_cons (pv 0) (pa_cons (pv 1) (pa_cons (pv 2) (pa_cons (pv 3) (pa_cons (pv 4) (pa_cons (pv 5) pa_nil))))))) pa_nil))))))
      (cl_as (c := .ref c_InvalidInput) nd (i := 6) rfl rfl ⟨by rfl, by decide, .inl Z.g_InvalidInput⟩ (fun a oe cls d pn hz hf => (pss_cons (ps_if (PW.pt (pw_or (pt_val (pe_callB (call_isSK (K := K) (by rfl) (List.mem_cons_self ..) hz hf) (by rfl) T.isinstance (by decide +kernel) (pa_cons (pv 6) (pa_cons (pe_glob (v := .ref c_NoPlace) (u := .ref c_NoPlace) (by rfl) Z.g_NoPlace rfl) pa_nil)))) (pw_or (pt_not (pt_val (pe_callB (call_isSK (K := K) (by rfl) (List.mem_cons_self ..) hz hf) (by rfl) T.isinstance (by decide +kernel) (pa_cons (pv 6) (pa_cons (pe_glob (v := .ref c_StoreError) (u := .ref c_StoreError) (by rfl) Z.g_StoreError rfl) pa_nil))))) (pw_or1 (pt_not (pt_val (pe_callB (call_isSK (K := K) (by rfl) (List.mem_cons_self ..) hz hf) (by rfl) T.isinstance (by decide +kernel) (pa_cons (pv 6) (pa_cons (pe_bltn (v := .ty "ValueError") (by rfl) T.ValueError' (by decide +kernel) rfl) pa_nil)))))))))
      (pss_one (ps_ret (pe_tup (pa_cons pe_str (pa_cons pe_str pa_nil)))))
      pss_nil)
    (pss_one (ps_ret (pe_tup (pa_cons pe_str (pa_cons (pe_xsK (K := K) (by rfl) (List.mem_cons_self ..) hz hf (pv 6)) pa_nil)))))))
      (cl_as (c := .ref c_NoPlace) nd (i := 7) rfl rfl ⟨by rfl, by decide, .inl Z.g_NoPlace⟩ (fun a oe cls d pn hz hf => (pss_cons (ps_if (PW.pt (pw_or (pt_val (pe_callB (call_isSK (K := K) (by rfl) (List.mem_cons_self ..) hz hf) (by rfl) T.isinstance (by decide +kernel) (pa_cons (pv 7) (pa_cons (pe_glob (v := .ref c_InvalidInput) (u := .ref c_InvalidInput) (by rfl) Z.g_InvalidInput rfl) pa_nil)))) (pw_or (pt_not (pt_val (pe_callB (call_isSK (K := K) (by rfl) (List.mem_cons_self ..) hz hf) (by rfl) T.isinstance (by decide +kernel) (pa_cons (pv 7) (pa_cons (pe_glob (v := .ref c_StoreError) (u := .ref c_StoreError) (by rfl) Z.g_StoreError rfl) pa_nil))))) (pw_or1 (pt_not (pt_val (pe_callB (call_isSK (K := K) (by rfl) (List.mem_cons_self ..) hz hf) (by rfl) T.isinstance (by decide +kernel) (pa_cons (pv 7) (pa_cons (pe_bltn (v := .ty "ValueError") (by rfl) T.ValueError' (by decide +kernel) rfl) pa_nil)))))))))
      (pss_one (ps_ret (pe_tup (pa_cons pe_str (pa_cons pe_str pa_nil)))))
      pss_nil)
    (pss_one (ps_ret (pe_tup (pa_cons pe_str (pa_cons (pe_xsK (K := K) (by rfl) (List.mem_cons_self ..) hz hf (pv 7)) pa_nil)))))))
      (cl_nil takes0))))), ?_⟩
    try dsimp only [L2.cxOf, L2.Cx.nox]
    simp only [L2.start, N_law_told, List.map_cons, List.map_nil, List.length_cons, List.length_nil, Nat.reduceAdd, Nat.reduceSub, List.replicate_succ, List.replicate_zero, List.cons_append, List.nil_append]

    walk_at "go"
    refine ⟨w, z, x, o, a, ds, c, p, g, f, rfl, ⟨hx, hO, hD, trivial⟩, fun fl hf d H1 n1 e1 hd => ?_, fun hf hn v H1 e1 hk => ?_, fun hf hn d H1 n1 e1 hd => ?_⟩
    all_goals walk_at "go"
    · exact k1 fl hf _ _ Gx.rel inferInstance
    · exact k2 hf hn v _ _ Gx.rel (hk.ex Gx.rel) inferInstance
    · exact k3 hf hn _ _ Gx.rel inferInstance
theorem dueW_ne {fw fl z : Str} {g : List Bool → Option Str} (h : DueW fw z g (some fl)) (hf : fw ≠ "") (hg : ∀ l, g l = some fl → fl ≠ "") : fl ≠ "" := by
  rcases h with ⟨_, h⟩ | ⟨l, _, _, h⟩
  · cases h; exact hf
  · exact hg l h.symm
theorem Cal.Due.ne {k : Cal} {fl : Str} (h : k.Due (some fl)) : fl ≠ "" := by
  have n1 : ("word" : Str) ≠ "" := by decide +kernel
  have n2 : ("second" : Str) ≠ "" := by decide +kernel
  have n3 : ("index" : Str) ≠ "" := by decide +kernel
  have n4 : ("places" : Str) ≠ "" := by decide +kernel
  have n5 : ("count" : Str) ≠ "" := by decide +kernel
  have n6 : ("record" : Str) ≠ "" := by decide +kernel
  have n7 : ("length" : Str) ≠ "" := by decide +kernel
  have n8 : ("text" : Str) ≠ "" := by decide +kernel
  have n9 : ("first" : Str) ≠ "" := by decide +kernel
  have n0 : ("depths" : Str) ≠ "" := by decide +kernel
  have hc : ∀ {p : Int} {l : List Bool}, fCar p l = some fl → fl ≠ "" := fun {p l} h => by unfold fCar at h; split at h <;> cases h; exact n4
  obtain ⟨w, z, o, a, ds, c, p, g⟩ := k
  cases w <;> dsimp only [Cal.Due] at h
  case normal => rcases h with ⟨_, h⟩ | ⟨_, h⟩ <;> cases h; exact n8
  case living => exact dueW_ne h n1 fun l h => by cases h
  case depths => exact dueW_ne h n1 fun l h => by cases h
  case newest => exact dueW_ne h n1 fun l h => by cases h
  case release =>
    obtain ⟨i, _, h⟩ := h
    exact dueW_ne h n1 fun l h => by unfold fRel at h; split at h <;> cases h; exact n3
  case carry => exact dueW_ne h n1 fun l h => hc h
  case carries =>
    refine dueW_ne h n1 fun l h => ?_
    unfold fCars at h
    split at h
    · cases h; exact n5
    · exact hc h
  case append =>
    refine dueW_ne h n1 fun l h => ?_
    unfold fApp at h
    split at h
    · cases h; exact n4
    · split at h
      · cases h; exact n6
      · split at h <;> cases h; exact n4
  case step =>
    refine dueW_ne h n1 fun l h => ?_
    unfold fStp at h
    split at h
    · cases h; exact n3
    · split at h
      · cases h; exact n5
      · split at h
        · cases h; exact n4
        · split at h
          · cases h; exact n3
          · split at h <;> cases h; exact n4
  case dominates =>
    rcases h with ⟨_, h⟩ | ⟨_, h⟩
    · cases h; exact n9
    · exact dueW_ne h n2 fun l h => by cases h
  case best => unfold fBest at h; split at h <;> cases h; exact n5
  case worst =>
    unfold fWor at h
    split at h
    · cases h; exact n5
    · split at h <;> cases h; exact n7
  case wordof => rcases h with ⟨_, h⟩ | ⟨_, h⟩ <;> cases h; exact n0
def spKept (K : PySem.W.Frag) : Sp := fun vs H Q _ => ∃ (w : Wy) (z : Str) (x : V) (o : Option Int) (a : Addr) (ds : List Int) (c p : Int) (g : Str), vs = [.str w.nm, .str z, x, .int c, .int p, .str g] ∧ (x = Cal.x ⟨w, z, o, a, ds, c, p, g⟩ ∧ Cal.Ok K H ⟨w, z, o, a, ds, c, p, g⟩) ∧ ∀ H', Ex H H' → Q (.bl true) H'
theorem Cal.Ok.ex {K : PySem.W.Frag} {H H' : Hp} {k : Cal} (h : k.Ok K H) (e : Ex H H') : k.Ok K H' := by
  obtain ⟨o1, o2, o3, o4, o5, o6, o7, o8, o9⟩ := h
  refine ⟨o1, o2, o3, o4, o5, o6, o7, fun z => ?_, o9⟩
  obtain ⟨s1, s2⟩ := o8 z
  exact ⟨inferInstance, s2⟩
abbrev s_law_call_kept : Stmt := (top 54)
abbrev N_law_call_kept : List Str := ["_law_way", "_law_word_here", "_law_index", "_law_count", "_law_places", "_law_sign", "_law_due_here", "_law_full", "_law_told_here"]
theorem sc_law_call_kept : FnScope N_law_call_kept ["_law_way", "_law_word_here", "_law_index", "_law_count", "_law_places", "_law_sign"] (defScope s_law_call_kept) := ⟨rfl, rfl, rfl, by decide +kernel, rfl, by decide +kernel, by decide +kernel⟩
theorem cl_law_call_kept (T : Bl mg) (Z : EcF P K mg c_StoreError c_InvalidInput c_NoPlace) (D : DfG K mg "_law_call_kept" s_law_call_kept [] []) (C_law_is_kind : ClG CX0 P w K mg base 5 "_law_is_kind" s_law_is_kind ["_law_told_here", "_law_way"] [] [] spKind) (C_law_is_integer : ClG CX0 P w K mg base 3 "_law_is_integer" s_law_is_integer ["_law_told_here"] [] [] spIit) (C_law_told : ClG CX0 P w K mg base 13 "_law_told" s_law_told ["_law_way", "_law_word_here", "_law_index", "_law_count", "_law_places", "_law_sign"] [] [] (spTold K)) (C_law_is_full : ClG CX0 P w K mg base 5 "_law_is_full" s_law_is_full ["_law_way", "_law_word_here", "_law_index", "_law_places", "_law_sign"] [] [] spFul) (C_law_due : ClG CX0 P w K mg base 7 "_law_due" s_law_due ["_law_way", "_law_word_here", "_law_index", "_law_count", "_law_places", "_law_sign"] [] [] (spDue K)) : ClG CX0 P w K mg base 15 "_law_call_kept" s_law_call_kept ["_law_way", "_law_word_here", "_law_index", "_law_count", "_law_places", "_law_sign"] [] [] (spKept K) := by
  have nd := sc_law_call_kept.nd
  refine D.okP sc_law_call_kept (fun vs H Q E h => ?_) (fun f cdv A outer s H vs Q E hr h => ?_)
  · obtain ⟨w, z, x, o, a, ds, c, p, g, rfl, _⟩ := h
    rfl
  · obtain ⟨w, z, x, o, a, ds, c, p, g, rfl, ⟨hx, hO⟩, k⟩ := h
    have hu := hu64 hr
    refine ⟨_, (pss_cons (ps_set (i := 6) nd rfl (Or.inl rfl) (pe_g C_law_due (by exact hr.mono (by decide)) (E := fun _ => E0) (fun σ => passC0 σ) (fun _ _ _ _ _ _ us hl => match us, hl with | [_, _, _, _, _, _], _ => rfl) (pa_cons (pv 0) (pa_cons (pv 1) (pa_cons (pv 2) (pa_cons (pv 3) (pa_cons (pv 4) (pa_cons (pv 5) pa_nil))))))))
    (pss_cons (ps_set (i := 7) nd rfl (Or.inl rfl) (pe_and (pe_cmpR (opEqK (K := K) (by rfl) (by exact hu)) (pv 6) pe_str (nomark _)) (pe_one (pe_g C_law_is_full (by exact hr.mono (by decide)) (E := fun _ => E0) (fun σ => passC0 σ) (fun _ _ _ _ _ _ us hl => match us, hl with | [_, _, _, _, _], _ => rfl) (pa_cons (pv 0) (pa_cons (pv 1) (pa_cons (pv 2) (pa_cons (pv 4) (pa_cons (pv 5) pa_nil)))))))))
    (pss_cons (ps_set (i := 8) nd rfl (Or.inl rfl) (pe_g C_law_told (by exact hr.mono (by decide)) (E := fun _ => E0) (fun σ => passC0 σ) (fun _ _ _ _ _ _ us hl => match us, hl with | [_, _, _, _, _, _], _ => rfl) (pa_cons (pv 0) (pa_cons (pv 1) (pa_cons (pv 2) (pa_cons (pv 3) (pa_cons (pv 4) (pa_cons (pv 5) pa_nil))))))))
    (pss_cons (ps_if (pt_cmpR (opNeK (K := K) (by rfl) (by exact hu)) (pv 6) pe_str (nomark _))
      (pss_one (ps_ret (pe_and (pe_cmpR (opEqK (K := K) (by rfl) (by exact hu)) (pe_ix (ixSeqK (K := K) (by rfl)) (pv 8) pe_int (fun _ _ => rfl)) pe_str (nomark _)) (pe_and (pe_callB (callIsiK (K := K) (by rfl)) (by rfl) T.isinstance (by decide +kernel) (pa_cons (pe_ix (ixSeqK (K := K) (by rfl)) (pv 8) pe_int (fun _ _ => rfl)) (pa_cons (pe_bltn (v := .ty "str") (by rfl) T.str (by decide +kernel) rfl) pa_nil))) (pe_one (pe_cmpR (opEqK (K := K) (by rfl) (by exact hu)) (pe_ix (ixSeqK (K := K) (by rfl)) (pv 8) pe_int (fun _ _ => rfl)) (pv 6) (nomark _)))))))
      pss_nil)
    (pss_cons (ps_if (pt_val (pv 7))
      (pss_one (ps_ret (pe_and (pe_cmpR (opEqK (K := K) (by rfl) (by exact hu)) (pe_ix (ixSeqK (K := K) (by rfl)) (pv 8) pe_int (fun _ _ => rfl)) pe_str (nomark _)) (pe_and (pe_g C_law_is_integer (by exact hr.mono (by decide)) (E := fun _ => E0) (fun σ => passC0 σ) (fun _ _ _ _ _ _ us hl => match us, hl with | [_], _ => rfl) (pa_cons (pe_ix (ixSeqK (K := K) (by rfl)) (pv 8) pe_int (fun _ _ => rfl)) pa_nil)) (pe_one (pe_cmpR (opEqK (K := K) (by rfl) (by exact hu)) (pe_ix (ixSeqK (K := K) (by rfl)) (pv 8) pe_int (fun _ _ => rfl)) (pv 4) (nomark _)))))))
      pss_nil)
    (pss_one (ps_ret (pe_and (pe_cmpR (opEqK (K := K) (by rfl) (by exact hu)) (pe_ix (ixSeqK (K := K) (by rfl)) (pv 8) pe_int (fun _ _ => rfl)) pe_str (nomark _)) (pe_one (pe_g C_law_is_kind (by exact hr.mono (by decide)) (E := fun _ => E0) (fun σ => passC0 σ) (fun _ _ _ _ _ _ us hl => match us, hl with | [_, _], _ => rfl) (pa_cons (pe_ix (ixSeqK (K := K) (by rfl)) (pv 8) pe_int (fun _ _ => rfl)) (pa_cons (pv 0) pa_nil)))))))))))), ?_⟩
    try dsimp only [L2.cxOf, L2.Cx.nox]
    simp only [L2.start, N_law_call_kept, List.map_cons, List.map_nil, List.length_cons, List.length_nil, Nat.reduceAdd, Nat.reduceSub, List.replicate_succ, List.replicate_zero, List.cons_append, List.nil_append]

    obtain ⟨f, hD⟩ := Cal.due_ex ⟨w, z, o, a, ds, c, p, g⟩ hO.2.2.2.2.2.2.2.2.1
    have hfull : f = none → (w = .step → ∃ l, z = tx l ∧ l.head? ≠ some false ∧ 1 ≤ p ∧ ∀ i, o = some i → 0 ≤ i ∧ i < (l.count true : Nat)) := fun hf hw => by
      subst hf hw
      obtain ⟨l, hz, hl, hn⟩ := dueW_none (show DueW "word" z (fStp o c p) none from hD)
      obtain ⟨h1, h2, h3, h4⟩ := fStp_none hn
      exact ⟨l, hz, hl, h3, h1⟩
    walk_at "go"
    refine ⟨w, z, x, o, a, ds, c, p, g, f, rfl, ⟨hx, hO, hD⟩, fun H1 e1 => ?_⟩
    have hO1 : Cal.Ok K H1 ⟨w, z, o, a, ds, c, p, g⟩ := hO.ex e1
    cases f with
    | some fl =>
      have hne : fl ≠ "" := hD.ne
      rw [show (some fl : Option Str).getD "" = fl from rfl]
      walk_at "go"
      rw [show decide (fl = tx []) = false from decide_eq_false hne]
      walk_at "go"
      refine ⟨w, z, x, o, a, ds, c, p, g, some fl, rfl, ⟨hx, hO1, hD⟩, fun f2 hf t H2 e2 ht => ?_, fun h => (nomatch h), fun h => (nomatch h)⟩
      cases hf
      walk_at "go"
      rw [show (!decide (fl = tx [])) = true from by rw [show decide (fl = tx []) = false from decide_eq_false hne]; rfl]
      walk_at "go"
      rw [decide_eq_true rfl]
      exact k _ Gx.rel
    | none =>
      rw [show (none : Option Str).getD "" = "" from rfl]
      walk_at "go"
      refine ⟨w, z, x, o, a, ds, c, p, g, rfl, ⟨hx, hO.1, hfull rfl⟩, fun t H2 e2 ht => ?_⟩
      have hO2 : Cal.Ok K H2 ⟨w, z, o, a, ds, c, p, g⟩ := hO1.ex e2
      walk_at "go"
      refine ⟨w, z, x, o, a, ds, c, p, g, none, rfl, ⟨hx, hO2, hD⟩, fun f2 h => (nomatch h), fun _ hn v q H3 e3 hk hq => ?_, fun _ hn q H3 e3 hq => ?_⟩
      · cases t with
        | true => exact absurd (ht.mp rfl) hn
        | false =>
          walk_at "go"
          exact k _ Gx.rel
      · cases t with
        | false => exact absurd (ht.mpr hn) (by decide)
        | true =>
          walk_at "go"
          rw [decide_eq_true rfl]
          exact k _ Gx.rel

theorem ok_of {K : PySem.W.Frag} {H : Hp} {w : Wy} {z : Str} {o : Option Int} {a : Addr} {ds : List Int} {c p : Int} {g : Str} (h1 : z.length ≤ 64) (h2 : g.length ≤ 64) (h3 : -(2 ^ 101) < c) (h4 : c < 2 ^ 101) (h5 : -(2 ^ 102) < p) (h6 : p ≤ 64) (h7 : ∀ i, o = some i → -(2 ^ 101) < i ∧ i < 2 ^ 101) (h8 : w ≠ .wordof) (h9 : w = .release → o ≠ none) (h10 : w = .best → c ≤ 64) (h11 : w = .carries → c ≤ 200) : Cal.Ok K H ⟨w, z, o, a, ds, c, p, g⟩ :=
  ⟨h1, h2, h3, h4, h5, h6, h7, fun h => absurd h h8, h9, h10, h11⟩
/-- the call of the check, for all ways but word_of -/
theorem use_kept {K : PySem.W.Frag} {H : Hp} {Q : VK} {E : XK} {w : Wy} {z : Str} {o : Option Int} {c p : Int} {g : Str} (hO : Cal.Ok K H ⟨w, z, o, 0, [], c, p, g⟩) (h8 : w ≠ .wordof) (q : ∀ H', Ex H H' → Q (.bl true) H') : spKept K ([.str w.nm, .str z, iv o, .int c, .int p, .str g] ++ []) H Q E :=
  ⟨w, z, _, o, 0, [], c, p, g, rfl, ⟨by cases w <;> first | rfl | exact absurd rfl h8, hO⟩, q⟩
def spTks : Sp := fun vs H Q _ => ∃ (b c : Addr), vs = [.ref b] ∧ Bx b c H ∧ ∀ H', ExB b H H' → Bx b c H' → Q (.bl true) H'
abbrev s_law_texts_kept : Stmt := (top 55)
abbrev N_law_texts_kept : List Str := ["_law_box_here", "_law_way", "_law_text"]
theorem sc_law_texts_kept : FnScope N_law_texts_kept ["_law_box_here"] (defScope s_law_texts_kept) := ⟨rfl, rfl, rfl, by decide +kernel, rfl, by decide +kernel, by decide +kernel⟩
theorem cl_law_texts_kept (T : Bl mg) (Z : EcF P K mg c_StoreError c_InvalidInput c_NoPlace) (D : DfG K mg "_law_texts_kept" s_law_texts_kept [] []) (C_law_call_kept : ClG CX0 P w K mg base 15 "_law_call_kept" s_law_call_kept ["_law_way", "_law_word_here", "_law_index", "_law_count", "_law_places", "_law_sign"] [] [] (spKept K)) (C_law_bad : ClG CX0 P w K mg base 5 "_law_bad" s_law_bad ["_law_box_here"] [] [] spBad) (C_law_spoilt : ClG CX0 P w K mg base 5 "_law_spoilt" s_law_spoilt ["_law_box_here", "_law_word_here"] [] [] spSpo) (C_law_take : ClG CX0 P w K mg base 3 "_law_take" s_law_take ["_law_box_here", "_law_size"] [] [] spTake) (C_law_word : ClG CX0 P w K mg base 7 "_law_word" s_law_word ["_law_box_here", "_law_most"] [] [] spWord) (C_law_any_word : ClG CX0 P w K mg base 9 "_law_any_word" s_law_any_word ["_law_box_here"] [] [] spAny) : ClG CX0 P w K mg base 17 "_law_texts_kept" s_law_texts_kept ["_law_box_here"] [] [] spTks := by
  have nd := sc_law_texts_kept.nd
  refine D.okP sc_law_texts_kept (fun vs H Q E h => ?_) (fun f cdv A outer s H vs Q E hr h => ?_)
  · obtain ⟨b, c, rfl, _⟩ := h
    rfl
  · obtain ⟨b, c, rfl, hb, k⟩ := h
    have hu := hu64 hr
    refine ⟨_, (pss_cons (ps_for PassesOwn.never rfl (pi_listK (K := K) (by rfl) (pe_lst (pa_cons pe_str (pa_cons pe_str (pa_cons pe_str pa_nil))))) (pg_name (i := 1) nd rfl (Or.inl rfl))
      (pss_one (ps_if (pt_not (pt_val (pe_g C_law_call_kept (by exact hr.mono (by decide)) (E := fun _ => E0) (fun σ => passC0 σ) (fun _ _ _ _ _ _ us hl => match us, hl with | [_, _, _, _, _, _], _ => rfl) (pa_cons (pv 1) (pa_cons (pe_g C_law_any_word (by exact hr.mono (by decide)) (E := fun _ => E0) (fun σ => passC0 σ) (fun _ _ _ _ _ _ us hl => match us, hl with | [_], _ => rfl) (pa_cons (pv 0) pa_nil)) (pa_cons pe_int (pa_cons pe_int (pa_cons pe_int (pa_cons pe_str pa_nil)))))))))
      (pss_one (ps_ret pe_bl))
      pss_nil)))
    (pss_cons (ps_set (i := 2) nd rfl (Or.inl rfl) (pe_g C_law_word (by exact hr.mono (by decide)) (E := fun _ => E0) (fun σ => passC0 σ) (fun _ _ _ _ _ _ us hl => match us, hl with | [_, _], _ => rfl) (pa_cons (pv 0) (pa_cons pe_int pa_nil))))
    (pss_cons (ps_set (i := 2) nd rfl (Or.inl rfl) (pe_op (opAddK (K := K) (by rfl)) (pe_op (opMulK (K := K) (by rfl)) pe_str (pe_g C_law_take (by exact hr.mono (by decide)) (E := fun _ => E0) (fun σ => passC0 σ) (fun _ _ _ _ _ _ us hl => match us, hl with | [_, _], _ => rfl) (pa_cons (pv 0) (pa_cons (pe_op opSub pe_int (pe_callB (callLenK (K := K) (by rfl)) (by rfl) T.len (by decide +kernel) (pa_cons (pv 2) pa_nil))) pa_nil)))) (pv 2)))
    (pss_cons (ps_if (pt_val (pe_g C_law_bad (by exact hr.mono (by decide)) (E := fun _ => E0) (fun σ => passC0 σ) (fun _ _ _ _ _ _ us hl => match us, hl with | [_], _ => rfl) (pa_cons (pv 0) pa_nil)))
      (pss_one (ps_set (i := 2) nd rfl (Or.inl rfl) (pe_g C_law_spoilt (by exact hr.mono (by decide)) (E := fun _ => E0) (fun σ => passC0 σ) (fun _ _ _ _ _ _ us hl => match us, hl with | [_, _], _ => rfl) (pa_cons (pv 0) (pa_cons (pv 2) pa_nil)))))
      pss_nil)
    (pss_one (ps_ret (pe_g C_law_call_kept (by exact hr.mono (by decide)) (E := fun _ => E0) (fun σ => passC0 σ) (fun _ _ _ _ _ _ us hl => match us, hl with | [_, _, _, _, _, _], _ => rfl) (pa_cons pe_str (pa_cons (pv 2) (pa_cons pe_int (pa_cons pe_int (pa_cons pe_int (pa_cons pe_str pa_nil))))))))))))), ?_⟩
    try dsimp only [L2.cxOf, L2.Cx.nox]
    simp only [L2.start, N_law_texts_kept, List.map_cons, List.map_nil, List.length_cons, List.length_nil, Nat.reduceAdd, Nat.reduceSub, List.replicate_succ, List.replicate_zero, List.cons_append, List.nil_append]

    walk_at "go"
    refine Gx.forL [b] (fun i σ' H' => ∃ (s1 s2 : Option V), σ' = [some (.ref b), s1, s2] ∧ Bx b c H') ⟨_, _, rfl, inferInstance⟩ ?_ ?_
    · rintro i v σ' H' hv e ⟨s1, s2, rfl, hB⟩
      obtain ⟨w, rfl, hw, hw2, hw3, hw4⟩ : ∃ w : Wy, v = .str w.nm ∧ w ≠ .wordof ∧ w ≠ .release ∧ w ≠ .best ∧ w ≠ .carries := by
        have hm := List.mem_of_getElem? hv
        simp only [List.mem_cons, List.not_mem_nil, or_false] at hm
        rcases hm with h | h | h
        · exact ⟨.living, h, by simp, by simp, by simp, by simp⟩
        · exact ⟨.depths, h, by simp, by simp, by simp, by simp⟩
        · exact ⟨.newest, h, by simp, by simp, by simp, by simp⟩
      walk_at "go"
      rename_i z H2 e2 hB2 hz
      refine use_kept (o := some 0) (ok_of hz (by decide) (by omega) (by omega) (by omega) (by omega) (fun i h => by cases h; omega) hw (fun h => absurd h hw2) (fun h => absurd h hw3) (fun h => absurd h hw4)) hw fun H3 e3 => ?_
      walk_at "gos"
      exact Gx.li ⟨_, _, rfl, inferInstance⟩
    · rintro σ' H' e ⟨s1, s2, rfl, hB⟩
      walk_at "go"
      rename_i l H2 e2 hB2 hw hl d H3 d0 d1 e3 hB3 zb H4 e4 hB4
      obtain ⟨n, rfl⟩ : ∃ n : Nat, d = (n : Int) := ⟨d.toNat, by omega⟩
      rw [Int.toNat_natCast]
      have hln : (List.replicate n false ++ l).length ≤ 64 := by rw [List.length_append, List.length_replicate]; omega
      generalize List.replicate n false ++ l = m at hln
      have hO : ∀ {z : Str} {H9 : Hp}, z.length ≤ 64 → Cal.Ok K H9 ⟨.normal, z, some 0, 0, [], 0, 0, ""⟩ := fun {z H9} hz => ok_of hz (by decide) (by omega) (by omega) (by omega) (by omega) (fun i h => by cases h; omega) (by simp) (fun h => by cases h) (fun h => by cases h) (fun h => by cases h)
      cases zb with
      | true =>
        walk_at "go"
        rename_i z H5 e5 hB5 hz hn
        refine use_kept (w := .normal) (o := some 0) (hO hz) (by simp) fun H6 e6 => ?_
        exact k _ Gx.rel inferInstance
      | false =>
        walk_at "go"
        refine use_kept (w := .normal) (o := some 0) (hO (by rw [tx_len]; exact hln)) (by simp) fun H6 e6 => ?_
        exact k _ Gx.rel inferInstance
def spAdp : Sp := fun vs H Q _ => ∃ (b c : Addr), vs = [.ref b] ∧ Bx b c H ∧ ∀ p (ds : List Int) H', Nw H p → ExB b H H' → Bx b c H' → At H' p (.lst (ds.map V.int)) → ds.length ≤ 70 → (∀ d ∈ ds, d ≤ 64) → Q (.ref p) H'
abbrev s_law_any_depths : Stmt := (top 56)
abbrev N_law_any_depths : List Str := ["_law_box_here", "_law_row", "_law_menu", "_law_place"]
theorem sc_law_any_depths : FnScope N_law_any_depths ["_law_box_here"] (defScope s_law_any_depths) := ⟨rfl, rfl, rfl, by decide +kernel, rfl, by decide +kernel, by decide +kernel⟩
theorem cl_law_any_depths (T : Bl mg) (Z : EcF P K mg c_StoreError c_InvalidInput c_NoPlace) (D : DfG K mg "_law_any_depths" s_law_any_depths [] []) (C_law_take : ClG CX0 P w K mg base 3 "_law_take" s_law_take ["_law_box_here", "_law_size"] [] [] spTake) (C_law_below : ClG CX0 P w K mg base 5 "_law_below" s_law_below ["_law_box_here"] [] [] spBelow) (C_law_bad : ClG CX0 P w K mg base 5 "_law_bad" s_law_bad ["_law_box_here"] [] [] spBad) (C_law_depths : ClG CX0 P w K mg base 3 "_law_depths" s_law_depths ["_law_word_here"] [] [] spDeU) (C_law_word : ClG CX0 P w K mg base 7 "_law_word" s_law_word ["_law_box_here", "_law_most"] [] [] spWord) : ClG CX0 P w K mg base 9 "_law_any_depths" s_law_any_depths ["_law_box_here"] [] [] spAdp := by
  have nd := sc_law_any_depths.nd
  refine D.okP sc_law_any_depths (fun vs H Q E h => ?_) (fun f cdv A outer s H vs Q E hr h => ?_)
  · obtain ⟨b, c, rfl, _⟩ := h
    rfl
  · obtain ⟨b, c, rfl, hb, k⟩ := h
    have hu := hu64 hr
    refine ⟨_, (pss_cons (ps_set (i := 1) nd rfl (Or.inl rfl) (pe_g C_law_depths (by exact hr.mono (by decide)) (E := fun _ => E0) (fun σ => passC0 σ) (fun _ _ _ _ _ _ us hl => match us, hl with | [_], _ => rfl) (pa_cons (pe_g C_law_word (by exact hr.mono (by decide)) (E := fun _ => E0) (fun σ => passC0 σ) (fun _ _ _ _ _ _ us hl => match us, hl with | [_, _], _ => rfl) (pa_cons (pv 0) (pa_cons pe_int pa_nil))) pa_nil)))
    (pss_cons (ps_if (pt_not (pt_val (pe_g C_law_bad (by exact hr.mono (by decide)) (E := fun _ => E0) (fun σ => passC0 σ) (fun _ _ _ _ _ _ us hl => match us, hl with | [_], _ => rfl) (pa_cons (pv 0) pa_nil))))
      (pss_one (ps_ret (pv 1)))
      pss_nil)
    (pss_cons (ps_set (i := 2) nd rfl (Or.inl rfl) (pe_g C_law_take (by exact hr.mono (by decide)) (E := fun _ => E0) (fun σ => passC0 σ) (fun _ _ _ _ _ _ us hl => match us, hl with | [_, _], _ => rfl) (pa_cons (pv 0) (pa_cons pe_int pa_nil))))
    (pss_cons (ps_if (pt_cmpR (opEqK (K := K) (by rfl) (by exact hu)) (pv 2) pe_int (nomark _))
      (pss_one (ps_ret (pe_op (opAddK (K := K) (by rfl)) (pv 1) (pe_lst (pa_cons (pe_op opSub pe_int (pe_g C_law_take (by exact hr.mono (by decide)) (E := fun _ => E0) (fun σ => passC0 σ) (fun _ _ _ _ _ _ us hl => match us, hl with | [_, _], _ => rfl) (pa_cons (pv 0) (pa_cons pe_int pa_nil)))) pa_nil)))))
      pss_nil)
    (pss_cons (ps_if (PW.pt (pw_or (pt_cmpR (opEqK (K := K) (by rfl) (by exact hu)) (pv 2) pe_int (nomark _)) (pw_or1 (pt_cmpR (opEqK (K := K) (by rfl) (by exact hu)) (pv 1) (pe_lst pa_nil) (nomark _)))))
      (pss_one (ps_ret (pe_op (opAddK (K := K) (by rfl)) (pv 1) (pe_lst (pa_cons (pe_g C_law_below (by exact hr.mono (by decide)) (E := fun _ => E0) (fun σ => passC0 σ) (fun _ _ _ _ _ _ us hl => match us, hl with | [_], _ => rfl) (pa_cons (pv 0) pa_nil)) pa_nil)))))
      pss_nil)
    (pss_cons (ps_set (i := 3) nd rfl (Or.inl rfl) (pe_g C_law_take (by exact hr.mono (by decide)) (E := fun _ => E0) (fun σ => passC0 σ) (fun _ _ _ _ _ _ us hl => match us, hl with | [_, _], _ => rfl) (pa_cons (pv 0) (pa_cons (pe_callB (callLenK (K := K) (by rfl)) (by rfl) T.len (by decide +kernel) (pa_cons (pv 1) pa_nil)) pa_nil))))
    (pss_cons (ps_if (pt_cmpR (opEqK (K := K) (by rfl) (by exact hu)) (pv 2) pe_int (nomark _))
      (pss_one (ps_ret (pe_op (opAddK (K := K) (by rfl)) (pe_op (opAddK (K := K) (by rfl)) (pe_slice (slAnyK (K := K) (by rfl)) (pv 1) po_none (po_some (pv 3))) (pe_lst (pa_cons (pe_ix (ixSeqK (K := K) (by rfl)) (pv 1) (pv 3) (fun _ _ => rfl)) pa_nil))) (pe_slice (slAnyK (K := K) (by rfl)) (pv 1) (po_some (pv 3)) po_none))))
      pss_nil)
    (pss_cons (ps_if (pt_cmpR (opEqK (K := K) (by rfl) (by exact hu)) (pv 2) pe_int (nomark _))
      (pss_one (ps_ret (pe_op (opAddK (K := K) (by rfl)) (pe_op (opAddK (K := K) (by rfl)) (pe_slice (slAnyK (K := K) (by rfl)) (pv 1) po_none (po_some (pv 3))) (pe_revLK (K := K) (by rfl) (pe_slice (slAnyK (K := K) (by rfl)) (pv 1) (po_some (pv 3)) (po_some (pe_op (opAddK (K := K) (by rfl)) (pv 3) pe_int))))) (pe_slice (slAnyK (K := K) (by rfl)) (pv 1) (po_some (pe_op (opAddK (K := K) (by rfl)) (pv 3) pe_int)) po_none))))
      pss_nil)
    (pss_one (ps_ret (pe_op (opAddK (K := K) (by rfl)) (pe_op (opAddK (K := K) (by rfl)) (pe_slice (slAnyK (K := K) (by rfl)) (pv 1) po_none (po_some (pv 3))) (pe_lst (pa_cons (pe_op (opAddK (K := K) (by rfl)) pe_int (pe_g C_law_take (by exact hr.mono (by decide)) (E := fun _ => E0) (fun σ => passC0 σ) (fun _ _ _ _ _ _ us hl => match us, hl with | [_, _], _ => rfl) (pa_cons (pv 0) (pa_cons pe_int pa_nil)))) pa_nil))) (pe_slice (slAnyK (K := K) (by rfl)) (pv 1) (po_some (pe_op (opAddK (K := K) (by rfl)) (pv 3) pe_int)) po_none)))))))))))), ?_⟩
    try dsimp only [L2.cxOf, L2.Cx.nox]
    simp only [L2.start, N_law_any_depths, List.map_cons, List.map_nil, List.length_cons, List.length_nil, Nat.reduceAdd, Nat.reduceSub, List.replicate_succ, List.replicate_zero, List.cons_append, List.nil_append]

    walk_at "go"
    rename_i l H1 e1 hB1 hw hl p1 H2 n2 e2 hp1 zb H3 e3 hB3
    have hdl := dep_len l
    have hcl := List.count_le_length (a := true) (l := l)
    have hle : ∀ d ∈ dep l, d ≤ 64 := fun d hd => by have := (dep_le l d hd).2; omega
    have fin : ∀ {H9 : Hp} {q : Addr} {ds : List Int}, Nw H q → ExB b H H9 → Bx b c H9 → At H9 q (.lst (ds.map V.int)) → ds.length ≤ 70 → (∀ d ∈ ds, d ≤ 64) → Q (.ref q) H9 := fun {H9 q ds} a1 a2 a3 a4 a5 a6 => k q ds H9 a1 a2 a3 a4 a5 a6
    have add1 : ∀ {H9 : Hp} {q : Addr} {x : Int}, Nw H q → ExB b H H9 → Bx b c H9 → At H9 q (.lst ((dep l).map V.int ++ [V.int x])) → x ≤ 64 → Q (.ref q) H9 := fun {H9 q x} a1 a2 a3 a4 a5 => fin (ds := dep l ++ [x]) a1 a2 a3 (by rw [List.map_append]; exact a4) (by rw [List.length_append]; simp; omega) fun d hd => by
      rcases List.mem_append.mp hd with h | h
      · exact hle d h
      · rw [List.mem_singleton.mp h]; exact a5
    cases zb with
    | false =>
      walk_at "go"
      exact fin Gx.new Gx.rel inferInstance inferInstance (by omega) hle
    | true =>
      walk_at "gos"
      · exact add1 Gx.new Gx.rel inferInstance inferInstance (by omega)
      · exact add1 Gx.new Gx.rel inferInstance inferInstance (by omega)
      · exact add1 Gx.new Gx.rel inferInstance inferInstance (by omega)
      · rename_i hI
        have h0 : 0 < (dep l).length := List.length_pos_iff.mpr hI
        walk_at "go"
        rename_i d H7 d0 d1 e7 hB7
        obtain ⟨n, rfl⟩ : ∃ n : Nat, d = (n : Int) := ⟨d.toNat, by omega⟩
        have c1 : cutV ((dep l).map V.int) none (some (n : Int)) = ((dep l).take n).map V.int := by rw [Gx.cutV_int]; unfold Gx.cutI; rw [Gx.cutB_to]
        have c2 : cutV ((dep l).map V.int) (some (n : Int)) none = ((dep l).drop n).map V.int := by rw [Gx.cutV_int]; unfold Gx.cutI; rw [Gx.cutB_from]
        have c3 : cutV ((dep l).map V.int) (some ((n : Int) + 1)) none = ((dep l).drop (n + 1)).map V.int := by rw [Gx.cutV_int]; unfold Gx.cutI; rw [show ((n : Int) + 1) = ((n + 1 : Nat) : Int) from rfl, Gx.cutB_from]
        have c4 : cutV ((dep l).map V.int) (some ((n : Int) + 2)) none = ((dep l).drop (n + 2)).map V.int := by rw [Gx.cutV_int]; unfold Gx.cutI; rw [show ((n : Int) + 2) = ((n + 2 : Nat) : Int) from rfl, Gx.cutB_from]
        have hmt : ∀ {x : Int} {i : Nat}, x ∈ (dep l).take i → x ≤ 64 := fun h => hle _ (List.mem_of_mem_take h)
        have hmd : ∀ {x : Int} {i : Nat}, x ∈ (dep l).drop i → x ≤ 64 := fun h => hle _ (List.mem_of_mem_drop h)
        have hmg : ∀ i : Nat, (dep l).getD i 0 ≤ 64 := fun i => by
          rw [List.getD_eq_getElem?_getD]
          cases h : (dep l)[i]? with
          | none => show (0 : Int) ≤ 64; omega
          | some y => exact hle y (List.mem_of_getElem? h)
        walk_at "gos"
        · rename_i hI2 p2 H8 n8 e8 hp2 p3 H9 n9 e9 hp3
          rw [c1] at hp2
          refine Gx.g_cat (by simp; omega) fun p4 H10 n10 e10 hp4 => ?_
          walk_at "go"
          rename_i p5 H11 n11 e11 hp5
          rw [c2] at hp5
          refine Gx.g_cat (by simp; omega) fun p6 H12 n12 e12 hp6 => ?_
          walk_at "go"
          refine fin (ds := (dep l).take n ++ [(dep l).getD n 0] ++ (dep l).drop n) Gx.new Gx.rel inferInstance (by rw [List.map_append, List.map_append]; exact hp6) (by simp; omega) fun d hd => ?_
          rcases List.mem_append.mp hd with h | h
          · rcases List.mem_append.mp h with h | h
            · exact hmt h
            · rw [List.mem_singleton.mp h]; exact hmg n
          · exact hmd h
        · rename_i hI2 hI3 p2 H8 n8 e8 hp2 p3 H9 n9 e9 hp3 p4 H10 n10 e10 hp4
          obtain ⟨M, hM⟩ : ∃ M, M = Gx.cutI (dep l) (some (n : Int)) (some ((n : Int) + 2)) := ⟨_, rfl⟩
          have hM2 : M.length ≤ 2 := by
            rw [hM]
            unfold Gx.cutI
            rw [show ((n : Int) + 2) = ((n + 2 : Nat) : Int) from rfl, HT.sIx_nat, HT.sIx_nat, List.length_take]
            omega
          have hMm : ∀ x ∈ M, x ≤ 64 := fun x hx => by
            rw [hM] at hx
            unfold Gx.cutI at hx
            exact hle x (List.mem_of_mem_drop (List.mem_of_mem_take hx))
          rw [c1] at hp2
          rw [Gx.cutV_int, ← hM, ← List.map_reverse] at hp4
          refine Gx.g_cat (by simp; omega) fun p5 H11 n11 e11 hp5 => ?_
          walk_at "go"
          rename_i p6 H12 n12 e12 hp6
          rw [c4] at hp6
          refine Gx.g_cat (by simp; omega) fun p7 H13 n13 e13 hp7 => ?_
          walk_at "go"
          refine fin (ds := (dep l).take n ++ M.reverse ++ (dep l).drop (n + 2)) Gx.new Gx.rel inferInstance (by rw [List.map_append, List.map_append]; exact hp7) (by simp; omega) fun d hd => ?_
          rcases List.mem_append.mp hd with h | h
          · rcases List.mem_append.mp h with h | h
            · exact hmt h
            · exact hMm d (List.mem_reverse.mp h)
          · exact hmd h
        · rename_i hI2 hI3 p2 H8 n8 e8 hp2 x H9 x0 x1 e9 hB9 p3 H10 n10 e10 hp3
          rw [c1] at hp2
          refine Gx.g_cat (by simp; omega) fun p4 H11 n11 e11 hp4 => ?_
          walk_at "go"
          rename_i p5 H12 n12 e12 hp5
          rw [c3] at hp5
          refine Gx.g_cat (by simp; omega) fun p6 H13 n13 e13 hp6 => ?_
          walk_at "go"
          refine fin (ds := (dep l).take n ++ [1 + x] ++ (dep l).drop (n + 1)) Gx.new Gx.rel inferInstance (by rw [List.map_append, List.map_append]; exact hp6) (by simp; omega) fun d hd => ?_
          rcases List.mem_append.mp hd with h | h
          · rcases List.mem_append.mp h with h | h
            · exact hmt h
            · rw [List.mem_singleton.mp h]; omega
          · exact hmd h
local macro_rules | `(tactic| walk_at "call") => `(tactic| first
  | ((with_reducible show spAdp _ _ _ _); refine ⟨_, _, rfl, by infer_instance, ?_⟩; intro p_ ds_ H_ np_ e_ hB_ hp_ hl_ hm_)
  | ((with_reducible show spAix _ _ _ _); refine ⟨_, _, _, rfl, ⟨by infer_instance, by omega, by omega⟩, ?_⟩; intro i_ H_ e_ hB_ h1_ h2_)
  | ((with_reducible show spAct _ _ _ _); refine ⟨_, _, _, rfl, ⟨by infer_instance, by omega, by omega⟩, ?_⟩; intro i_ H_ e_ hB_ h1_ h2_)
  | ((with_reducible show spApl _ _ _ _); refine ⟨_, _, _, rfl, ⟨by infer_instance, by omega, by omega⟩, ?_⟩; intro i_ H_ e_ hB_ h1_ h2_)
  | ((with_reducible show spSgn _ _ _ _); refine ⟨_, _, rfl, by infer_instance, ?_⟩; intro z_ H_ e_ hB_ hz_))
def spRws : Sp := fun vs H Q _ => ∃ (b c : Addr), vs = [.ref b] ∧ Bx b c H ∧ ∀ H', ExB b H H' → Bx b c H' → Q (.bl true) H'
abbrev s_law_moves_kept : Stmt := (top 59)
abbrev N_law_moves_kept : List Str := ["_law_box_here", "_law_way", "_law_word_here", "_law_index", "_law_most", "_law_sign", "_law_count", "_law_places"]
theorem sc_law_moves_kept : FnScope N_law_moves_kept ["_law_box_here"] (defScope s_law_moves_kept) := ⟨rfl, rfl, rfl, by decide +kernel, rfl, by decide +kernel, by decide +kernel⟩
theorem cl_law_moves_kept (T : Bl mg) (Z : EcF P K mg c_StoreError c_InvalidInput c_NoPlace) (D : DfG K mg "_law_moves_kept" s_law_moves_kept [] []) (C_law_call_kept : ClG CX0 P w K mg base 15 "_law_call_kept" s_law_call_kept ["_law_way", "_law_word_here", "_law_index", "_law_count", "_law_places", "_law_sign"] [] [] (spKept K)) (C_law_any_places : ClG CX0 P w K mg base 7 "_law_any_places" s_law_any_places ["_law_box_here", "_law_size"] [] [] spApl) (C_law_any_count : ClG CX0 P w K mg base 7 "_law_any_count" s_law_any_count ["_law_box_here", "_law_most"] [] [] spAct) (C_law_take : ClG CX0 P w K mg base 3 "_law_take" s_law_take ["_law_box_here", "_law_size"] [] [] spTake) (C_law_any_sign : ClG CX0 P w K mg base 7 "_law_any_sign" s_law_any_sign ["_law_box_here"] [] [] spSgn) (C_law_any_index : ClG CX0 P w K mg base 7 "_law_any_index" s_law_any_index ["_law_box_here", "_law_many"] [] [] spAix) (C_law_depths : ClG CX0 P w K mg base 3 "_law_depths" s_law_depths ["_law_word_here"] [] [] spDeU) (C_law_any_word : ClG CX0 P w K mg base 9 "_law_any_word" s_law_any_word ["_law_box_here"] [] [] spAny) : ClG CX0 P w K mg base 17 "_law_moves_kept" s_law_moves_kept ["_law_box_here"] [] [] spRws := by
  have nd := sc_law_moves_kept.nd
  refine D.okP sc_law_moves_kept (fun vs H Q E h => ?_) (fun f cdv A outer s H vs Q E hr h => ?_)
  · obtain ⟨b, c, rfl, _⟩ := h
    rfl
  · obtain ⟨b, c, rfl, hb, k⟩ := h
    have hu := hu64 hr
    refine ⟨_, (pss_cons (ps_for PassesOwn.never rfl (pi_listK (K := K) (by rfl) (pe_lst (pa_cons pe_str (pa_cons pe_str (pa_cons pe_str (pa_cons pe_str (pa_cons pe_str pa_nil))))))) (pg_name (i := 1) nd rfl (Or.inl rfl))
      (pss_cons (ps_set (i := 2) nd rfl (Or.inl rfl) (pe_g C_law_any_word (by exact hr.mono (by decide)) (E := fun _ => E0) (fun σ => passC0 σ) (fun _ _ _ _ _ _ us hl => match us, hl with | [_], _ => rfl) (pa_cons (pv 0) pa_nil)))
    (pss_cons (ps_set (i := 3) nd rfl (Or.inl rfl) (pe_g C_law_any_index (by exact hr.mono (by decide)) (E := fun _ => E0) (fun σ => passC0 σ) (fun _ _ _ _ _ _ us hl => match us, hl with | [_, _], _ => rfl) (pa_cons (pv 0) (pa_cons (pe_callB (callLenK (K := K) (by rfl)) (by rfl) T.len (by decide +kernel) (pa_cons (pe_g C_law_depths (by exact hr.mono (by decide)) (E := fun _ => E0) (fun σ => passC0 σ) (fun _ _ _ _ _ _ us hl => match us, hl with | [_], _ => rfl) (pa_cons (pv 2) pa_nil)) pa_nil)) pa_nil))))
    (pss_cons (ps_set (i := 4) nd rfl (Or.inl rfl) pe_int)
    (pss_cons (ps_set (i := 5) nd rfl (Or.inl rfl) (pe_g C_law_any_sign (by exact hr.mono (by decide)) (E := fun _ => E0) (fun σ => passC0 σ) (fun _ _ _ _ _ _ us hl => match us, hl with | [_], _ => rfl) (pa_cons (pv 0) pa_nil)))
    (pss_cons (ps_if (pt_cmpR (opEqK (K := K) (by rfl) (by exact hu)) (pv 1) pe_str (nomark _))
      (pss_cons (ps_set (i := 4) nd rfl (Or.inl rfl) (pe_op opPow pe_int pe_int))
    (pss_cons (ps_set (i := 5) nd rfl (Or.inl rfl) (pe_ix (ixSeqK (K := K) (by rfl)) (pe_lst (pa_cons pe_str (pa_cons pe_str pa_nil))) (pe_g C_law_take (by exact hr.mono (by decide)) (E := fun _ => E0) (fun σ => passC0 σ) (fun _ _ _ _ _ _ us hl => match us, hl with | [_, _], _ => rfl) (pa_cons (pv 0) (pa_cons pe_int pa_nil))) (fun _ _ => rfl)))
    (pss_one (ps_if (pt_cmpR (opEqK (K := K) (by rfl) (by exact hu)) (pe_g C_law_take (by exact hr.mono (by decide)) (E := fun _ => E0) (fun σ => passC0 σ) (fun _ _ _ _ _ _ us hl => match us, hl with | [_, _], _ => rfl) (pa_cons (pv 0) (pa_cons pe_int pa_nil))) pe_int (nomark _))
      (pss_one (ps_set (i := 3) nd rfl (Or.inl rfl) pe_non))
      pss_nil))))
      pss_nil)
    (pss_cons (ps_set (i := 6) nd rfl (Or.inl rfl) (pe_g C_law_any_count (by exact hr.mono (by decide)) (E := fun _ => E0) (fun σ => passC0 σ) (fun _ _ _ _ _ _ us hl => match us, hl with | [_, _], _ => rfl) (pa_cons (pv 0) (pa_cons (pv 4) pa_nil))))
    (pss_cons (ps_set (i := 7) nd rfl (Or.inl rfl) (pe_g C_law_any_places (by exact hr.mono (by decide)) (E := fun _ => E0) (fun σ => passC0 σ) (fun _ _ _ _ _ _ us hl => match us, hl with | [_, _], _ => rfl) (pa_cons (pv 0) (pa_cons (pe_callB (callLenK (K := K) (by rfl)) (by rfl) T.len (by decide +kernel) (pa_cons (pv 2) pa_nil)) pa_nil))))
    (pss_one (ps_if (pt_not (pt_val (pe_g C_law_call_kept (by exact hr.mono (by decide)) (E := fun _ => E0) (fun σ => passC0 σ) (fun _ _ _ _ _ _ us hl => match us, hl with | [_, _, _, _, _, _], _ => rfl) (pa_cons (pv 1) (pa_cons (pv 2) (pa_cons (pv 3) (pa_cons (pv 6) (pa_cons (pv 7) (pa_cons (pv 5) pa_nil)))))))))
      (pss_one (ps_ret pe_bl))
      pss_nil))))))))))
    (pss_one (ps_ret pe_bl))), ?_⟩
    try dsimp only [L2.cxOf, L2.Cx.nox]
    simp only [L2.start, N_law_moves_kept, List.map_cons, List.map_nil, List.length_cons, List.length_nil, Nat.reduceAdd, Nat.reduceSub, List.replicate_succ, List.replicate_zero, List.cons_append, List.nil_append]

    walk_at "go"
    refine Gx.forL [b] (fun i σ' H' => ∃ (s1 s2 s3 s4 s5 s6 s7 : Option V), σ' = [some (.ref b), s1, s2, s3, s4, s5, s6, s7] ∧ Bx b c H') ⟨_, _, _, _, _, _, _, rfl, inferInstance⟩ ?_ ?_
    · rintro i v σ' H' hv e ⟨s1, s2, s3, s4, s5, s6, s7, rfl, hB⟩
      obtain ⟨w, rfl, hw⟩ : ∃ w : Wy, v = .str w.nm ∧ (w = .release ∨ w = .carry ∨ w = .carries ∨ w = .append ∨ w = .step) := by
        have hm := List.mem_of_getElem? hv
        simp only [List.mem_cons, List.not_mem_nil, or_false] at hm
        rcases hm with h | h | h | h | h
        · exact ⟨.release, h, by simp⟩
        · exact ⟨.carry, h, by simp⟩
        · exact ⟨.carries, h, by simp⟩
        · exact ⟨.append, h, by simp⟩
        · exact ⟨.step, h, by simp⟩
      walk_at "go"
      rename_i z H2 e2 hB2 hz p2 H3 n3 e3 hp3
      have hdb := dep_len (bl z)
      have hcb := List.count_le_length (a := true) (l := bl z)
      have hbz := bl_len (z := z)
      walk_at "go"
      rename_i i9 H4 e4 hB4 i1 i2 g H5 e5 hB5 hg
      by_cases hst : w = .step
      · subst hst
        simp only [Wy.nm]
        walk_at "go"
        rename_i p6 H6 n6 e6 hp6 d H7 d0 d1 e7 hB7
        refine g_ixAll (by omega) (by simp; omega) fun v hv => ?_
        obtain ⟨g2, rfl, hg2⟩ : ∃ g2 : Str, v = .str g2 ∧ g2.length ≤ 64 := by
          simp only [List.mem_cons, List.not_mem_nil, or_false] at hv
          rcases hv with h | h <;> exact ⟨_, h, by decide +kernel⟩
        walk_at "gos"
        · rename_i d9 H8 x0 x1 e8 hB8 hI ct H9 e9 hB9 y0 y1 pl H10 e10 hB10 w0 w1
          refine use_kept (w := .step) (o := none) (ok_of hz hg2 (by omega) (by omega) (by omega) (by omega) (fun i h => by cases h) (by simp) (fun h => by cases h) (fun h => by cases h) (fun h => by cases h)) (by simp) fun H11 e11 => ?_
          walk_at "gos"
          exact Gx.li ⟨_, _, _, _, _, _, _, rfl, inferInstance⟩
        · rename_i d9 H8 x0 x1 e8 hB8 hI ct H9 e9 hB9 y0 y1 pl H10 e10 hB10 w0 w1
          refine use_kept (w := .step) (o := some i9) (ok_of hz hg2 (by omega) (by omega) (by omega) (by omega) (fun i h => by cases h; exact ⟨i1, i2⟩) (by simp) (fun h => by cases h) (fun h => by cases h) (fun h => by cases h)) (by simp) fun H11 e11 => ?_
          walk_at "gos"
          exact Gx.li ⟨_, _, _, _, _, _, _, rfl, inferInstance⟩
      · have hw : w = .release ∨ w = .carry ∨ w = .carries ∨ w = .append := by rcases hw with h | h | h | h | h <;> simp_all
        have hwn : decide (w.nm = ("step" : Str)) = false := by rcases hw with rfl | rfl | rfl | rfl <;> decide +kernel
        rw [hwn]
        walk_at "go"
        rename_i ct H9 e9 hB9 y0 y1 pl H10 e10 hB10 w0 w1
        refine use_kept (o := some i9) (ok_of hz hg (by omega) (by omega) (by omega) (by omega) (fun i h => by cases h; exact ⟨i1, i2⟩) (by rcases hw with rfl | rfl | rfl | rfl <;> simp) (fun h => by simp) (fun h => by rcases hw with rfl | rfl | rfl | rfl <;> cases h) (fun h => by omega)) (by rcases hw with rfl | rfl | rfl | rfl <;> simp) fun H11 e11 => ?_
        walk_at "gos"
        exact Gx.li ⟨_, _, _, _, _, _, _, rfl, inferInstance⟩
    · rintro σ' H' e ⟨s1, s2, s3, s4, s5, s6, s7, rfl, hB⟩
      walk_at "go"
      exact k _ Gx.rel hB
/-- both ways of an if go on from states with P -/
theorem ite_join {c : Prop} [Decidable c] {A B : Ends → L2.St → Hp → Prop} {D : Ends} {σ : L2.St} {H : Hp} (P : L2.St → Hp → Prop) (h : ∀ N : L2.St → Hp → Prop, (∀ σ' H', P σ' H' → N σ' H') → if c then A { D with nx := N } σ H else B { D with nx := N } σ H) (hk : ∀ σ' H', P σ' H' → D.nx σ' H') : if c then A D σ H else B D σ H := h D.nx hk
def spRos : Sp := fun vs H Q _ => ∃ (b c : Addr), vs = [.ref b] ∧ Bx b c H ∧ ∀ H', ExB b H H' → Bx b c H' → Q (.bl true) H'
abbrev s_law_rows_kept : Stmt := (top 57)
abbrev N_law_rows_kept : List Str := ["_law_box_here", "_law_row", "_law_handed", "_law_count", "_law_size"]
theorem sc_law_rows_kept : FnScope N_law_rows_kept ["_law_box_here"] (defScope s_law_rows_kept) := ⟨rfl, rfl, rfl, by decide +kernel, rfl, by decide +kernel, by decide +kernel⟩
theorem cl_law_rows_kept (T : Bl mg) (Z : EcF P K mg c_StoreError c_InvalidInput c_NoPlace) (D : DfG K mg "_law_rows_kept" s_law_rows_kept [] []) (C_law_call_kept : ClG CX0 P w K mg base 15 "_law_call_kept" s_law_call_kept ["_law_way", "_law_word_here", "_law_index", "_law_count", "_law_places", "_law_sign"] [] [] (spKept K)) (C_law_bad : ClG CX0 P w K mg base 5 "_law_bad" s_law_bad ["_law_box_here"] [] [] spBad) (C_law_below : ClG CX0 P w K mg base 5 "_law_below" s_law_below ["_law_box_here"] [] [] spBelow) (C_law_take : ClG CX0 P w K mg base 3 "_law_take" s_law_take ["_law_box_here", "_law_size"] [] [] spTake) (C_law_any_count : ClG CX0 P w K mg base 7 "_law_any_count" s_law_any_count ["_law_box_here", "_law_most"] [] [] spAct) (C_law_any_depths : ClG CX0 P w K mg base 9 "_law_any_depths" s_law_any_depths ["_law_box_here"] [] [] spAdp) : ClG CX0 P w K mg base 17 "_law_rows_kept" s_law_rows_kept ["_law_box_here"] [] [] spRos := by
  have nd := sc_law_rows_kept.nd
  refine D.okP sc_law_rows_kept (fun vs H Q E h => ?_) (fun f cdv A outer s H vs Q E hr h => ?_)
  · obtain ⟨b, c, rfl, _⟩ := h
    rfl
  · obtain ⟨b, c, rfl, hb, k⟩ := h
    have hu := hu64 hr
    refine ⟨_, (pss_cons (ps_set (i := 1) nd rfl (Or.inl rfl) (pe_g C_law_any_depths (by exact hr.mono (by decide)) (E := fun _ => E0) (fun σ => passC0 σ) (fun _ _ _ _ _ _ us hl => match us, hl with | [_], _ => rfl) (pa_cons (pv 0) pa_nil)))
    (pss_cons (ps_set (i := 2) nd rfl (Or.inl rfl) (pe_callTy (callListOfK (K := K) (by rfl)) (by rfl) T.list (by decide +kernel) (pa_cons (pv 1) pa_nil)))
    (pss_cons (ps_if (PW.pt (pw_or (pt_not (pt_val (pe_g C_law_call_kept (by exact hr.mono (by decide)) (E := fun _ => E0) (fun σ => passC0 σ) (fun _ _ _ _ _ _ us hl => match us, hl with | [_, _, _, _, _, _], _ => rfl) (pa_cons pe_str (pa_cons pe_str (pa_cons (pv 2) (pa_cons pe_int (pa_cons pe_int (pa_cons pe_str pa_nil))))))))) (pw_or1 (pt_cmpR (opNeK (K := K) (by rfl) (by exact hu)) (pv 2) (pv 1) (nomark _)))))
      (pss_one (ps_ret pe_bl))
      pss_nil)
    (pss_cons (ps_set (i := 3) nd rfl (Or.inl rfl) (pe_g C_law_any_count (by exact hr.mono (by decide)) (E := fun _ => E0) (fun σ => passC0 σ) (fun _ _ _ _ _ _ us hl => match us, hl with | [_, _], _ => rfl) (pa_cons (pv 0) (pa_cons pe_int pa_nil))))
    (pss_cons (ps_if (pt_not (pt_val (pe_g C_law_call_kept (by exact hr.mono (by decide)) (E := fun _ => E0) (fun σ => passC0 σ) (fun _ _ _ _ _ _ us hl => match us, hl with | [_, _, _, _, _, _], _ => rfl) (pa_cons pe_str (pa_cons pe_str (pa_cons pe_int (pa_cons (pv 3) (pa_cons pe_int (pa_cons pe_str pa_nil)))))))))
      (pss_one (ps_ret pe_bl))
      pss_nil)
    (pss_cons (ps_set (i := 3) nd rfl (Or.inl rfl) (pe_g C_law_any_count (by exact hr.mono (by decide)) (E := fun _ => E0) (fun σ => passC0 σ) (fun _ _ _ _ _ _ us hl => match us, hl with | [_, _], _ => rfl) (pa_cons (pv 0) (pa_cons pe_int pa_nil))))
    (pss_cons (ps_set (i := 4) nd rfl (Or.inl rfl) pe_int)
    (pss_cons (ps_if (pt_cmpR opGt (pv 3) pe_int (nomark _))
      (pss_one (ps_set (i := 4) nd rfl (Or.inl rfl) (pe_op (opAddK (K := K) (by rfl)) (pv 3) (pe_g C_law_take (by exact hr.mono (by decide)) (E := fun _ => E0) (fun σ => passC0 σ) (fun _ _ _ _ _ _ us hl => match us, hl with | [_, _], _ => rfl) (pa_cons (pv 0) (pa_cons (pe_op opSub pe_int (pv 3)) pa_nil))))))
      pss_nil)
    (pss_cons (ps_if (pt_val (pe_g C_law_bad (by exact hr.mono (by decide)) (E := fun _ => E0) (fun σ => passC0 σ) (fun _ _ _ _ _ _ us hl => match us, hl with | [_], _ => rfl) (pa_cons (pv 0) pa_nil)))
      (pss_one (ps_set (i := 4) nd rfl (Or.inl rfl) (pe_ix (ixSeqK (K := K) (by rfl)) (pe_lst (pa_cons (pe_op opSub (pv 3) pe_int) (pa_cons pe_int (pa_cons (pe_g C_law_take (by exact hr.mono (by decide)) (E := fun _ => E0) (fun σ => passC0 σ) (fun _ _ _ _ _ _ us hl => match us, hl with | [_, _], _ => rfl) (pa_cons (pv 0) (pa_cons pe_int pa_nil))) (pa_cons (pe_g C_law_below (by exact hr.mono (by decide)) (E := fun _ => E0) (fun σ => passC0 σ) (fun _ _ _ _ _ _ us hl => match us, hl with | [_], _ => rfl) (pa_cons (pv 0) pa_nil)) pa_nil))))) (pe_g C_law_take (by exact hr.mono (by decide)) (E := fun _ => E0) (fun σ => passC0 σ) (fun _ _ _ _ _ _ us hl => match us, hl with | [_, _], _ => rfl) (pa_cons (pv 0) (pa_cons pe_int pa_nil))) (fun _ _ => rfl))))
      pss_nil)
    (pss_one (ps_ret (pe_g C_law_call_kept (by exact hr.mono (by decide)) (E := fun _ => E0) (fun σ => passC0 σ) (fun _ _ _ _ _ _ us hl => match us, hl with | [_, _, _, _, _, _], _ => rfl) (pa_cons pe_str (pa_cons pe_str (pa_cons pe_int (pa_cons (pv 3) (pa_cons (pv 4) (pa_cons pe_str pa_nil)))))))))))))))))), ?_⟩
    try dsimp only [L2.cxOf, L2.Cx.nox]
    simp only [L2.start, N_law_rows_kept, List.map_cons, List.map_nil, List.length_cons, List.length_nil, Nat.reduceAdd, Nat.reduceSub, List.replicate_succ, List.replicate_zero, List.cons_append, List.nil_append]

    walk_at "go"
    rename_i p1 ds H1 n1 e1 hB1 hp1 hl1 hm1 p2 H2 n2 e2 hp2
    refine ⟨.wordof, "", _, none, p2, ds, 0, 0, "", rfl, ⟨rfl, ⟨by dsimp only; decide +kernel, by dsimp only; decide +kernel, by dsimp only; omega, by dsimp only; omega, by dsimp only; omega, by dsimp only; omega, fun i h => (by cases h), fun _ => ⟨by dsimp only; infer_instance, by dsimp only; omega, hm1⟩, fun h => (by cases h), fun h => (by cases h), fun h => (by cases h)⟩⟩, fun H3 e3 => ?_⟩
    have hOk : ∀ {w : Wy} {H9 : Hp} {c p : Int}, -(2 ^ 101) < c → c ≤ 64 → -(2 ^ 102) < p → p ≤ 64 → w ≠ .wordof → w ≠ .release → Cal.Ok K H9 ⟨w, tx [], some 0, 0, [], c, p, tx []⟩ := fun {w H9 c p} a1 a2 a3 a4 a5 a6 => ok_of (by decide) (by decide) a1 (by omega) a3 a4 (fun i h => by cases h; omega) a5 (fun h => absurd h a6) (fun _ => a2) (fun _ => by omega)
    walk_at "gos"
    rename_i hI ct H4 e4 hB4 y0 y1
    refine use_kept (w := .best) (o := some 0) (hOk (by omega) (by omega) (by omega) (by omega) (by simp) (by simp)) (by simp) fun H5 e5 => ?_
    walk_at "go"
    rename_i c2 H6 e6 hB6 z0 z1
    refine ite_join (fun σ' H' => ∃ sz : Int, σ' = [some (.ref b), some (.ref p1), some (.ref p2), some (.int c2), some (.int sz)] ∧ ExB b H6 H' ∧ Bx b c H' ∧ 0 ≤ sz ∧ sz ≤ 64) (fun N hk => ?_) ?_
    · refine Gx.g_ite (fun hI => ?_) (fun hI => ?_)
      · walk_at "go"
        exact hk _ _ ⟨_, rfl, Gx.rel, inferInstance, by omega, by omega⟩
      · walk_at "go"
        exact hk _ _ ⟨_, rfl, Gx.rel, inferInstance, by omega, by omega⟩
    rintro σ' H7 ⟨sz, rfl, e7, hB7, q0, q1⟩
    walk_at "gos"
    · refine g_ixP (fun j => -(2 ^ 102) < j ∧ j ≤ 64) (by omega) (by simp; omega) (by intro v hv; simp only [List.mem_cons, List.not_mem_nil, or_false] at hv; rcases hv with h | h | h | h <;> exact ⟨_, h, by omega, by omega⟩) fun j hj => ?_
      walk_at "go"
      refine use_kept (w := .worst) (o := some 0) (hOk (by omega) (by omega) (by omega) (by omega) (by simp) (by simp)) (by simp) fun H9 e9 => ?_
      exact k _ Gx.rel inferInstance
    · refine use_kept (w := .worst) (o := some 0) (hOk (by omega) (by omega) (by omega) (by omega) (by simp) (by simp)) (by simp) fun H9 e9 => ?_
      exact k _ Gx.rel inferInstance
def spKnd (K : PySem.W.Frag) : Sp := fun vs H Q _ => ∃ (p : Addr) (ds : List Int) (t : Bool), vs = [.ref p] ∧ (SqC K H p (ds.map V.int ++ [.bl t]) ∧ ds.length ≤ 10) ∧ ∀ H', Ex H H' → Q (.bl true) H'
abbrev s_law_kind_kept : Stmt := (top 60)
abbrev N_law_kind_kept : List Str := ["_law_row", "raised"]
theorem sc_law_kind_kept : FnScope N_law_kind_kept ["_law_row"] (defScope s_law_kind_kept) := ⟨rfl, rfl, rfl, by decide +kernel, rfl, by decide +kernel, by decide +kernel⟩
theorem cl_law_kind_kept (T : Bl mg) (Z : EcF P K mg c_StoreError c_InvalidInput c_NoPlace) (D : DfG K mg "_law_kind_kept" s_law_kind_kept [] []) (C_word_of_X : ClG (L2.CX P w) P w K mg base 5 "word_of" s_word_of_X ["depths"] [] [] (spWoX c_InvalidInput K)) : ClG CX0 P w K mg base 7 "_law_kind_kept" s_law_kind_kept ["_law_row"] [] [] (spKnd K) := by
  have nd := sc_law_kind_kept.nd
  refine D.okP sc_law_kind_kept (fun vs H Q E h => ?_) (fun f cdv A outer s H vs Q E hr h => ?_)
  · obtain ⟨p, ds, t, rfl, _⟩ := h
    rfl
  · obtain ⟨p, ds, t, rfl, ⟨hs, hl⟩, k⟩ := h
    have hu := hu64 hr
    refine ⟨_, (pss_cons (ps_try_as (c := .ref c_InvalidInput) rfl rfl nd (i := 1) rfl rfl ⟨by rfl, by decide, .inl Z.g_InvalidInput⟩ takes0 (fun W pn xe tk po => (pss_one (ps_expr (pe_g C_word_of_X (by exact hr.mono (by decide)) (fun σ => passC tk σ) (fun _ _ _ _ _ _ us hl => match us, hl with | [_], _ => rfl) (pa_cons (pv 0) pa_nil)))))
      (fun a oe cls d pn hz hf => (pss_one (ps_ret (pe_cmpR (opEqK (K := K) (by rfl) (by exact hu)) (pe_xsK (K := K) (by rfl) (List.mem_cons_self ..) hz hf (pv 1)) pe_str (nomark _))))))
    (pss_one (ps_ret pe_bl))), ?_⟩
    try dsimp only [L2.cxOf, L2.Cx.nox]
    simp only [L2.start, N_law_kind_kept, List.map_cons, List.map_nil, List.length_cons, List.length_nil, Nat.reduceAdd, Nat.reduceSub, List.replicate_succ, List.replicate_zero, List.cons_append, List.nil_append]

    walk_at "go"
    refine ⟨p, _, rfl, ⟨hs, by rw [List.length_append, List.length_map]; simp; omega, .inr ⟨ds, t, rfl⟩⟩, fun d H1 n1 e1 hd => ?_⟩
    walk_at "go"
    exact k _ Gx.rel

local macro_rules | `(tactic| walk_at "call") => `(tactic| first
  | ((with_reducible show spTks _ _ _ _); refine ⟨_, _, rfl, by infer_instance, ?_⟩; intro H_ e_ hB_)
  | ((with_reducible show spRos _ _ _ _); refine ⟨_, _, rfl, by infer_instance, ?_⟩; intro H_ e_ hB_)
  | ((with_reducible show spRws _ _ _ _); refine ⟨_, _, rfl, by infer_instance, ?_⟩; intro H_ e_ hB_))
def spLaw (K : PySem.W.Frag) : Sp := fun vs H Q _ => ∃ (a : Addr) (ns : List Int), vs = [.ref a] ∧ SqL K H a (ns.map V.int) ∧ ns.length ≤ 63 ∧ (∀ z ∈ ns, Builtin.Int.intBits z ≤ 1048576) ∧ ∀ H', Q (.bl true) H'
abbrev s_law : Stmt := (top 61)
abbrev N_law : List Str := ["_law_script", "_law_box_here", "_law_turn"]
theorem sc_law : FnScope N_law ["_law_script"] (defScope s_law) := ⟨rfl, rfl, rfl, by decide +kernel, rfl, by decide +kernel, by decide +kernel⟩
theorem ok_law {f : Addr} {fd : FuncData} (T : Bl mg) (Z : EcF P K mg c_StoreError c_InvalidInput c_NoPlace) (F : FunD K "law" "law" (defArgs s_law) (defBody s_law) (defScope s_law) [] [] f fd) (C_law_kind_kept : ClG CX0 P w K mg base 7 "_law_kind_kept" s_law_kind_kept ["_law_row"] [] [] (spKnd K)) (C_law_call_kept : ClG CX0 P w K mg base 15 "_law_call_kept" s_law_call_kept ["_law_way", "_law_word_here", "_law_index", "_law_count", "_law_places", "_law_sign"] [] [] (spKept K)) (C_law_any_word : ClG CX0 P w K mg base 9 "_law_any_word" s_law_any_word ["_law_box_here"] [] [] spAny) (C_law_moves_kept : ClG CX0 P w K mg base 17 "_law_moves_kept" s_law_moves_kept ["_law_box_here"] [] [] spRws) (C_law_rows_kept : ClG CX0 P w K mg base 17 "_law_rows_kept" s_law_rows_kept ["_law_box_here"] [] [] spRos) (C_law_texts_kept : ClG CX0 P w K mg base 17 "_law_texts_kept" s_law_texts_kept ["_law_box_here"] [] [] spTks) (C_law_box : ClG CX0 P w K mg base 3 "_law_box" s_law_box ["_law_script"] [] [] (spBox K)) : FnOk P w K mg base CX0 19 f fd ["_law_script"] (spLaw K) := by
  have nd := sc_law.nd
  refine F.ok sc_law (fun vs H Q E h => ?_) (fun cdv A outer s H vs Q E hr h => ?_)
  · obtain ⟨a, ns, rfl, _⟩ := h
    rfl
  · obtain ⟨a, ns, rfl, hs, hl, hbits, k⟩ := h
    have hu := hu64 hr
    refine Gx.ex_nox ⟨_, (pss_cons (ps_set (i := 1) nd rfl (Or.inl rfl) (pe_g C_law_box (by exact hr.mono (by decide)) (E := fun _ => E0) (fun σ => passC0 σ) (fun _ _ _ _ _ _ us hl => match us, hl with | [_], _ => rfl) (pa_cons (pv 0) pa_nil)))
    (pss_cons (ps_for PassesOwn.never rfl (pi_range1 rfl T.range (pa_cons pe_int pa_nil)) (pg_name (i := 2) nd rfl (Or.inl rfl))
      (pss_cons (ps_if (PW.pt (pw_or (pt_not (pt_val (pe_g C_law_texts_kept (by exact hr.mono (by decide)) (E := fun _ => E0) (fun σ => passC0 σ) (fun _ _ _ _ _ _ us hl => match us, hl with | [_], _ => rfl) (pa_cons (pv 1) pa_nil)))) (pw_or (pt_not (pt_val (pe_g C_law_rows_kept (by exact hr.mono (by decide)) (E := fun _ => E0) (fun σ => passC0 σ) (fun _ _ _ _ _ _ us hl => match us, hl with | [_], _ => rfl) (pa_cons (pv 1) pa_nil)))) (pw_or1 (pt_not (pt_val (pe_g C_law_moves_kept (by exact hr.mono (by decide)) (E := fun _ => E0) (fun σ => passC0 σ) (fun _ _ _ _ _ _ us hl => match us, hl with | [_], _ => rfl) (pa_cons (pv 1) pa_nil))))))))
      (pss_one (ps_ret pe_bl))
      pss_nil)
    (pss_one (ps_if (pt_not (pt_val (pe_g C_law_call_kept (by exact hr.mono (by decide)) (E := fun _ => E0) (fun σ => passC0 σ) (fun _ _ _ _ _ _ us hl => match us, hl with | [_, _, _, _, _, _], _ => rfl) (pa_cons pe_str (pa_cons (pe_g C_law_any_word (by exact hr.mono (by decide)) (E := fun _ => E0) (fun σ => passC0 σ) (fun _ _ _ _ _ _ us hl => match us, hl with | [_], _ => rfl) (pa_cons (pv 1) pa_nil)) (pa_cons pe_int (pa_cons pe_int (pa_cons pe_int (pa_cons (pe_g C_law_any_word (by exact hr.mono (by decide)) (E := fun _ => E0) (fun σ => passC0 σ) (fun _ _ _ _ _ _ us hl => match us, hl with | [_], _ => rfl) (pa_cons (pv 1) pa_nil)) pa_nil)))))))))
      (pss_one (ps_ret pe_bl))
      pss_nil))))
    (pss_one (ps_ret (pe_and (pe_g C_law_kind_kept (by exact hr.mono (by decide)) (E := fun _ => E0) (fun σ => passC0 σ) (fun _ _ _ _ _ _ us hl => match us, hl with | [_], _ => rfl) (pa_cons (pe_lst (pa_cons pe_bl pa_nil)) pa_nil)) (pe_one (pe_g C_law_kind_kept (by exact hr.mono (by decide)) (E := fun _ => E0) (fun σ => passC0 σ) (fun _ _ _ _ _ _ us hl => match us, hl with | [_], _ => rfl) (pa_cons (pe_lst (pa_cons pe_int (pa_cons pe_bl pa_nil))) pa_nil)))))))), ?_⟩
    try dsimp only [L2.cxOf, L2.Cx.nox]
    simp only [L2.start, N_law, List.map_cons, List.map_nil, List.length_cons, List.length_nil, Nat.reduceAdd, Nat.reduceSub, List.replicate_succ, List.replicate_zero, List.cons_append, List.nil_append]

    have hs : SqC K H a (ns.map V.int) := ⟨hs⟩
    walk_at "go"
    rename_i b c H1 n1 e1 hB1
    refine Gx.for1 [b, c] (fun i σ' H' => ∃ s2 : Option V, σ' = [some (.ref a), some (.ref b), s2] ∧ Bx b c H') (by omega) ⟨_, rfl, inferInstance⟩ ?_ ?_
    · rintro i σ' H' hi e ⟨s2, rfl, hB⟩
      walk_at "gos"
      rename_i z1 H5 e5 hB5 hz1 z2 H6 e6 hB6 hz2
      refine use_kept (w := .dominates) (o := some 0) (ok_of hz1 hz2 (by omega) (by omega) (by omega) (by omega) (fun i h => by cases h; omega) (by simp) (fun h => by cases h) (fun h => by cases h) (fun h => by cases h)) (by simp) fun H7 e7 => ?_
      walk_at "gos"
      exact Gx.li ⟨_, rfl, inferInstance⟩
    · rintro σ' H' e ⟨s2, rfl, hB⟩
      walk_at "go"
      rename_i p2 H2 n2 e2 hp2
      refine ⟨p2, [], true, rfl, ⟨(inferInstance : SqC K H2 p2 [V.bl true]), by decide⟩, fun H3 e3 => ?_⟩
      walk_at "go"
      rename_i p3 H4 n4 e4 hp4
      refine ⟨p3, [5], true, rfl, ⟨(inferInstance : SqC K H4 p3 [V.int 5, V.bl true]), by decide⟩, fun H5 e5 => ?_⟩
      exact k _

end
theorem all_mk {l : PySem.W.OpenLaw} {w : World} {K : PySem.W.Frag} {h : Heap} {mg : Str → Option Value} {fa : Addr} {c_StoreError c_InvalidInput c_NoPlace : Addr} (X : K.In h) (G : h.Ns mainGlobals mg) (hfa : mg "law" = some (.ref fa)) (T : Bl mg) (Z : EcF l.prog K mg c_StoreError c_InvalidInput c_NoPlace) (D_law_box : DfG K mg "_law_box" s_law_box [] []) (D_law_take : DfG K mg "_law_take" s_law_take [] []) (D_at_least : DfG K mg "at_least" s_at_least [] []) (D_at_most : DfG K mg "at_most" s_at_most [] []) (D_whole_number : DfG K mg "whole_number" s_whole_number [] []) (D_good_word : DfG K mg "good_word" s_good_word [] []) (D_trimmed : DfG K mg "_trimmed" s_trimmed [] []) (D_ones : DfG K mg "_ones" s_ones [] []) (D_depth_list : DfG K mg "_depth_list" s_depth_list [] []) (D_at_least_X : DfG K mg "at_least" s_at_least_X [] []) (D_at_most_X : DfG K mg "at_most" s_at_most_X [] []) (D_good_word_X : DfG K mg "good_word" s_good_word_X [] []) (D_released : DfG K mg "_released" s_released [] []) (D_carried : DfG K mg "_carried" s_carried [] []) (D_carried_often : DfG K mg "_carried_often" s_carried_often [] []) (D_appended : DfG K mg "_appended" s_appended [] []) (D_release : DfG K mg "release" s_release [] []) (D_carry : DfG K mg "carry" s_carry [] []) (D_carries : DfG K mg "carries" s_carries [] []) (D_append_record : DfG K mg "append_record" s_append_record [.str "1"] []) (D_step : DfG K mg "step" s_step [] [("late", .bl false)]) (D_normal : DfG K mg "normal" s_normal [] []) (D_living : DfG K mg "living" s_living [] []) (D_depths : DfG K mg "depths" s_depths [] []) (D_newest : DfG K mg "newest" s_newest [] []) (D_best_word : DfG K mg "best_word" s_best_word [] []) (D_worst_word : DfG K mg "worst_word" s_worst_word [] []) (D_word_of : DfG K mg "word_of" s_word_of [] []) (D_dominates : DfG K mg "dominates" s_dominates [] []) (D_normal_X : DfG K mg "normal" s_normal_X [] []) (D_living_X : DfG K mg "living" s_living_X [] []) (D_depths_X : DfG K mg "depths" s_depths_X [] []) (D_newest_X : DfG K mg "newest" s_newest_X [] []) (D_release_X : DfG K mg "release" s_release_X [] []) (D_carry_X : DfG K mg "carry" s_carry_X [] []) (D_carries_X : DfG K mg "carries" s_carries_X [] []) (D_append_record_X : DfG K mg "append_record" s_append_record_X [.str "1"] []) (D_step_X : DfG K mg "step" s_step_X [] [("late", .bl false)]) (D_dominates_X : DfG K mg "dominates" s_dominates_X [] []) (D_best_word_X : DfG K mg "best_word" s_best_word_X [] []) (D_worst_word_X : DfG K mg "worst_word" s_worst_word_X [] []) (D_whole_number_X : DfG K mg "whole_number" s_whole_number_X [] []) (D_word_of_X : DfG K mg "word_of" s_word_of_X [] []) (D_normal_J : DfG K mg "normal" s_normal_J [] []) (D_living_J : DfG K mg "living" s_living_J [] []) (D_depths_J : DfG K mg "depths" s_depths_J [] []) (D_newest_J : DfG K mg "newest" s_newest_J [] []) (D_release_J : DfG K mg "release" s_release_J [] []) (D_carry_J : DfG K mg "carry" s_carry_J [] []) (D_carries_J : DfG K mg "carries" s_carries_J [] []) (D_append_record_J : DfG K mg "append_record" s_append_record_J [.str "1"] []) (D_step_J : DfG K mg "step" s_step_J [] [("late", .bl false)]) (D_dominates_J : DfG K mg "dominates" s_dominates_J [] []) (D_best_word_J : DfG K mg "best_word" s_best_word_J [] []) (D_worst_word_J : DfG K mg "worst_word" s_worst_word_J [] []) (D_word_of_J : DfG K mg "word_of" s_word_of_J [] []) (D_law_bits : DfG K mg "_law_bits" s_law_bits [] []) (D_law_word : DfG K mg "_law_word" s_law_word [] []) (D_law_depths : DfG K mg "_law_depths" s_law_depths [] []) (D_law_is_integer : DfG K mg "_law_is_integer" s_law_is_integer [] []) (D_law_bad : DfG K mg "_law_bad" s_law_bad [] []) (D_law_below : DfG K mg "_law_below" s_law_below [] []) (D_law_spoilt : DfG K mg "_law_spoilt" s_law_spoilt [] []) (D_law_any_word : DfG K mg "_law_any_word" s_law_any_word [] []) (D_law_any_index : DfG K mg "_law_any_index" s_law_any_index [] []) (D_law_any_count : DfG K mg "_law_any_count" s_law_any_count [] []) (D_law_any_places : DfG K mg "_law_any_places" s_law_any_places [] []) (D_law_any_sign : DfG K mg "_law_any_sign" s_law_any_sign [] []) (D_law_is_digits : DfG K mg "_law_is_digits" s_law_is_digits [] []) (D_law_is_word : DfG K mg "_law_is_word" s_law_is_word [] []) (D_law_is_kind : DfG K mg "_law_is_kind" s_law_is_kind [] []) (D_law_descends : DfG K mg "_law_descends" s_law_descends [] []) (D_law_due_move : DfG K mg "_law_due_move" s_law_due_move [] []) (D_law_due : DfG K mg "_law_due" s_law_due [] []) (D_law_is_full : DfG K mg "_law_is_full" s_law_is_full [] []) (D_law_call_text : DfG K mg "_law_call_text" s_law_call_text [] []) (D_law_call : DfG K mg "_law_call" s_law_call [] []) (D_law_told : DfG K mg "_law_told" s_law_told [] []) (D_law_call_kept : DfG K mg "_law_call_kept" s_law_call_kept [] []) (D_law_texts_kept : DfG K mg "_law_texts_kept" s_law_texts_kept [] []) (D_law_any_depths : DfG K mg "_law_any_depths" s_law_any_depths [] []) (D_law_moves_kept : DfG K mg "_law_moves_kept" s_law_moves_kept [] []) (D_law_rows_kept : DfG K mg "_law_rows_kept" s_law_rows_kept [] []) (D_law_kind_kept : DfG K mg "_law_kind_kept" s_law_kind_kept [] []) (D_law : DfG K mg "law" s_law [] []) :
    ∃ fd : FuncData, (∀ (s : Shared) (u : Value), BindsTo s fd ⟨[u], []⟩ [("_law_script", u)]) ∧ ∀ base : Heap, K.In base → base.Ns mainGlobals mg → FnOk l.prog w K mg base CX0 19 fa fd ["_law_script"] (spLaw K) := by
  obtain ⟨f, fd, h1, F⟩ := D_law.ex
  have e := hfa.symm.trans h1
  cases e
  refine ⟨fd, fun s u => F.bindsA (ps := ["_law_script"]) (fun _ _ _ _ _ _ us hl => match us, hl with | [_], _ => rfl) s [u] rfl, fun base _ _ => ?_⟩
  have C_law_box : ClG CX0 l.prog w K mg base 3 "_law_box" s_law_box ["_law_script"] [] [] (spBox K) := cl_law_box T Z D_law_box 
  have C_law_take : ClG CX0 l.prog w K mg base 3 "_law_take" s_law_take ["_law_box_here", "_law_size"] [] [] spTake := cl_law_take T Z D_law_take 
  have C_at_least : ClG CX0 l.prog w K mg base 3 "at_least" s_at_least ["value", "least", "field"] [] [] spAtLeast := cl_at_least T Z D_at_least 
  have C_at_most : ClG CX0 l.prog w K mg base 3 "at_most" s_at_most ["value", "most", "field"] [] [] spAtMost := cl_at_most T Z D_at_most 
  have C_whole_number : ClG CX0 l.prog w K mg base 3 "whole_number" s_whole_number ["value", "field"] [] [] spWhole := cl_whole_number T Z D_whole_number 
  have C_good_word : ClG CX0 l.prog w K mg base 3 "good_word" s_good_word ["word", "field"] [] [] spGood := cl_good_word T Z D_good_word 
  have C_trimmed : ClG CX0 l.prog w K mg base 3 "_trimmed" s_trimmed ["text"] [] [] spTrim := cl_trimmed T Z D_trimmed 
  have C_ones : ClG CX0 l.prog w K mg base 3 "_ones" s_ones ["word"] [] [] spOnes := cl_ones T Z D_ones 
  have C_depth_list : ClG CX0 l.prog w K mg base 3 "_depth_list" s_depth_list ["word"] [] [] spDeps := cl_depth_list T Z D_depth_list 
  have C_at_least_X : ClG (L2.CX l.prog w) l.prog w K mg base 3 "at_least" s_at_least_X ["value", "least", "field"] [] [] (spAtlX c_InvalidInput) := cl_at_least_X T Z D_at_least_X 
  have C_at_most_X : ClG (L2.CX l.prog w) l.prog w K mg base 3 "at_most" s_at_most_X ["value", "most", "field"] [] [] (spAtmX c_InvalidInput) := cl_at_most_X T Z D_at_most_X 
  have C_good_word_X : ClG (L2.CX l.prog w) l.prog w K mg base 3 "good_word" s_good_word_X ["word", "field"] [] [] (spGw c_InvalidInput) := cl_good_word_X T Z D_good_word_X 
  have C_released : ClG CX0 l.prog w K mg base 5 "_released" s_released ["word", "index"] [] [] spRelN := cl_released T Z D_released C_trimmed C_depth_list
  have C_carried : ClG CX0 l.prog w K mg base 5 "_carried" s_carried ["word", "places"] [] [] spCar := cl_carried T Z D_carried C_trimmed
  have C_carried_often : ClG CX0 l.prog w K mg base 7 "_carried_often" s_carried_often ["word", "count", "places"] [] [] spCarN := cl_carried_often T Z D_carried_often C_carried
  have C_appended : ClG (L2.CX l.prog w) l.prog w K mg base 5 "_appended" s_appended ["word", "places", "record"] [] [] (spApp c_NoPlace) := cl_appended T Z D_appended C_trimmed
  have C_release : ClG CX0 l.prog w K mg base 7 "release" s_release ["word", "index"] [] [] spRelease := cl_release T Z D_release C_released C_at_most C_ones C_at_least C_good_word
  have C_carry : ClG CX0 l.prog w K mg base 7 "carry" s_carry ["word", "places"] [] [] spCarry := cl_carry T Z D_carry C_carried C_at_least C_good_word
  have C_carries : ClG CX0 l.prog w K mg base 9 "carries" s_carries ["word", "count", "places"] [] [] spCarries := cl_carries T Z D_carries C_carried_often C_at_least C_good_word
  have C_append_record : ClG (L2.CX l.prog w) l.prog w K mg base 7 "append_record" s_append_record ["word", "places", "record"] [.str "1"] [] (spAppR c_NoPlace) := cl_append_record T Z D_append_record C_appended C_at_least C_good_word
  have C_step : ClG (L2.CX l.prog w) l.prog w K mg base 9 "step" s_step ["word", "index", "count", "places", "late"] [] [("late", .bl false)] (spStep c_NoPlace) := cl_step T Z D_step C_appended C_carried_often C_ones C_released C_at_least C_at_most C_good_word
  have C_normal : ClG CX0 l.prog w K mg base 5 "normal" s_normal ["text"] [] [] spNormal := cl_normal T Z D_normal C_trimmed
  have C_living : ClG CX0 l.prog w K mg base 5 "living" s_living ["word"] [] [] spLiving := cl_living T Z D_living C_ones C_good_word
  have C_depths : ClG CX0 l.prog w K mg base 5 "depths" s_depths ["word"] [] [] spDepths := cl_depths T Z D_depths C_depth_list C_good_word
  have C_newest : ClG CX0 l.prog w K mg base 5 "newest" s_newest ["word"] [] [] spNewest := cl_newest T Z D_newest C_ones C_good_word
  have C_best_word : ClG CX0 l.prog w K mg base 5 "best_word" s_best_word ["count"] [] [] spBest := cl_best_word T Z D_best_word C_at_least
  have C_worst_word : ClG CX0 l.prog w K mg base 5 "worst_word" s_worst_word ["count", "length"] [] [] spWorst := cl_worst_word T Z D_worst_word C_at_most C_at_least
  have C_word_of : ClG CX0 l.prog w K mg base 5 "word_of" s_word_of ["depths"] [] [] (spWordOf K) := cl_word_of T Z D_word_of C_whole_number
  have C_dominates : ClG CX0 l.prog w K mg base 5 "dominates" s_dominates ["first", "second"] [] [] spDom := cl_dominates T Z D_dominates C_depth_list C_good_word
  have C_normal_X : ClG (L2.CX l.prog w) l.prog w K mg base 3 "normal" s_normal_X ["text"] [] [] (spNoX c_InvalidInput) := cl_normal_X T Z D_normal_X 
  have C_living_X : ClG (L2.CX l.prog w) l.prog w K mg base 5 "living" s_living_X ["word"] [] [] (spWX c_InvalidInput "word") := cl_living_X T Z D_living_X C_good_word_X
  have C_depths_X : ClG (L2.CX l.prog w) l.prog w K mg base 5 "depths" s_depths_X ["word"] [] [] (spWX c_InvalidInput "word") := cl_depths_X T Z D_depths_X C_good_word_X
  have C_newest_X : ClG (L2.CX l.prog w) l.prog w K mg base 5 "newest" s_newest_X ["word"] [] [] (spWX c_InvalidInput "word") := cl_newest_X T Z D_newest_X C_good_word_X
  have C_release_X : ClG (L2.CX l.prog w) l.prog w K mg base 5 "release" s_release_X ["word", "index"] [] [] (spRlX c_InvalidInput) := cl_release_X T Z D_release_X C_at_most_X C_ones C_at_least_X C_good_word_X
  have C_carry_X : ClG (L2.CX l.prog w) l.prog w K mg base 5 "carry" s_carry_X ["word", "places"] [] [] (spCyX c_InvalidInput) := cl_carry_X T Z D_carry_X C_at_least_X C_good_word_X
  have C_carries_X : ClG (L2.CX l.prog w) l.prog w K mg base 5 "carries" s_carries_X ["word", "count", "places"] [] [] (spCsX c_InvalidInput) := cl_carries_X T Z D_carries_X C_at_least_X C_good_word_X
  have C_append_record_X : ClG (L2.CX l.prog w) l.prog w K mg base 5 "append_record" s_append_record_X ["word", "places", "record"] [.str "1"] [] (spApX c_InvalidInput) := cl_append_record_X T Z D_append_record_X C_at_least_X C_good_word_X
  have C_step_X : ClG (L2.CX l.prog w) l.prog w K mg base 5 "step" s_step_X ["word", "index", "count", "places", "late"] [] [("late", .bl false)] (spStX c_InvalidInput) := cl_step_X T Z D_step_X C_at_least_X C_at_most_X C_ones C_good_word_X
  have C_dominates_X : ClG (L2.CX l.prog w) l.prog w K mg base 5 "dominates" s_dominates_X ["first", "second"] [] [] (spDmX c_InvalidInput) := cl_dominates_X T Z D_dominates_X C_good_word_X
  have C_best_word_X : ClG (L2.CX l.prog w) l.prog w K mg base 5 "best_word" s_best_word_X ["count"] [] [] (spBsX c_InvalidInput) := cl_best_word_X T Z D_best_word_X C_at_least_X
  have C_worst_word_X : ClG (L2.CX l.prog w) l.prog w K mg base 5 "worst_word" s_worst_word_X ["count", "length"] [] [] (spWsX c_InvalidInput) := cl_worst_word_X T Z D_worst_word_X C_at_most_X C_at_least_X
  have C_whole_number_X : ClG (L2.CX l.prog w) l.prog w K mg base 3 "whole_number" s_whole_number_X ["value", "field"] [] [] (spWhX c_InvalidInput) := cl_whole_number_X T Z D_whole_number_X 
  have C_word_of_X : ClG (L2.CX l.prog w) l.prog w K mg base 5 "word_of" s_word_of_X ["depths"] [] [] (spWoX c_InvalidInput K) := cl_word_of_X T Z D_word_of_X C_whole_number_X
  have C_normal_J : ClG (L2.CX l.prog w) l.prog w K mg base 5 "normal" s_normal_J ["text"] [] [] (Gx.spOr spNormal (spNoX c_InvalidInput)) := cl_normal_J T Z D_normal_J C_normal C_normal_X
  have C_living_J : ClG (L2.CX l.prog w) l.prog w K mg base 5 "living" s_living_J ["word"] [] [] (Gx.spOr spLiving (spWX c_InvalidInput "word")) := cl_living_J T Z D_living_J C_living C_living_X
  have C_depths_J : ClG (L2.CX l.prog w) l.prog w K mg base 5 "depths" s_depths_J ["word"] [] [] (Gx.spOr spDepths (spWX c_InvalidInput "word")) := cl_depths_J T Z D_depths_J C_depths C_depths_X
  have C_newest_J : ClG (L2.CX l.prog w) l.prog w K mg base 5 "newest" s_newest_J ["word"] [] [] (Gx.spOr spNewest (spWX c_InvalidInput "word")) := cl_newest_J T Z D_newest_J C_newest C_newest_X
  have C_release_J : ClG (L2.CX l.prog w) l.prog w K mg base 7 "release" s_release_J ["word", "index"] [] [] (Gx.spOr spRelease (spRlX c_InvalidInput)) := cl_release_J T Z D_release_J C_release C_release_X
  have C_carry_J : ClG (L2.CX l.prog w) l.prog w K mg base 7 "carry" s_carry_J ["word", "places"] [] [] (Gx.spOr spCarry (spCyX c_InvalidInput)) := cl_carry_J T Z D_carry_J C_carry C_carry_X
  have C_carries_J : ClG (L2.CX l.prog w) l.prog w K mg base 9 "carries" s_carries_J ["word", "count", "places"] [] [] (Gx.spOr spCarries (spCsX c_InvalidInput)) := cl_carries_J T Z D_carries_J C_carries C_carries_X
  have C_append_record_J : ClG (L2.CX l.prog w) l.prog w K mg base 7 "append_record" s_append_record_J ["word", "places", "record"] [.str "1"] [] (Gx.spOr (spAppR c_NoPlace) (spApX c_InvalidInput)) := cl_append_record_J T Z D_append_record_J C_append_record C_append_record_X
  have C_step_J : ClG (L2.CX l.prog w) l.prog w K mg base 9 "step" s_step_J ["word", "index", "count", "places", "late"] [] [("late", .bl false)] (Gx.spOr (spStep c_NoPlace) (spStX c_InvalidInput)) := cl_step_J T Z D_step_J C_step C_step_X
  have C_dominates_J : ClG (L2.CX l.prog w) l.prog w K mg base 5 "dominates" s_dominates_J ["first", "second"] [] [] (Gx.spOr spDom (spDmX c_InvalidInput)) := cl_dominates_J T Z D_dominates_J C_dominates C_dominates_X
  have C_best_word_J : ClG (L2.CX l.prog w) l.prog w K mg base 5 "best_word" s_best_word_J ["count"] [] [] (Gx.spOr spBest (spBsX c_InvalidInput)) := cl_best_word_J T Z D_best_word_J C_best_word C_best_word_X
  have C_worst_word_J : ClG (L2.CX l.prog w) l.prog w K mg base 5 "worst_word" s_worst_word_J ["count", "length"] [] [] (Gx.spOr spWorst (spWsX c_InvalidInput)) := cl_worst_word_J T Z D_worst_word_J C_worst_word C_worst_word_X
  have C_word_of_J : ClG (L2.CX l.prog w) l.prog w K mg base 5 "word_of" s_word_of_J ["depths"] [] [] (Gx.spOr (spWordOf K) (spWoX c_InvalidInput K)) := cl_word_of_J T Z D_word_of_J C_word_of C_word_of_X
  have C_law_bits : ClG CX0 l.prog w K mg base 5 "_law_bits" s_law_bits ["_law_box_here", "_law_size"] [] [] spBits := cl_law_bits T Z D_law_bits C_law_take
  have C_law_word : ClG CX0 l.prog w K mg base 7 "_law_word" s_law_word ["_law_box_here", "_law_most"] [] [] spWord := cl_law_word T Z D_law_word C_law_take C_law_bits
  have C_law_depths : ClG CX0 l.prog w K mg base 3 "_law_depths" s_law_depths ["_law_word_here"] [] [] spDeU := cl_law_depths T Z D_law_depths 
  have C_law_is_integer : ClG CX0 l.prog w K mg base 3 "_law_is_integer" s_law_is_integer ["_law_told_here"] [] [] spIit := cl_law_is_integer T Z D_law_is_integer 
  have C_law_bad : ClG CX0 l.prog w K mg base 5 "_law_bad" s_law_bad ["_law_box_here"] [] [] spBad := cl_law_bad T Z D_law_bad C_law_take
  have C_law_below : ClG CX0 l.prog w K mg base 5 "_law_below" s_law_below ["_law_box_here"] [] [] spBelow := cl_law_below T Z D_law_below C_law_take
  have C_law_spoilt : ClG CX0 l.prog w K mg base 5 "_law_spoilt" s_law_spoilt ["_law_box_here", "_law_word_here"] [] [] spSpo := cl_law_spoilt T Z D_law_spoilt C_law_take
  have C_law_any_word : ClG CX0 l.prog w K mg base 9 "_law_any_word" s_law_any_word ["_law_box_here"] [] [] spAny := cl_law_any_word T Z D_law_any_word C_law_spoilt C_law_take C_law_bad C_law_word
  have C_law_any_index : ClG CX0 l.prog w K mg base 7 "_law_any_index" s_law_any_index ["_law_box_here", "_law_many"] [] [] spAix := cl_law_any_index T Z D_law_any_index C_law_take C_law_below C_law_bad
  have C_law_any_count : ClG CX0 l.prog w K mg base 7 "_law_any_count" s_law_any_count ["_law_box_here", "_law_most"] [] [] spAct := cl_law_any_count T Z D_law_any_count C_law_take C_law_bad C_law_below
  have C_law_any_places : ClG CX0 l.prog w K mg base 7 "_law_any_places" s_law_any_places ["_law_box_here", "_law_size"] [] [] spApl := cl_law_any_places T Z D_law_any_places C_law_below C_law_take C_law_bad
  have C_law_any_sign : ClG CX0 l.prog w K mg base 7 "_law_any_sign" s_law_any_sign ["_law_box_here"] [] [] spSgn := cl_law_any_sign T Z D_law_any_sign C_law_take C_law_bad
  have C_law_is_digits : ClG CX0 l.prog w K mg base 3 "_law_is_digits" s_law_is_digits ["_law_text"] [] [] spDig := cl_law_is_digits T Z D_law_is_digits 
  have C_law_is_word : ClG CX0 l.prog w K mg base 5 "_law_is_word" s_law_is_word ["_law_text"] [] [] spIsw := cl_law_is_word T Z D_law_is_word C_law_is_digits
  have C_law_is_kind : ClG CX0 l.prog w K mg base 5 "_law_is_kind" s_law_is_kind ["_law_told_here", "_law_way"] [] [] spKind := cl_law_is_kind T Z D_law_is_kind C_law_is_integer
  have C_law_descends : ClG CX0 l.prog w K mg base 3 "_law_descends" s_law_descends ["_law_row"] [] [] (spDsc K) := cl_law_descends T Z D_law_descends 
  have C_law_due_move : ClG CX0 l.prog w K mg base 5 "_law_due_move" s_law_due_move ["_law_way", "_law_word_here", "_law_index", "_law_count", "_law_places", "_law_sign"] [] [] (spDmv K) := cl_law_due_move T Z D_law_due_move C_law_depths
  have C_law_due : ClG CX0 l.prog w K mg base 7 "_law_due" s_law_due ["_law_way", "_law_word_here", "_law_index", "_law_count", "_law_places", "_law_sign"] [] [] (spDue K) := cl_law_due T Z D_law_due C_law_due_move C_law_depths C_law_is_word C_law_is_digits C_law_descends
  have C_law_is_full : ClG CX0 l.prog w K mg base 5 "_law_is_full" s_law_is_full ["_law_way", "_law_word_here", "_law_index", "_law_places", "_law_sign"] [] [] spFul := cl_law_is_full T Z D_law_is_full C_law_depths
  have C_law_call_text : ClG (L2.CX l.prog w) l.prog w K mg base 7 "_law_call_text" s_law_call_text ["_law_way", "_law_word_here"] [] [] (spTxt c_InvalidInput) := cl_law_call_text T Z D_law_call_text C_newest_J C_depths_J C_living_J C_normal_J
  have C_law_call : ClG (L2.CX l.prog w) l.prog w K mg base 11 "_law_call" s_law_call ["_law_way", "_law_word_here", "_law_index", "_law_count", "_law_places", "_law_sign"] [] [] (spCal c_InvalidInput c_NoPlace K (fun _ => True)) := cl_law_call T Z D_law_call C_law_call_text C_word_of_J C_worst_word_J C_best_word_J C_dominates_J C_step_J C_append_record_J C_carries_J C_carry_J C_release_J
  have C_law_told : ClG CX0 l.prog w K mg base 13 "_law_told" s_law_told ["_law_way", "_law_word_here", "_law_index", "_law_count", "_law_places", "_law_sign"] [] [] (spTold K) := cl_law_told T Z D_law_told C_law_call
  have C_law_call_kept : ClG CX0 l.prog w K mg base 15 "_law_call_kept" s_law_call_kept ["_law_way", "_law_word_here", "_law_index", "_law_count", "_law_places", "_law_sign"] [] [] (spKept K) := cl_law_call_kept T Z D_law_call_kept C_law_is_kind C_law_is_integer C_law_told C_law_is_full C_law_due
  have C_law_texts_kept : ClG CX0 l.prog w K mg base 17 "_law_texts_kept" s_law_texts_kept ["_law_box_here"] [] [] spTks := cl_law_texts_kept T Z D_law_texts_kept C_law_call_kept C_law_bad C_law_spoilt C_law_take C_law_word C_law_any_word
  have C_law_any_depths : ClG CX0 l.prog w K mg base 9 "_law_any_depths" s_law_any_depths ["_law_box_here"] [] [] spAdp := cl_law_any_depths T Z D_law_any_depths C_law_take C_law_below C_law_bad C_law_depths C_law_word
  have C_law_moves_kept : ClG CX0 l.prog w K mg base 17 "_law_moves_kept" s_law_moves_kept ["_law_box_here"] [] [] spRws := cl_law_moves_kept T Z D_law_moves_kept C_law_call_kept C_law_any_places C_law_any_count C_law_take C_law_any_sign C_law_any_index C_law_depths C_law_any_word
  have C_law_rows_kept : ClG CX0 l.prog w K mg base 17 "_law_rows_kept" s_law_rows_kept ["_law_box_here"] [] [] spRos := cl_law_rows_kept T Z D_law_rows_kept C_law_call_kept C_law_bad C_law_below C_law_take C_law_any_count C_law_any_depths
  have C_law_kind_kept : ClG CX0 l.prog w K mg base 7 "_law_kind_kept" s_law_kind_kept ["_law_row"] [] [] (spKnd K) := cl_law_kind_kept T Z D_law_kind_kept C_word_of_X
  exact ok_law T Z F C_law_kind_kept C_law_call_kept C_law_any_word C_law_moves_kept C_law_rows_kept C_law_texts_kept C_law_box
theorem walk {l : PySem.W.OpenLaw} {q : Program} {loose : List Str} {XP : (Str → Option Value) → Heap → Prop} {YP : World → Heap → Prop} {d : DefRec} {K : Params → PySem.W.Frag} (hn : l.most = some 63) (hdf : d.params.defaults = [])
    (hY : ∀ (w : World) (h : Heap), YP w h → (K w.params).In h)
    (F : ∀ (w : World) (mg : Str → Option Value) (fa : Addr) (h : Heap), (K w.params).In h → h.Ns mainGlobals mg → mg d.name = some (.ref fa) →
      ∃ fd : FuncData, (∀ (s : Shared) (u : Value), BindsTo s fd ⟨[u], []⟩ [("_law_script", u)]) ∧ ∀ base : Heap, (K w.params).In base → base.Ns mainGlobals mg → FnOk l.prog w (K w.params) mg base CX0 19 fa fd ["_law_script"] (spLaw (K w.params))) :
    PySem.W.WalkO q loose XP YP l.row.toRowW d [] (fun f vs => PySem.call f vs) :=
  L2.walk_ofB (n := 63) (k := 19) (x := "_law_script") (CX := fun _ => CX0) (sp := fun w => spLaw (K w.params)) hn (by decide) hdf ⟨rfl, by decide, by decide⟩ hY F (fun _ _ a ns hl hb _ hS => ⟨a, ns, rfl, hS, hl, hb, fun _ => rfl⟩) fun _ _ _ _ _ z => z
end Toy
open PySem PySem.W PyProof.Rows in
set_option maxRecDepth 100000 in
set_option maxHeartbeats 0 in
theorem PySem.Challenge.cw_carrylog_k11_word_refusals_holds : PySem.Challenge.rw_carrylog_k11_word_refusals.Holds := by
  w_on; o_law; k_head; (case hw => w_witness2)
  k_fill
  refine Toy.walk (l := PySem.Challenge.rw_carrylog_k11_word_refusals) rfl rfl (fun w h Y => PySem.W.kIn_of Y) ?F
  case F =>
    intro w mg fa h KX G hmg
    refine' Toy.all_mk KX G hmg ?T ?Z ?d0 ?d1 ?d2 ?d3 ?d4 ?d5 ?d6 ?d7 ?d8 ?d9 ?d10 ?d11 ?d12 ?d13 ?d14 ?d15 ?d16 ?d17 ?d18 ?d19 ?d20 ?d21 ?d22 ?d23 ?d24 ?d25 ?d26 ?d27 ?d28 ?d29 ?d30 ?d31 ?d32 ?d33 ?d34 ?d35 ?d36 ?d37 ?d38 ?d39 ?d40 ?d41 ?d42 ?d43 ?d44 ?d45 ?d46 ?d47 ?d48 ?d49 ?d50 ?d51 ?d52 ?d53 ?d54 ?d55 ?d56 ?d57 ?d58 ?d59 ?d60 ?d61 ?d62 ?d63 ?d64 ?d65 ?d66 ?d67 ?d68 ?d69 ?d70 ?d71 ?d72 ?d73 ?d74 ?d75 ?d76 ?d77 ?d78 ?d79 ?d80 ?d81 ?d82 ?d83 ?d84
    case T =>
      constructor
      all_goals (refine PySem.W.mg_none_of KX G ?_; k_is)
    (case d0 => (refine' Gx.dfg_mk KX G ?zza ?zzl ?zzc ?zzk ?zzd ?zzq; (case zza => k_is); (case zzl => k_is); (case zzc => k_is); (case zzk => k_is); (case zzd => exact .inl ⟨rfl, rfl⟩); (case zzq => exact .inl rfl)))
    (case d1 => (refine' Gx.dfg_mk KX G ?zza ?zzl ?zzc ?zzk ?zzd ?zzq; (case zza => k_is); (case zzl => k_is); (case zzc => k_is); (case zzk => k_is); (case zzd => exact .inl ⟨rfl, rfl⟩); (case zzq => exact .inl rfl)))
    (case d2 => (refine' Gx.dfg_mk KX G ?zza ?zzl ?zzc ?zzk ?zzd ?zzq; (case zza => k_is); (case zzl => k_is); (case zzc => k_is); (case zzk => k_is); (case zzd => exact .inl ⟨rfl, rfl⟩); (case zzq => exact .inl rfl)))
    (case d3 => (refine' Gx.dfg_mk KX G ?zza ?zzl ?zzc ?zzk ?zzd ?zzq; (case zza => k_is); (case zzl => k_is); (case zzc => k_is); (case zzk => k_is); (case zzd => exact .inl ⟨rfl, rfl⟩); (case zzq => exact .inl rfl)))
    (case d4 => (refine' Gx.dfg_mk KX G ?zza ?zzl ?zzc ?zzk ?zzd ?zzq; (case zza => k_is); (case zzl => k_is); (case zzc => k_is); (case zzk => k_is); (case zzd => exact .inl ⟨rfl, rfl⟩); (case zzq => exact .inl rfl)))
    (case d5 => (refine' Gx.dfg_mk KX G ?zza ?zzl ?zzc ?zzk ?zzd ?zzq; (case zza => k_is); (case zzl => k_is); (case zzc => k_is); (case zzk => k_is); (case zzd => exact .inl ⟨rfl, rfl⟩); (case zzq => exact .inl rfl)))
    (case d6 => (refine' Gx.dfg_mk KX G ?zza ?zzl ?zzc ?zzk ?zzd ?zzq; (case zza => k_is); (case zzl => k_is); (case zzc => k_is); (case zzk => k_is); (case zzd => exact .inl ⟨rfl, rfl⟩); (case zzq => exact .inl rfl)))
    (case d7 => (refine' Gx.dfg_mk KX G ?zza ?zzl ?zzc ?zzk ?zzd ?zzq; (case zza => k_is); (case zzl => k_is); (case zzc => k_is); (case zzk => k_is); (case zzd => exact .inl ⟨rfl, rfl⟩); (case zzq => exact .inl rfl)))
    (case d8 => (refine' Gx.dfg_mk KX G ?zza ?zzl ?zzc ?zzk ?zzd ?zzq; (case zza => k_is); (case zzl => k_is); (case zzc => k_is); (case zzk => k_is); (case zzd => exact .inl ⟨rfl, rfl⟩); (case zzq => exact .inl rfl)))
    (case d9 => (refine' Gx.dfg_mk KX G ?zza ?zzl ?zzc ?zzk ?zzd ?zzq; (case zza => k_is); (case zzl => k_is); (case zzc => k_is); (case zzk => k_is); (case zzd => exact .inl ⟨rfl, rfl⟩); (case zzq => exact .inl rfl)))
    (case d10 => (refine' Gx.dfg_mk KX G ?zza ?zzl ?zzc ?zzk ?zzd ?zzq; (case zza => k_is); (case zzl => k_is); (case zzc => k_is); (case zzk => k_is); (case zzd => exact .inl ⟨rfl, rfl⟩); (case zzq => exact .inl rfl)))
    (case d11 => (refine' Gx.dfg_mk KX G ?zza ?zzl ?zzc ?zzk ?zzd ?zzq; (case zza => k_is); (case zzl => k_is); (case zzc => k_is); (case zzk => k_is); (case zzd => exact .inl ⟨rfl, rfl⟩); (case zzq => exact .inl rfl)))
    (case d12 => (refine' Gx.dfg_mk KX G ?zza ?zzl ?zzc ?zzk ?zzd ?zzq; (case zza => k_is); (case zzl => k_is); (case zzc => k_is); (case zzk => k_is); (case zzd => exact .inl ⟨rfl, rfl⟩); (case zzq => exact .inl rfl)))
    (case d13 => (refine' Gx.dfg_mk KX G ?zza ?zzl ?zzc ?zzk ?zzd ?zzq; (case zza => k_is); (case zzl => k_is); (case zzc => k_is); (case zzk => k_is); (case zzd => exact .inl ⟨rfl, rfl⟩); (case zzq => exact .inl rfl)))
    (case d14 => (refine' Gx.dfg_mk KX G ?zza ?zzl ?zzc ?zzk ?zzd ?zzq; (case zza => k_is); (case zzl => k_is); (case zzc => k_is); (case zzk => k_is); (case zzd => exact .inl ⟨rfl, rfl⟩); (case zzq => exact .inl rfl)))
    (case d15 => (refine' Gx.dfg_mk KX G ?zza ?zzl ?zzc ?zzk ?zzd ?zzq; (case zza => k_is); (case zzl => k_is); (case zzc => k_is); (case zzk => k_is); (case zzd => exact .inl ⟨rfl, rfl⟩); (case zzq => exact .inl rfl)))
    (case d16 => (refine' Gx.dfg_mk KX G ?zza ?zzl ?zzc ?zzk ?zzd ?zzq; (case zza => k_is); (case zzl => k_is); (case zzc => k_is); (case zzk => k_is); (case zzd => exact .inl ⟨rfl, rfl⟩); (case zzq => exact .inl rfl)))
    (case d17 => (refine' Gx.dfg_mk KX G ?zza ?zzl ?zzc ?zzk ?zzd ?zzq; (case zza => k_is); (case zzl => k_is); (case zzc => k_is); (case zzk => k_is); (case zzd => exact .inl ⟨rfl, rfl⟩); (case zzq => exact .inl rfl)))
    (case d18 => (refine' Gx.dfg_mk KX G ?zza ?zzl ?zzc ?zzk ?zzd ?zzq; (case zza => k_is); (case zzl => k_is); (case zzc => k_is); (case zzk => k_is); (case zzd => exact .inl ⟨rfl, rfl⟩); (case zzq => exact .inl rfl)))
    (case d19 => (refine' Gx.dfg_mk KX G ?zza ?zzl ?zzc ?zzk ?zzd ?zzq; (case zza => k_is); (case zzl => k_is); (case zzc => k_is); (case zzk => k_is); (case zzd => (refine' Gx.dfl1 ?zzla ?zzlv0; (case zzla => k_is); (case zzlv0 => exact ⟨_, rfl⟩))); (case zzq => exact .inl rfl)))
    (case d20 => (refine' Gx.dfg_mk KX G ?zza ?zzl ?zzc ?zzk ?zzd ?zzq; (case zza => k_is); (case zzl => k_is); (case zzc => k_is); (case zzk => k_is); (case zzd => exact .inl ⟨rfl, rfl⟩); (case zzq => (refine .inr ⟨_, rfl, ?_⟩; intro q hq; rcases List.mem_cons.mp hq with rfl | hq; exact ⟨_, by k_is, rfl⟩; cases hq))))
    (case d21 => (refine' Gx.dfg_mk KX G ?zza ?zzl ?zzc ?zzk ?zzd ?zzq; (case zza => k_is); (case zzl => k_is); (case zzc => k_is); (case zzk => k_is); (case zzd => exact .inl ⟨rfl, rfl⟩); (case zzq => exact .inl rfl)))
    (case d22 => (refine' Gx.dfg_mk KX G ?zza ?zzl ?zzc ?zzk ?zzd ?zzq; (case zza => k_is); (case zzl => k_is); (case zzc => k_is); (case zzk => k_is); (case zzd => exact .inl ⟨rfl, rfl⟩); (case zzq => exact .inl rfl)))
    (case d23 => (refine' Gx.dfg_mk KX G ?zza ?zzl ?zzc ?zzk ?zzd ?zzq; (case zza => k_is); (case zzl => k_is); (case zzc => k_is); (case zzk => k_is); (case zzd => exact .inl ⟨rfl, rfl⟩); (case zzq => exact .inl rfl)))
    (case d24 => (refine' Gx.dfg_mk KX G ?zza ?zzl ?zzc ?zzk ?zzd ?zzq; (case zza => k_is); (case zzl => k_is); (case zzc => k_is); (case zzk => k_is); (case zzd => exact .inl ⟨rfl, rfl⟩); (case zzq => exact .inl rfl)))
    (case d25 => (refine' Gx.dfg_mk KX G ?zza ?zzl ?zzc ?zzk ?zzd ?zzq; (case zza => k_is); (case zzl => k_is); (case zzc => k_is); (case zzk => k_is); (case zzd => exact .inl ⟨rfl, rfl⟩); (case zzq => exact .inl rfl)))
    (case d26 => (refine' Gx.dfg_mk KX G ?zza ?zzl ?zzc ?zzk ?zzd ?zzq; (case zza => k_is); (case zzl => k_is); (case zzc => k_is); (case zzk => k_is); (case zzd => exact .inl ⟨rfl, rfl⟩); (case zzq => exact .inl rfl)))
    (case d27 => (refine' Gx.dfg_mk KX G ?zza ?zzl ?zzc ?zzk ?zzd ?zzq; (case zza => k_is); (case zzl => k_is); (case zzc => k_is); (case zzk => k_is); (case zzd => exact .inl ⟨rfl, rfl⟩); (case zzq => exact .inl rfl)))
    (case d28 => (refine' Gx.dfg_mk KX G ?zza ?zzl ?zzc ?zzk ?zzd ?zzq; (case zza => k_is); (case zzl => k_is); (case zzc => k_is); (case zzk => k_is); (case zzd => exact .inl ⟨rfl, rfl⟩); (case zzq => exact .inl rfl)))
    (case d29 => (refine' Gx.dfg_mk KX G ?zza ?zzl ?zzc ?zzk ?zzd ?zzq; (case zza => k_is); (case zzl => k_is); (case zzc => k_is); (case zzk => k_is); (case zzd => exact .inl ⟨rfl, rfl⟩); (case zzq => exact .inl rfl)))
    (case d30 => (refine' Gx.dfg_mk KX G ?zza ?zzl ?zzc ?zzk ?zzd ?zzq; (case zza => k_is); (case zzl => k_is); (case zzc => k_is); (case zzk => k_is); (case zzd => exact .inl ⟨rfl, rfl⟩); (case zzq => exact .inl rfl)))
    (case d31 => (refine' Gx.dfg_mk KX G ?zza ?zzl ?zzc ?zzk ?zzd ?zzq; (case zza => k_is); (case zzl => k_is); (case zzc => k_is); (case zzk => k_is); (case zzd => exact .inl ⟨rfl, rfl⟩); (case zzq => exact .inl rfl)))
    (case d32 => (refine' Gx.dfg_mk KX G ?zza ?zzl ?zzc ?zzk ?zzd ?zzq; (case zza => k_is); (case zzl => k_is); (case zzc => k_is); (case zzk => k_is); (case zzd => exact .inl ⟨rfl, rfl⟩); (case zzq => exact .inl rfl)))
    (case d33 => (refine' Gx.dfg_mk KX G ?zza ?zzl ?zzc ?zzk ?zzd ?zzq; (case zza => k_is); (case zzl => k_is); (case zzc => k_is); (case zzk => k_is); (case zzd => exact .inl ⟨rfl, rfl⟩); (case zzq => exact .inl rfl)))
    (case d34 => (refine' Gx.dfg_mk KX G ?zza ?zzl ?zzc ?zzk ?zzd ?zzq; (case zza => k_is); (case zzl => k_is); (case zzc => k_is); (case zzk => k_is); (case zzd => exact .inl ⟨rfl, rfl⟩); (case zzq => exact .inl rfl)))
    (case d35 => (refine' Gx.dfg_mk KX G ?zza ?zzl ?zzc ?zzk ?zzd ?zzq; (case zza => k_is); (case zzl => k_is); (case zzc => k_is); (case zzk => k_is); (case zzd => exact .inl ⟨rfl, rfl⟩); (case zzq => exact .inl rfl)))
    (case d36 => (refine' Gx.dfg_mk KX G ?zza ?zzl ?zzc ?zzk ?zzd ?zzq; (case zza => k_is); (case zzl => k_is); (case zzc => k_is); (case zzk => k_is); (case zzd => (refine' Gx.dfl1 ?zzla ?zzlv0; (case zzla => k_is); (case zzlv0 => exact ⟨_, rfl⟩))); (case zzq => exact .inl rfl)))
    (case d37 => (refine' Gx.dfg_mk KX G ?zza ?zzl ?zzc ?zzk ?zzd ?zzq; (case zza => k_is); (case zzl => k_is); (case zzc => k_is); (case zzk => k_is); (case zzd => exact .inl ⟨rfl, rfl⟩); (case zzq => (refine .inr ⟨_, rfl, ?_⟩; intro q hq; rcases List.mem_cons.mp hq with rfl | hq; exact ⟨_, by k_is, rfl⟩; cases hq))))
    (case d38 => (refine' Gx.dfg_mk KX G ?zza ?zzl ?zzc ?zzk ?zzd ?zzq; (case zza => k_is); (case zzl => k_is); (case zzc => k_is); (case zzk => k_is); (case zzd => exact .inl ⟨rfl, rfl⟩); (case zzq => exact .inl rfl)))
    (case d39 => (refine' Gx.dfg_mk KX G ?zza ?zzl ?zzc ?zzk ?zzd ?zzq; (case zza => k_is); (case zzl => k_is); (case zzc => k_is); (case zzk => k_is); (case zzd => exact .inl ⟨rfl, rfl⟩); (case zzq => exact .inl rfl)))
    (case d40 => (refine' Gx.dfg_mk KX G ?zza ?zzl ?zzc ?zzk ?zzd ?zzq; (case zza => k_is); (case zzl => k_is); (case zzc => k_is); (case zzk => k_is); (case zzd => exact .inl ⟨rfl, rfl⟩); (case zzq => exact .inl rfl)))
    (case d41 => (refine' Gx.dfg_mk KX G ?zza ?zzl ?zzc ?zzk ?zzd ?zzq; (case zza => k_is); (case zzl => k_is); (case zzc => k_is); (case zzk => k_is); (case zzd => exact .inl ⟨rfl, rfl⟩); (case zzq => exact .inl rfl)))
    (case d42 => (refine' Gx.dfg_mk KX G ?zza ?zzl ?zzc ?zzk ?zzd ?zzq; (case zza => k_is); (case zzl => k_is); (case zzc => k_is); (case zzk => k_is); (case zzd => exact .inl ⟨rfl, rfl⟩); (case zzq => exact .inl rfl)))
    (case d43 => (refine' Gx.dfg_mk KX G ?zza ?zzl ?zzc ?zzk ?zzd ?zzq; (case zza => k_is); (case zzl => k_is); (case zzc => k_is); (case zzk => k_is); (case zzd => exact .inl ⟨rfl, rfl⟩); (case zzq => exact .inl rfl)))
    (case d44 => (refine' Gx.dfg_mk KX G ?zza ?zzl ?zzc ?zzk ?zzd ?zzq; (case zza => k_is); (case zzl => k_is); (case zzc => k_is); (case zzk => k_is); (case zzd => exact .inl ⟨rfl, rfl⟩); (case zzq => exact .inl rfl)))
    (case d45 => (refine' Gx.dfg_mk KX G ?zza ?zzl ?zzc ?zzk ?zzd ?zzq; (case zza => k_is); (case zzl => k_is); (case zzc => k_is); (case zzk => k_is); (case zzd => exact .inl ⟨rfl, rfl⟩); (case zzq => exact .inl rfl)))
    (case d46 => (refine' Gx.dfg_mk KX G ?zza ?zzl ?zzc ?zzk ?zzd ?zzq; (case zza => k_is); (case zzl => k_is); (case zzc => k_is); (case zzk => k_is); (case zzd => exact .inl ⟨rfl, rfl⟩); (case zzq => exact .inl rfl)))
    (case d47 => (refine' Gx.dfg_mk KX G ?zza ?zzl ?zzc ?zzk ?zzd ?zzq; (case zza => k_is); (case zzl => k_is); (case zzc => k_is); (case zzk => k_is); (case zzd => exact .inl ⟨rfl, rfl⟩); (case zzq => exact .inl rfl)))
    (case d48 => (refine' Gx.dfg_mk KX G ?zza ?zzl ?zzc ?zzk ?zzd ?zzq; (case zza => k_is); (case zzl => k_is); (case zzc => k_is); (case zzk => k_is); (case zzd => exact .inl ⟨rfl, rfl⟩); (case zzq => exact .inl rfl)))
    (case d49 => (refine' Gx.dfg_mk KX G ?zza ?zzl ?zzc ?zzk ?zzd ?zzq; (case zza => k_is); (case zzl => k_is); (case zzc => k_is); (case zzk => k_is); (case zzd => exact .inl ⟨rfl, rfl⟩); (case zzq => exact .inl rfl)))
    (case d50 => (refine' Gx.dfg_mk KX G ?zza ?zzl ?zzc ?zzk ?zzd ?zzq; (case zza => k_is); (case zzl => k_is); (case zzc => k_is); (case zzk => k_is); (case zzd => (refine' Gx.dfl1 ?zzla ?zzlv0; (case zzla => k_is); (case zzlv0 => exact ⟨_, rfl⟩))); (case zzq => exact .inl rfl)))
    (case d51 => (refine' Gx.dfg_mk KX G ?zza ?zzl ?zzc ?zzk ?zzd ?zzq; (case zza => k_is); (case zzl => k_is); (case zzc => k_is); (case zzk => k_is); (case zzd => exact .inl ⟨rfl, rfl⟩); (case zzq => (refine .inr ⟨_, rfl, ?_⟩; intro q hq; rcases List.mem_cons.mp hq with rfl | hq; exact ⟨_, by k_is, rfl⟩; cases hq))))
    (case d52 => (refine' Gx.dfg_mk KX G ?zza ?zzl ?zzc ?zzk ?zzd ?zzq; (case zza => k_is); (case zzl => k_is); (case zzc => k_is); (case zzk => k_is); (case zzd => exact .inl ⟨rfl, rfl⟩); (case zzq => exact .inl rfl)))
    (case d53 => (refine' Gx.dfg_mk KX G ?zza ?zzl ?zzc ?zzk ?zzd ?zzq; (case zza => k_is); (case zzl => k_is); (case zzc => k_is); (case zzk => k_is); (case zzd => exact .inl ⟨rfl, rfl⟩); (case zzq => exact .inl rfl)))
    (case d54 => (refine' Gx.dfg_mk KX G ?zza ?zzl ?zzc ?zzk ?zzd ?zzq; (case zza => k_is); (case zzl => k_is); (case zzc => k_is); (case zzk => k_is); (case zzd => exact .inl ⟨rfl, rfl⟩); (case zzq => exact .inl rfl)))
    (case d55 => (refine' Gx.dfg_mk KX G ?zza ?zzl ?zzc ?zzk ?zzd ?zzq; (case zza => k_is); (case zzl => k_is); (case zzc => k_is); (case zzk => k_is); (case zzd => exact .inl ⟨rfl, rfl⟩); (case zzq => exact .inl rfl)))
    (case d56 => (refine' Gx.dfg_mk KX G ?zza ?zzl ?zzc ?zzk ?zzd ?zzq; (case zza => k_is); (case zzl => k_is); (case zzc => k_is); (case zzk => k_is); (case zzd => exact .inl ⟨rfl, rfl⟩); (case zzq => exact .inl rfl)))
    (case d57 => (refine' Gx.dfg_mk KX G ?zza ?zzl ?zzc ?zzk ?zzd ?zzq; (case zza => k_is); (case zzl => k_is); (case zzc => k_is); (case zzk => k_is); (case zzd => exact .inl ⟨rfl, rfl⟩); (case zzq => exact .inl rfl)))
    (case d58 => (refine' Gx.dfg_mk KX G ?zza ?zzl ?zzc ?zzk ?zzd ?zzq; (case zza => k_is); (case zzl => k_is); (case zzc => k_is); (case zzk => k_is); (case zzd => exact .inl ⟨rfl, rfl⟩); (case zzq => exact .inl rfl)))
    (case d59 => (refine' Gx.dfg_mk KX G ?zza ?zzl ?zzc ?zzk ?zzd ?zzq; (case zza => k_is); (case zzl => k_is); (case zzc => k_is); (case zzk => k_is); (case zzd => exact .inl ⟨rfl, rfl⟩); (case zzq => exact .inl rfl)))
    (case d60 => (refine' Gx.dfg_mk KX G ?zza ?zzl ?zzc ?zzk ?zzd ?zzq; (case zza => k_is); (case zzl => k_is); (case zzc => k_is); (case zzk => k_is); (case zzd => exact .inl ⟨rfl, rfl⟩); (case zzq => exact .inl rfl)))
    (case d61 => (refine' Gx.dfg_mk KX G ?zza ?zzl ?zzc ?zzk ?zzd ?zzq; (case zza => k_is); (case zzl => k_is); (case zzc => k_is); (case zzk => k_is); (case zzd => exact .inl ⟨rfl, rfl⟩); (case zzq => exact .inl rfl)))
    (case d62 => (refine' Gx.dfg_mk KX G ?zza ?zzl ?zzc ?zzk ?zzd ?zzq; (case zza => k_is); (case zzl => k_is); (case zzc => k_is); (case zzk => k_is); (case zzd => exact .inl ⟨rfl, rfl⟩); (case zzq => exact .inl rfl)))
    (case d63 => (refine' Gx.dfg_mk KX G ?zza ?zzl ?zzc ?zzk ?zzd ?zzq; (case zza => k_is); (case zzl => k_is); (case zzc => k_is); (case zzk => k_is); (case zzd => exact .inl ⟨rfl, rfl⟩); (case zzq => exact .inl rfl)))
    (case d64 => (refine' Gx.dfg_mk KX G ?zza ?zzl ?zzc ?zzk ?zzd ?zzq; (case zza => k_is); (case zzl => k_is); (case zzc => k_is); (case zzk => k_is); (case zzd => exact .inl ⟨rfl, rfl⟩); (case zzq => exact .inl rfl)))
    (case d65 => (refine' Gx.dfg_mk KX G ?zza ?zzl ?zzc ?zzk ?zzd ?zzq; (case zza => k_is); (case zzl => k_is); (case zzc => k_is); (case zzk => k_is); (case zzd => exact .inl ⟨rfl, rfl⟩); (case zzq => exact .inl rfl)))
    (case d66 => (refine' Gx.dfg_mk KX G ?zza ?zzl ?zzc ?zzk ?zzd ?zzq; (case zza => k_is); (case zzl => k_is); (case zzc => k_is); (case zzk => k_is); (case zzd => exact .inl ⟨rfl, rfl⟩); (case zzq => exact .inl rfl)))
    (case d67 => (refine' Gx.dfg_mk KX G ?zza ?zzl ?zzc ?zzk ?zzd ?zzq; (case zza => k_is); (case zzl => k_is); (case zzc => k_is); (case zzk => k_is); (case zzd => exact .inl ⟨rfl, rfl⟩); (case zzq => exact .inl rfl)))
    (case d68 => (refine' Gx.dfg_mk KX G ?zza ?zzl ?zzc ?zzk ?zzd ?zzq; (case zza => k_is); (case zzl => k_is); (case zzc => k_is); (case zzk => k_is); (case zzd => exact .inl ⟨rfl, rfl⟩); (case zzq => exact .inl rfl)))
    (case d69 => (refine' Gx.dfg_mk KX G ?zza ?zzl ?zzc ?zzk ?zzd ?zzq; (case zza => k_is); (case zzl => k_is); (case zzc => k_is); (case zzk => k_is); (case zzd => exact .inl ⟨rfl, rfl⟩); (case zzq => exact .inl rfl)))
    (case d70 => (refine' Gx.dfg_mk KX G ?zza ?zzl ?zzc ?zzk ?zzd ?zzq; (case zza => k_is); (case zzl => k_is); (case zzc => k_is); (case zzk => k_is); (case zzd => exact .inl ⟨rfl, rfl⟩); (case zzq => exact .inl rfl)))
    (case d71 => (refine' Gx.dfg_mk KX G ?zza ?zzl ?zzc ?zzk ?zzd ?zzq; (case zza => k_is); (case zzl => k_is); (case zzc => k_is); (case zzk => k_is); (case zzd => exact .inl ⟨rfl, rfl⟩); (case zzq => exact .inl rfl)))
    (case d72 => (refine' Gx.dfg_mk KX G ?zza ?zzl ?zzc ?zzk ?zzd ?zzq; (case zza => k_is); (case zzl => k_is); (case zzc => k_is); (case zzk => k_is); (case zzd => exact .inl ⟨rfl, rfl⟩); (case zzq => exact .inl rfl)))
    (case d73 => (refine' Gx.dfg_mk KX G ?zza ?zzl ?zzc ?zzk ?zzd ?zzq; (case zza => k_is); (case zzl => k_is); (case zzc => k_is); (case zzk => k_is); (case zzd => exact .inl ⟨rfl, rfl⟩); (case zzq => exact .inl rfl)))
    (case d74 => (refine' Gx.dfg_mk KX G ?zza ?zzl ?zzc ?zzk ?zzd ?zzq; (case zza => k_is); (case zzl => k_is); (case zzc => k_is); (case zzk => k_is); (case zzd => exact .inl ⟨rfl, rfl⟩); (case zzq => exact .inl rfl)))
    (case d75 => (refine' Gx.dfg_mk KX G ?zza ?zzl ?zzc ?zzk ?zzd ?zzq; (case zza => k_is); (case zzl => k_is); (case zzc => k_is); (case zzk => k_is); (case zzd => exact .inl ⟨rfl, rfl⟩); (case zzq => exact .inl rfl)))
    (case d76 => (refine' Gx.dfg_mk KX G ?zza ?zzl ?zzc ?zzk ?zzd ?zzq; (case zza => k_is); (case zzl => k_is); (case zzc => k_is); (case zzk => k_is); (case zzd => exact .inl ⟨rfl, rfl⟩); (case zzq => exact .inl rfl)))
    (case d77 => (refine' Gx.dfg_mk KX G ?zza ?zzl ?zzc ?zzk ?zzd ?zzq; (case zza => k_is); (case zzl => k_is); (case zzc => k_is); (case zzk => k_is); (case zzd => exact .inl ⟨rfl, rfl⟩); (case zzq => exact .inl rfl)))
    (case d78 => (refine' Gx.dfg_mk KX G ?zza ?zzl ?zzc ?zzk ?zzd ?zzq; (case zza => k_is); (case zzl => k_is); (case zzc => k_is); (case zzk => k_is); (case zzd => exact .inl ⟨rfl, rfl⟩); (case zzq => exact .inl rfl)))
    (case d79 => (refine' Gx.dfg_mk KX G ?zza ?zzl ?zzc ?zzk ?zzd ?zzq; (case zza => k_is); (case zzl => k_is); (case zzc => k_is); (case zzk => k_is); (case zzd => exact .inl ⟨rfl, rfl⟩); (case zzq => exact .inl rfl)))
    (case d80 => (refine' Gx.dfg_mk KX G ?zza ?zzl ?zzc ?zzk ?zzd ?zzq; (case zza => k_is); (case zzl => k_is); (case zzc => k_is); (case zzk => k_is); (case zzd => exact .inl ⟨rfl, rfl⟩); (case zzq => exact .inl rfl)))
    (case d81 => (refine' Gx.dfg_mk KX G ?zza ?zzl ?zzc ?zzk ?zzd ?zzq; (case zza => k_is); (case zzl => k_is); (case zzc => k_is); (case zzk => k_is); (case zzd => exact .inl ⟨rfl, rfl⟩); (case zzq => exact .inl rfl)))
    (case d82 => (refine' Gx.dfg_mk KX G ?zza ?zzl ?zzc ?zzk ?zzd ?zzq; (case zza => k_is); (case zzl => k_is); (case zzc => k_is); (case zzk => k_is); (case zzd => exact .inl ⟨rfl, rfl⟩); (case zzq => exact .inl rfl)))
    (case d83 => (refine' Gx.dfg_mk KX G ?zza ?zzl ?zzc ?zzk ?zzd ?zzq; (case zza => k_is); (case zzl => k_is); (case zzc => k_is); (case zzk => k_is); (case zzd => exact .inl ⟨rfl, rfl⟩); (case zzq => exact .inl rfl)))
    (case d84 => (refine' Gx.dfg_mk KX G ?zza ?zzl ?zzc ?zzk ?zzd ?zzq; (case zza => k_is); (case zzl => k_is); (case zzc => k_is); (case zzk => k_is); (case zzd => exact .inl ⟨rfl, rfl⟩); (case zzq => exact .inl rfl)))
    case Z =>
      refine' ⟨?g_StoreError, ?g_InvalidInput, ?g_NoPlace, ?d_InvalidInput, ?xf_InvalidInput, ?xc_InvalidInput, ?em_InvalidInput_StoreError, ?kt_InvalidInput_StoreError, ?em_InvalidInput_InvalidInput, ?kt_InvalidInput_InvalidInput, ?em_InvalidInput_NoPlace, ?kt_InvalidInput_NoPlace, ?em_InvalidInput_ValueError, ?kt_InvalidInput_ValueError, ?ns_InvalidInput, ?d_NoPlace, ?xf_NoPlace, ?xc_NoPlace, ?em_NoPlace_StoreError, ?kt_NoPlace_StoreError, ?em_NoPlace_InvalidInput, ?kt_NoPlace_InvalidInput, ?em_NoPlace_NoPlace, ?kt_NoPlace_NoPlace, ?em_NoPlace_ValueError, ?kt_NoPlace_ValueError, ?ns_NoPlace⟩
      case g_StoreError => exact PySem.W.mg_of KX G (by k_is)
      case g_InvalidInput => exact PySem.W.mg_of KX G (by k_is)
      case g_NoPlace => exact PySem.W.mg_of KX G (by k_is)
      case d_InvalidInput => (refine' Gx.exd_mk (sx := "StoreError") KX G ?zzaS ?zza ?zzxL ?zzhbm ?zzsa ?zzexC ?zztyC ?zzkC ?zzmro ?zzh1 ?zzh2 ?zzhm ?zzhf ?zzsub' ?zzhn ?zzfl ?zzi1 ?zzi2 ?zzlf ?zzcf ?zzlc ?zzhv ?zzhfile ?zzlcc ?zzns ?zztop ?zzop; (case zzaS => k_is); (case zza => k_is); (case zzxL => k_is); (case zzsa => k_is); (case zzexC => k_is); (case zztyC => k_is); (case zzkC => k_is); (case zzmro => k_is); (case zzh1 => k_is); (case zzh2 => k_is); (case zzhbm => decide +kernel); (case zzhm => exact rfl); (case zzhf => k_is); (case zzhn => exact rfl); (case zzsub' => k_is); (case zzfl => k_is); (case zzi1 => k_is); (case zzi2 => k_is); (case zzlf => k_is); (case zzcf => k_is); (case zzlc => k_is); (case zzlcc => k_is); (case zzns => k_is); (case zzop => k_is); (case zzhv => exact rfl); (case zzhfile => exact rfl); (case zztop => exact rfl))
      case xf_InvalidInput => (constructor <;> k_is)
      case xc_InvalidInput => (constructor <;> k_is)
      case em_InvalidInput_StoreError => (refine' Gx.exm_of ?zza ?zzb ?zzc ?zzd; (case zza => k_is); (case zzb => k_is); (case zzc => k_is); (case zzd => k_is))
      case kt_InvalidInput_StoreError => (refine' Gx.kit_ne ?zza ?zzb ?zzc ?zzd; (case zza => exact rfl); (case zzb => k_is); (case zzc => k_is); (case zzd => k_is))
      case em_InvalidInput_InvalidInput => (refine' Gx.exm_of ?zza ?zzb ?zzc ?zzd; (case zza => k_is); (case zzb => k_is); (case zzc => k_is); (case zzd => k_is))
      case kt_InvalidInput_InvalidInput => exact Gx.kit_same
      case em_InvalidInput_NoPlace => (refine' Gx.exm_of ?zza ?zzb ?zzc ?zzd; (case zza => k_is); (case zzb => k_is); (case zzc => k_is); (case zzd => k_is))
      case kt_InvalidInput_NoPlace => (refine' Gx.kit_ne ?zza ?zzb ?zzc ?zzd; (case zza => exact rfl); (case zzb => k_is); (case zzc => k_is); (case zzd => k_is))
      case em_InvalidInput_ValueError => (refine' Gx.exm_tyB ?zza ?zzb ?zzd; (case zza => decide +kernel); (case zzb => k_is); (case zzd => k_is))
      case kt_InvalidInput_ValueError => (refine' Gx.kit_tyB ?zza ?zzd; (case zza => decide +kernel); (case zzd => k_is))
      case ns_InvalidInput => k_is
      case d_NoPlace => (refine' Gx.exd_mk (sx := "StoreError") KX G ?zzaS ?zza ?zzxL ?zzhbm ?zzsa ?zzexC ?zztyC ?zzkC ?zzmro ?zzh1 ?zzh2 ?zzhm ?zzhf ?zzsub' ?zzhn ?zzfl ?zzi1 ?zzi2 ?zzlf ?zzcf ?zzlc ?zzhv ?zzhfile ?zzlcc ?zzns ?zztop ?zzop; (case zzaS => k_is); (case zza => k_is); (case zzxL => k_is); (case zzsa => k_is); (case zzexC => k_is); (case zztyC => k_is); (case zzkC => k_is); (case zzmro => k_is); (case zzh1 => k_is); (case zzh2 => k_is); (case zzhbm => decide +kernel); (case zzhm => exact rfl); (case zzhf => k_is); (case zzhn => exact rfl); (case zzsub' => k_is); (case zzfl => k_is); (case zzi1 => k_is); (case zzi2 => k_is); (case zzlf => k_is); (case zzcf => k_is); (case zzlc => k_is); (case zzlcc => k_is); (case zzns => k_is); (case zzop => k_is); (case zzhv => exact rfl); (case zzhfile => exact rfl); (case zztop => exact rfl))
      case xf_NoPlace => (constructor <;> k_is)
      case xc_NoPlace => (constructor <;> k_is)
      case em_NoPlace_StoreError => (refine' Gx.exm_of ?zza ?zzb ?zzc ?zzd; (case zza => k_is); (case zzb => k_is); (case zzc => k_is); (case zzd => k_is))
      case kt_NoPlace_StoreError => (refine' Gx.kit_ne ?zza ?zzb ?zzc ?zzd; (case zza => exact rfl); (case zzb => k_is); (case zzc => k_is); (case zzd => k_is))
      case em_NoPlace_InvalidInput => (refine' Gx.exm_of ?zza ?zzb ?zzc ?zzd; (case zza => k_is); (case zzb => k_is); (case zzc => k_is); (case zzd => k_is))
      case kt_NoPlace_InvalidInput => (refine' Gx.kit_ne ?zza ?zzb ?zzc ?zzd; (case zza => exact rfl); (case zzb => k_is); (case zzc => k_is); (case zzd => k_is))
      case em_NoPlace_NoPlace => (refine' Gx.exm_of ?zza ?zzb ?zzc ?zzd; (case zza => k_is); (case zzb => k_is); (case zzc => k_is); (case zzd => k_is))
      case kt_NoPlace_NoPlace => exact Gx.kit_same
      case em_NoPlace_ValueError => (refine' Gx.exm_tyB ?zza ?zzb ?zzd; (case zza => decide +kernel); (case zzb => k_is); (case zzd => k_is))
      case kt_NoPlace_ValueError => (refine' Gx.kit_tyB ?zza ?zzd; (case zza => decide +kernel); (case zzd => k_is))
      case ns_NoPlace => k_is
#print axioms PySem.Challenge.cw_carrylog_k11_word_refusals_holds

