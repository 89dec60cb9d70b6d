import PyProof.Rows.All
import Wide.All
import OpenK.AllK
import Wide.FinOn
import HandS.ForMost
import HandS.Wide
import HandS.WideBits
import HandS.IsInst
import HandS.StrMore
import HandS.TupAny
import HandS.EndBits
import PyProof.StrOps2
import HandS.Style
import HandS.Iter
import HandS.Comp
import HandS.Zip
import HandS.Codes
import KE.GoesMore
import PyProof.EnumMake
import PyProof.Draws
import HandS.Defaults
import HandS.MakeKwOnly
import HandS.ExcInit
import HandS.ExcSuper
import HandS.NestedK
import HandS.ClsMeth
import KE.KSuper
import KE.KExcSuper
import HandS.FStr
import HandS.WordsExc
import HandS.ExcIs
import HandS.ExcField
import HandS.HotCalls
import KE.KExcIs
import KE.KIsAll
import HandS.ExcInitHot
import HandS.TryOnly
import HandS.Star
import HandS.Property
import KE.KTupSum
import HandS.Gcd
import Flt.RightSqrt
import PyProof.ReprNest
import PySem.Challenge.RW_carrylog_k00_round_sums
set_option Elab.async false
set_option linter.all false
set_option maxRecDepth 100000
set_option maxHeartbeats 2000000
/-! Gx: short words over the hand layer: callable defs by name (Df, Cl), operators by the values' kinds, steps of a reading (g_..), heaps that only grow (Ex, ExB). -/
namespace Gx
open PySem PySem.Spec PyProof.Rows L2

/-- n times the text z -/
def repS (z : Str) (n : Nat) : Str := ⟨((List.replicate n z.cps.toList).flatten).toArray⟩
theorem foldl_app (l : List (Array Nat)) : ∀ a : Array Nat, (l.foldl (· ++ ·) a).toList = a.toList ++ (l.map Array.toList).flatten := by
  induction l with
  | nil => intro a; simp
  | cons x r ih => intro a; rw [List.foldl_cons, ih]; simp
theorem repS_fold (z : Str) (n : Nat) : (⟨(List.replicate n z.cps).foldl (· ++ ·) #[]⟩ : Str) = repS z n := by
  unfold repS
  congr 1
  apply Array.toList_inj.mp
  rw [foldl_app]
  simp
theorem repS_one (z : Str) : repS z 1 = z := by
  unfold repS
  simp
theorem repS_nil (z : Str) (n : Nat) (h : z.length = 0) : repS z n = z := by
  obtain ⟨a⟩ := z
  have h' : a = #[] := Array.size_eq_zero_iff.mp h
  subst h'
  unfold repS
  simp
theorem repS_zero (z : Str) : repS z 0 = Str.empty := by
  unfold repS
  simp
  rfl
theorem repS_length (z : Str) (n : Nat) : (repS z n).length = z.length * n := by
  unfold repS Str.length
  simp [Nat.mul_comm]
section
variable {P : Program} {w : World} {K : PySem.W.Frag} {mg : Str → Option Value} {base : Heap}
/-- the def x of the text st as the top left it -/
structure Df (K : PySem.W.Frag) (mg : Str → Option Value) (x : Str) (st : Stmt) (ps : List Str) : Prop where
  ex : ∃ (f : Addr) (fd : FuncData), mg x = some (.ref f) ∧ Fun K x x st f fd ∧ ∀ us : List Value, us.length = ps.length → bindArgs fd ⟨us, []⟩ = pure (ps.zip us)
/-- the def x may be called -/
structure Cl (P : Program) (w : World) (K : PySem.W.Frag) (mg : Str → Option Value) (base : Heap) (k : Nat) (x : Str) (ps : List Str) (sp : Sp) : Prop where
  ex : ∃ (f : Addr) (fd : FuncData), mg x = some (.ref f) ∧ PySem.W.keepIn K (.ref f) = true ∧ (∀ us : List Value, us.length = ps.length → bindArgs fd ⟨us, []⟩ = pure (ps.zip us)) ∧ FnOk P w K mg base CX0 k f fd ps sp
theorem df_mk {h : Heap} {x : Str} {st : Stmt} {ps : List Str} {f : Addr} {oc : Value} {od an : Option Addr} {osl : Array (Option Value)} {kV doc pm cdv ct : Value} (X : K.In h) (G : h.Ns mainGlobals mg)
    (a : PySem.W.nsIn K mainGlobals x = some (some (.ref f))) (l : K.lookup f = some ⟨oc, od, .func (PySem.W.fnOf x x (defArgs st) (defBody st) (defScope st) .none kV doc pm an cdv ct), osl⟩)
    (c : PySem.W.codeIn K cdv x = true) (k : PySem.W.keepIn K (.ref f) = true)
    (b : ∀ us : List Value, us.length = ps.length → bindArgs (PySem.W.fnOf x x (defArgs st) (defBody st) (defScope st) .none kV doc pm an cdv ct) ⟨us, []⟩ = pure (ps.zip us)) : Df K mg x st ps :=
  ⟨f, _, PySem.W.mg_of X G a, fun_mk l c k, b⟩
theorem Df.ok {x : Str} {st : Stmt} {N ps : List Str} {k : Nat} {sp : Sp} (D : Df K mg x st ps) (S : FnScope N ps (defScope st)) (len : ∀ vs H Q E, sp vs H Q E → vs.length = ps.length)
    (hbody : ∀ (f : Addr) (cdv : Value) (A : Around) (outer : List Env) (s : Shared) (H : Hp) (vs : List V) (Q : VK) (E : XK), Room k (A.deeper (envOfC x (defScope st) s.heap.objs.size f cdv)) → sp vs H Q E →
      ∃ t, PSs (cxOf CX0 P w K mg base N x (defScope st) f cdv A outer s H E).nox (defBody st) t ∧ t { nx := fun _ H' => Q .non H', rt := Q } (start N vs) H) : Cl P w K mg base (k + 1) x ps sp := by
  obtain ⟨f, fd, h1, h2, h3⟩ := D.ex
  exact ⟨f, fd, h1, h2.kp, h3, h2.ok S len fun cdv A outer s H vs Q E hr h => hbody f cdv A outer s H vs Q E hr h⟩
theorem Cl.mono {x : Str} {ps : List Str} {j k : Nat} {sp : Sp} (C : Cl P w K mg base j x ps sp) (h : j ≤ k) : Cl P w K mg base k x ps sp := by
  obtain ⟨f, fd, h1, h2, h3, h4⟩ := C.ex
  exact ⟨f, fd, h1, h2, h3, h4.mono h⟩
end

section
variable {X : Cx} {x : Str} {p pos : Pos} {e a b : Expr} {es : List Expr} {t : TA} {ta tb : TE} {k : Nat} {ps : List Str} {sp : Sp}
theorem pe_cl (C : Cl X.prog X.w X.K X.mg X.base k x ps sp) (hr : Room k X.A) (ha : PA X (e :: es) t) (hg : Gl X x := by rfl) (hdb : (x == ("__debug__" : Str)) = false := by decide)
    (he : starEach (e :: es) X.env = (false, eval e X.env) :: starEach es X.env := by rfl) (hpl : (backTo pos (starEach es X.env)).any (·.1) = false := by rfl) :
    PE X (.Call (.Name x p) (e :: es) [] pos) (tCall sp [] E0 t) := by
  obtain ⟨f, fd, h1, h2, h3, h4⟩ := C.ex
  exact pe_call h4 hr hg h1 h2 (Binds.all h3) .nil pass0 ha hdb he hpl
theorem pe_cl0 (C : Cl X.prog X.w X.K X.mg X.base k x ps sp) (hr : Room k X.A) (hg : Gl X x := by rfl) (hdb : (x == ("__debug__" : Str)) = false := by decide) :
    PE X (.Call (.Name x p) [] [] pos) (tCall sp [] E0 tNil) := by
  obtain ⟨f, fd, h1, h2, h3, h4⟩ := C.ex
  exact pe_call0 h4 hr hg h1 h2 (Binds.all h3) .nil pass0 hdb
end


/-! ### keyword-only parameters -/
section
variable {P : Program} {w : World} {K : PySem.W.Frag} {mg : Str → Option Value} {base : Heap}
structure DfK (K : PySem.W.Frag) (mg : Str → Option Value) (x : Str) (st : Stmt) (kws : List (Str × V)) : Prop where
  ex : ∃ (f : Addr) (fd : FuncData), mg x = some (.ref f) ∧ FunD K x x (defArgs st) (defBody st) (defScope st) [] kws f fd
structure ClK (P : Program) (w : World) (K : PySem.W.Frag) (mg : Str → Option Value) (base : Heap) (k : Nat) (x : Str) (st : Stmt) (ps : List Str) (kws : List (Str × V)) (sp : Sp) : Prop where
  ex : ∃ (f : Addr) (fd : FuncData), mg x = some (.ref f) ∧ FunD K x x (defArgs st) (defBody st) (defScope st) [] kws f fd ∧ FnOk P w K mg base CX0 k f fd ps sp
theorem dfk_mk {h : Heap} {x : Str} {st : Stmt} {f D : Addr} {oc : Value} {od an : Option Addr} {osl : Array (Option Value)} {doc pm cdv ct : Value} {kws : List (Str × V)} (X : K.In h) (G : h.Ns mainGlobals mg)
    (a : PySem.W.nsIn K mainGlobals x = some (some (.ref f))) (l : K.lookup f = some ⟨oc, od, .func (PySem.W.fnOf x x (defArgs st) (defBody st) (defScope st) .none (.ref D) doc pm an cdv ct), osl⟩)
    (c : PySem.W.codeIn K cdv x = true) (k : PySem.W.keepIn K (.ref f) = true) (d : ∀ q ∈ kws, ∃ u, PySem.W.nsIn K D q.1 = some (some u) ∧ RelV q.2 u) : DfK K mg x st kws :=
  ⟨f, _, PySem.W.mg_of X G a, ⟨⟨oc, od, .none, .ref D, doc, pm, an, cdv, ct, osl, rfl, l, c, .inl ⟨rfl, rfl⟩, .inr ⟨D, rfl, d⟩⟩, k⟩⟩
theorem DfK.ok {x : Str} {st : Stmt} {N ps : List Str} {kws : List (Str × V)} {k : Nat} {sp : Sp} (D : DfK K mg x st kws) (S : FnScope N ps (defScope st)) (len : ∀ vs H Q E, sp vs H Q E → vs.length = ps.length)
    (hbody : ∀ (f : Addr) (cdv : Value) (A : Around) (outer : List Env) (s : Shared) (H : Hp) (vs : List V) (Q : VK) (E : XK), Room k (A.deeper (envOfC x (defScope st) s.heap.objs.size f cdv)) → sp vs H Q E →
      ∃ t, PSs (cxOf CX0 P w K mg base N x (defScope st) f cdv A outer s H E).nox (defBody st) t ∧ t { nx := fun _ H' => Q .non H', rt := Q } (start N vs) H) : ClK P w K mg base (k + 1) x st ps kws sp := by
  obtain ⟨f, fd, h1, h2⟩ := D.ex
  exact ⟨f, fd, h1, h2, h2.ok S len fun cdv A outer s H vs Q E hr h => by
    obtain ⟨t, a, b⟩ := hbody f cdv A outer s H vs Q E hr h
    exact ⟨t, a.nox, b⟩⟩
end
section
variable {X : Cx} {x : Str} {p pos : Pos} {e : Expr} {es : List Expr} {kw : List Keyword} {t tk : TA} {k : Nat} {ps : List Str} {sp : Sp} {st : Stmt} {kws : List (Str × V)}
theorem pe_clk0 (C : ClK X.prog X.w X.K X.mg X.base k x st ps kws sp) (hr : Room k X.A) (n : Nat) (hk : kws ≠ []) (hn : n + kws.length = ps.length)
    (h : ∀ (D : Addr) (doc pm : Value) (an : Option Addr) (cdv ct : Value) (us ks : List Value), us.length = n → ks.length = kws.length →
      KwChain D ((kws.map (·.1)).zip ks) (bindArgs (PySem.W.fnOf x x (defArgs st) (defBody st) (defScope st) .none (.ref D) doc pm an cdv ct) ⟨us, []⟩) (ps.zip (us ++ ks)))
    (ha : PA X (e :: es) t) (hg : Gl X x := by rfl) (hdb : (x == ("__debug__" : Str)) = false := by decide)
    (he : starEach (e :: es) X.env = (false, eval e X.env) :: starEach es X.env := by rfl) (hpl : (backTo pos (starEach es X.env)).any (·.1) = false := by rfl) :
    PE X (.Call (.Name x p) (e :: es) [] pos) (tCall sp (kws.map (·.2)) E0 t) := by
  obtain ⟨f, fd, h1, h2, h4⟩ := C.ex
  obtain ⟨ds, r, b⟩ := h2.binds0 n hk hn h
  exact pe_call h4 hr hg h1 h2.kp b r pass0 ha hdb he hpl
theorem pe_clk (C : ClK X.prog X.w X.K X.mg X.base k x st ps kws sp) (hr : Room k X.A) (n : Nat) (ks : List Str) (ms : List (Str × V)) (g : {α : Type} → List α → List α → List α → List α) (hk : kws ≠ []) (hms : ∀ q ∈ ms, q ∈ kws)
    (hrel : ∀ {vs mz zs : List V} {us mv ws : List Value}, Vals vs us → Vals mz mv → Vals zs ws → Vals (g vs mz zs) (g us mv ws))
    (h : ∀ (D : Addr) (doc pm : Value) (an : Option Addr) (cdv ct : Value) (us mv ws : List Value), us.length = n → mv.length = ms.length → ws.length = ks.length →
      KwChain D ((ms.map (·.1)).zip mv) (bindArgs (PySem.W.fnOf x x (defArgs st) (defBody st) (defScope st) .none (.ref D) doc pm an cdv ct) ⟨us, ks.zip ws⟩) (ps.zip (g us mv ws)))
    (ha : PA X (e :: es) t) (hkw : PK X kw tk) (hg : Gl X x := by rfl) (hall : (backToKw pos (keywordEach kw X.env)).all (·.1.isSome) = true := by rfl) (hks : (backToKw pos (keywordEach kw X.env)).filterMap (·.1) = ks := by rfl)
    (hdb : (x == ("__debug__" : Str)) = false := by decide) (he : starEach (e :: es) X.env = (false, eval e X.env) :: starEach es X.env := by rfl)
    (hpl : ((backTo pos (starEach (e :: es) X.env)).any (·.1) || (backToKw pos (keywordEach kw X.env)).any (·.1.isNone)) = false := by rfl) :
    PE X (.Call (.Name x p) (e :: es) kw pos) (tCallN n ks.length sp (fun vs zs => g vs (ms.map (·.2)) zs) E0 t tk) := by
  obtain ⟨f, fd, h1, h2, h4⟩ := C.ex
  obtain ⟨mv, b⟩ := h2.kbinds0 n ks ms g hk hms hrel h
  exact pe_callN h4 hr hg h1 h2.kp b pass0 ha hkw hall hks hdb he hpl
end

/-! ### operators by the kinds of the values -/
section
variable {X : Cx}
def rRepS : R2 := fun x y H Q => ∃ (z : Str) (n : Int), x = .str z ∧ y = .int n ∧ (n < 2 ^ 40 ∧ -(2 ^ 40) ≤ n ∧ z.length * n.toNat ≤ 100000) ∧ Q (.str (repS z n.toNat)) H
theorem op_repS : OpR X (binaryOp .Mult) rRepS := by
  intro pins s σ H x y v u Q I rx ry h
  obtain ⟨z, n, rfl, rfl, ⟨h1, h2, h3⟩, q⟩ := h
  obtain ⟨t, rfl⟩ := rx
  obtain ⟨t', rfl⟩ := ry
  have hs : sizeLine = 16777216 := sizeLine_eq
  have hz : Builtin.Str.tooLong (z.length * n.toNat) = false := by
    unfold Builtin.Str.tooLong
    exact decide_eq_false (by omega)
  refine PySem.P.mul_str ?_ (fun h4 h5 => ?_) (fun _ _ => hz) ?_
  · rw [decide_eq_false (by omega), decide_eq_false (by omega)]; rfl
  · intro h6
    have h7 : 0 < n := by omega
    have h8 : ((z.length : Int)) * n ≤ 100000 := by
      have : ((z.length * n.toNat : Nat) : Int) ≤ 100000 := by omega
      rw [Int.natCast_mul, Int.toNat_of_nonneg (by omega)] at this
      exact this
    have h9 : ((2 ^ 63 - 1 : Int) / n + 1) ≤ (z.length : Int) := by omega
    have ha : ((2 ^ 63 - 1 : Int) / n + 1) * n ≤ (z.length : Int) * n := Int.mul_le_mul_of_nonneg_right h9 (by omega)
    have hb : (2 ^ 63 - 1 : Int) < ((2 ^ 63 - 1 : Int) / n + 1) * n := Int.lt_ediv_add_one_mul_self _ h7
    omega
  · by_cases h4 : n < 1
    · rw [if_pos h4]
      refine ⟨by decide, .str Str.empty, H, I.tok _, ⟨_, rfl⟩, ?_⟩
      have e : n.toNat = 0 := by omega
      rw [e, repS_zero] at q
      exact q
    · rw [if_neg h4]
      by_cases h5 : (n == 1 || z.length == 0) = true
      · rw [if_pos h5]
        refine ⟨.str z, H, I, ⟨_, rfl⟩, ?_⟩
        have e : repS z n.toNat = z := by
          rw [Bool.or_eq_true] at h5
          rcases h5 with h5 | h5
          · have e : n.toNat = 1 := by
              have := beq_iff_eq.mp h5
              omega
            rw [e, repS_one]
          · exact repS_nil _ _ (beq_iff_eq.mp h5)
        rw [e] at q
        exact q
      · rw [if_neg h5, repS_fold]
        refine ⟨by rw [repS_length]; omega, .str _, H, I.tok _, ⟨_, rfl⟩, q⟩
end
def rAdd (K : PySem.W.Frag) : R2 := fun x y H Q => rI0 (fun i j => .int (i + j)) x y H Q ∨ (∃ i j, x = .str i ∧ y = .str j ∧ i.length + j.length ≤ sizeLine ∧ Q (.str (i ++ j)) H) ∨ rCat x y H Q ∨ rCatA K x y H Q
def rMul (K : PySem.W.Frag) : R2 := fun x y H Q => rI CMul (fun i j => .int (i * j)) x y H Q ∨ rI CMulX (fun i j => .int (i * j)) x y H Q ∨ rRepS x y H Q ∨ rRep x y H Q
def rSub : R2 := rI0 fun i j => .int (i - j)
def rMod : R2 := rI (fun _ j => 0 < j) fun i j => .int (i % j)
def rDiv : R2 := rI CDivW fun i j => .int (i / j)
def rPow : R2 := rI CPow fun i j => .int (i ^ j.toNat)
def rEqX (K : PySem.W.Frag) : R2 := fun x y H Q => rEq x y H Q ∨ rEqD K x y H Q
def rNeX (K : PySem.W.Frag) : R2 := fun x y H Q => rNe x y H Q ∨ rNeD K x y H Q
def rLt : R2 := rI0 fun i j => .bl (decide (i < j))
def rLe : R2 := rI0 fun i j => .bl (decide (i ≤ j))
def rGt : R2 := rI0 fun i j => .bl (decide (j < i))
def rGe : R2 := rI0 fun i j => .bl (decide (j ≤ i))
def rIsN : R2 := fun x y H Q => y = .non ∧ Q (.bl (decide (x = .non))) H
def rNotN : R2 := fun x y H Q => y = .non ∧ Q (.bl (!decide (x = .non))) H
section
variable {X : Cx}
theorem opAdd : OpR X (binaryOp .Add) (rAdd X.K) := op_add.or (op_add_str.or (op_cat.or op_catA))
theorem opMul : OpR X (binaryOp .Mult) (rMul X.K) := op_mul.or (op_mulX.or (op_repS.or op_rep))
theorem opSub : OpR X (binaryOp .Sub) rSub := op_sub
theorem opMod : OpR X (binaryOp .Mod) rMod := op_mod
theorem opDiv : OpR X (binaryOp .FloorDiv) rDiv := op_fdivW
theorem opPow : OpR X (binaryOp .Pow) rPow := op_pow
theorem opEq (hu : X.A.units + 64 < cLine) : OpR X (compareOp .Eq) (rEqX X.K) := op_eq.or (op_eqD hu)
theorem opNe (hu : X.A.units + 64 < cLine) : OpR X (compareOp .NotEq) (rNeX X.K) := op_ne.or (op_neD hu)
theorem opLt : OpR X (compareOp .Lt) rLt := op_lt
theorem opLe : OpR X (compareOp .LtE) rLe := op_le
theorem opGt : OpR X (compareOp .Gt) rGt := op_gt
theorem opGe : OpR X (compareOp .GtE) rGe := op_ge
theorem opIsN : OpR X (compareOp .Is) rIsN := op_isN
theorem opNotN : OpR X (compareOp .IsNot) rNotN := op_notN
def rInt : List V → Hp → VK → Prop := fun xs H Q => (∃ i, xs = [.int i] ∧ Q (.int i) H) ∨ ∃ k, xs = [.bl k] ∧ Q (.int (if k then 1 else 0)) H
def rAbs : List V → Hp → VK → Prop := fun xs H Q => ∃ i, xs = [.int i] ∧ Q (.int (if i < 0 then -i else i)) H
def rMax2 : List V → Hp → VK → Prop := fun xs H Q => ∃ i j, xs = [.int i, .int j] ∧ Q (.int (if j > i then j else i)) H
def rMin2 : List V → Hp → VK → Prop := fun xs H Q => ∃ i j, xs = [.int i, .int j] ∧ Q (.int (if j < i then j else i)) H
def rLen (K : PySem.W.Frag) : List V → Hp → VK → Prop := fun xs H Q => ∃ x n, xs = [x] ∧ LenV K x H n ∧ Q (.int n) H
def rListOf (K : PySem.W.Frag) : List V → Hp → VK → Prop := fun xs H Q => ∃ p ys, xs = [.ref p] ∧ (SqL K H p ys ∨ SqT K H p ys) ∧ ∀ l, H l = none → Q (.ref l) (upd H l (.lst ys))
def rStr : List V → Hp → VK → Prop := fun xs H Q => ∃ i, xs = [.int i] ∧ i.natAbs.log2 < 1920 ∧ Q (.str (toString i)) H
theorem callStr : CallR X (.type "str") rStr := call_str_int
theorem callInt : CallR X (.type "int") rInt := call_int1
theorem callAbs : CallR X (.builtin "abs") rAbs := call_abs
theorem callMax2 (hc : X.calm = true) : CallR X (.builtin "max") rMax2 := call_max2 hc
theorem callMin2 (hc : X.calm = true) : CallR X (.builtin "min") rMin2 := call_min2 hc
theorem callLen : CallR X (.builtin "len") (rLen X.K) := call_len
theorem callListOf : CallR X (.type "list") (rListOf X.K) := call_list_of
def rSlX (K : PySem.W.Frag) : V → Option Int → Option Int → Hp → VK → Prop := fun x lo hi H Q => rSlL K x lo hi H Q ∨ rSlS x lo hi H Q ∨ rSlA K x lo hi H Q
theorem slAny : SlR X (rSlX X.K) := sl_list.or (sl_str.or sl_tupA)
theorem hu64 {A : Around} {k : Nat} (hr : Room k A) : A.units + 64 < cLine := by
  have := hr.un
  omega
end

/-- the built-in names are not the module's own -/
structure Bl (mg : Str → Option Value) : Prop where
  abs : mg "abs" = none
  all : mg "all" = none
  any : mg "any" = none
  bool : mg "bool" = none
  dict : mg "dict" = none
  divmod : mg "divmod" = none
  enumerate : mg "enumerate" = none
  int : mg "int" = none
  isinstance : mg "isinstance" = none
  len : mg "len" = none
  list : mg "list" = none
  max : mg "max" = none
  min : mg "min" = none
  range : mg "range" = none
  repr : mg "repr" = none
  reversed : mg "reversed" = none
  sorted : mg "sorted" = none
  str : mg "str" = none
  sum : mg "sum" = none
  tuple : mg "tuple" = none
  zip : mg "zip" = none
  ValueError' : mg "ValueError" = none

/-! ### heaps -/
/-- what stood stands, but for what is in bs -/
def Imm (o : HO) : Prop := (∃ xs, o = .tup xs) ∨ (∃ a, o = .own a) ∨ ∃ C dx t, o = .ins C dx [("_budgets", .ref t)]
theorem Imm.lst {xs : List V} (h : Imm (.lst xs)) : False := by
  rcases h with ⟨_, h⟩ | ⟨_, h⟩ | ⟨_, _, _, h⟩ <;> cases h
class Chg (bs : outParam (List Addr)) (H : outParam Hp) (H' : Hp) : Prop where
  keep : ∀ a o, a ∉ bs → H a = some o → H' a = some o
  live : ∀ a, H' a = none → H a = none
  imm : ∀ a o, Imm o → H a = some o → H' a = some o
abbrev Ex (H : Hp) (H' : Hp) : Prop := Chg [] H H'
abbrev ExB (b : Addr) (H : Hp) (H' : Hp) : Prop := Chg [b] H H'
class Nw (H : outParam Hp) (p : Addr) : Prop where
  eq : H p = none
class At (H : Hp) (p : Addr) (o : outParam HO) : Prop where
  eq : H p = some o
class Live (H : Hp) (p : Addr) : Prop where
  ex : ∃ o, H p = some o
class NeC (p q : Addr) : Prop where
  ne : p ≠ q
class NotIn (p : Addr) (bs : List Addr) : Prop where
  out : p ∉ bs
class Anc (H H' : Hp) : Prop where
  none : ∀ a, H' a = none → H a = none
class Nu (H : Hp) (p : Addr) : Prop where
  eq : H p = none
class InNew (c : Addr) (bs : List Addr) (H : Hp) : Prop where
  or : c ∈ bs ∨ H c = none
class SubC (cs bs : List Addr) (H : Hp) : Prop where
  sub : ∀ c ∈ cs, c ∈ bs ∨ H c = none
class RelC (bs : List Addr) (H H' : Hp) : Prop where
  keep : ∀ a o, a ∉ bs → H a = some o → H' a = some o
  imm : ∀ a o, Imm o → H a = some o → H' a = some o
class SqC (K : PySem.W.Frag) (H : Hp) (p : Addr) (xs : outParam (List V)) : Prop where
  sq : SqL K H p xs
class StC (K : PySem.W.Frag) (H : Hp) (p : Addr) (xs : outParam (List V)) : Prop where
  st : SqT K H p xs
section
variable {H H' H1 H0 : Hp} {p q b c : Addr} {o : HO} {bs cs : List Addr} {K : PySem.W.Frag} {xs : List V}
instance : NotIn p [] := ⟨by simp⟩
instance [h : NeC p b] [k : NotIn p bs] : NotIn p (b :: bs) := ⟨by
  intro e
  rcases List.mem_cons.mp e with e | e
  · exact h.ne e
  · exact k.out e⟩
instance (priority := low) atStep [r : Chg cs H1 H] [n : NotIn p cs] [h : At H1 p o] : At H p o := ⟨r.keep p o n.out h.eq⟩
instance ancRefl : Anc H H := ⟨fun _ h => h⟩
instance (priority := low) ancStep [r : Chg cs H1 H'] [k : Anc H H1] : Anc H H' := ⟨fun a h => k.none a (r.live a h)⟩
instance nuOf [n : Nw H1 p] [k : Anc H H1] : Nu H p := ⟨k.none p n.eq⟩
instance liveAt [h : At H p o] : Live H p := ⟨⟨o, h.eq⟩⟩
instance (priority := low) liveStep [r : Chg cs H1 H] [h : Live H1 p] : Live H p := ⟨by
  cases e : H p with
  | none => obtain ⟨o, h⟩ := h.ex; rw [r.live p e] at h; cases h
  | some o => exact ⟨o, rfl⟩⟩
instance neNew [n : Nw H q] [h : Live H p] : NeC p q := ⟨by
  obtain ⟨o, h⟩ := h.ex
  intro e
  rw [e, n.eq] at h
  cases h⟩
instance neNew' [n : Nw H q] [h : Live H p] : NeC q p := ⟨(neNew (H := H)).ne.symm⟩
instance inHere : InNew c (c :: bs) H := ⟨.inl (List.mem_cons_self ..)⟩
instance (priority := low) inThere [h : InNew c bs H] : InNew c (b :: bs) H := ⟨h.or.imp (List.mem_cons_of_mem _) _root_.id⟩
instance inNew [h : Nu H c] : InNew c bs H := ⟨.inr h.eq⟩
instance : SubC [] bs H := ⟨by simp⟩
instance [h : InNew c bs H] [k : SubC cs bs H] : SubC (c :: cs) bs H := ⟨by
  intro d hd
  rcases List.mem_cons.mp hd with e | e
  · rw [e]; exact h.or
  · exact k.sub d e⟩
instance relRefl : RelC bs H H := ⟨fun _ _ _ h => h, fun _ _ _ h => h⟩
instance (priority := low) relStep [r : Chg cs H1 H'] [s : SubC cs bs H] [k : RelC bs H H1] : RelC bs H H' := ⟨fun a o n h => r.keep a o (fun hc => by
  rcases s.sub a hc with e | e
  · exact n e
  · rw [e] at h; cases h) (k.keep a o n h), fun a o i h => r.imm a o i (k.imm a o i h)⟩
theorem rel [r : RelC bs H H'] [k : Anc H H'] : Chg bs H H' := ⟨r.keep, k.none, r.imm⟩
theorem new [h : Nu H p] : Nw H p := ⟨h.eq⟩
theorem at_ [h : At H p o] : At H p o := h
theorem ne_ [h : NeC p q] : p ≠ q := h.ne
instance sqAt [h : At H p (.lst xs)] : SqC K H p xs := ⟨.inl (.inl h.eq)⟩
instance stAt [h : At H p (.tup xs)] : StC K H p xs := ⟨.inl (.inl h.eq)⟩
theorem Chg.rd {a : Addr} {u : HO} (e : Chg bs H H') (n : a ∉ bs) (h : Rd H a u) : Rd H' a u := by
  rcases h with h | ⟨o, h⟩
  · exact .inl (e.keep a _ n h)
  · exact .inr ⟨o, e.keep a _ n h⟩
theorem Chg.l {a : Addr} (e : Chg bs H H') (n : a ∉ bs) (h : SqL K H a xs) : SqL K H' a xs := by
  rcases h with h | h
  · exact .inl (e.rd n h)
  · exact .inr h
theorem Chg.t {a : Addr} (e : Chg bs H H') (n : a ∉ bs) (h : SqT K H a xs) : SqT K H' a xs := by
  rcases h with h | h
  · exact .inl (e.rd n h)
  · exact .inr h
instance (priority := low) sqStep [r : Chg cs H1 H] [n : NotIn p cs] [h : SqC K H1 p xs] : SqC K H p xs := ⟨r.l n.out h.sq⟩
instance (priority := low) stStep [r : Chg cs H1 H] [n : NotIn p cs] [h : StC K H1 p xs] : StC K H p xs := ⟨r.t n.out h.st⟩
theorem Chg.refl (bs : List Addr) (H : Hp) : Chg bs H H := ⟨fun _ _ _ h => h, fun _ h => h, fun _ _ _ h => h⟩
theorem Ex.refl (H : Hp) : Ex H H := Chg.refl _ H
theorem ExB.refl (b : Addr) (H : Hp) : ExB b H H := Chg.refl _ H
theorem Chg.trans {H1 H2 : Hp} (a : Chg bs H H1) (c : Chg bs H1 H2) : Chg bs H H2 := ⟨fun x o n h => c.keep x o n (a.keep x o n h), fun x h => a.live x (c.live x h), fun x o i h => c.imm x o i (a.imm x o i h)⟩
theorem Ex.l {a : Addr} (e : Ex H H') (h : SqL K H a xs) : SqL K H' a xs := Chg.l e (by simp) h
theorem Ex.t {a : Addr} (e : Ex H H') (h : SqT K H a xs) : SqT K H' a xs := Chg.t e (by simp) h
theorem ExB.l {a b : Addr} (e : ExB b H H') (n : a ≠ b) (h : SqL K H a xs) : SqL K H' a xs := Chg.l e (by simpa using n) h
theorem Ex.mk (h : H p = none) : Ex H (upd H p o) := ⟨fun a u _ e => by
  rw [upd_ne (ne_of_none e h)]
  exact e, fun a e => by
  by_cases z : a = p
  · rw [z]; exact h
  · rw [upd_ne z] at e; exact e, fun a u _ e => by
  rw [upd_ne (ne_of_none e h)]
  exact e⟩
theorem ExB.upd (h : H b = some (.lst xs)) : ExB b H (upd H b o) := ⟨fun a u n e => by
  rw [upd_ne (by simpa using n)]
  exact e, fun a e => by
  by_cases z : a = b
  · rw [z, upd_same] at e; cases e
  · rw [upd_ne z] at e; exact e, fun a u i e => by
  by_cases z : a = b
  · rw [z, h] at e
    cases e
    exact i.lst.elim
  · rw [upd_ne z]; exact e⟩
instance (priority := low) atTup [r : Chg cs H1 H] [h : At H1 p (.tup xs)] : At H p (.tup xs) := ⟨r.imm p _ (.inl ⟨xs, rfl⟩) h.eq⟩
/-- a Round of these budgets at a -/
class RdC (C : outParam Addr) (H : Hp) (a : Addr) (bs : outParam (List Int)) : Prop where
  ex : ∃ dx t, H a = some (.ins C dx [("_budgets", .ref t)]) ∧ H t = some (.tup (bs.map V.int))
instance (priority := low) rdStep {C a : Addr} {bs : List Int} [r : Chg cs H1 H] [h : RdC C H1 a bs] : RdC C H a bs := ⟨by
  obtain ⟨dx, t, h1, h2⟩ := h.ex
  exact ⟨dx, t, r.imm _ _ (.inr (.inr ⟨_, _, _, rfl⟩)) h1, r.imm _ _ (.inl ⟨_, rfl⟩) h2⟩⟩
theorem rd_live {C a : Addr} {bs : List Int} (h : RdC C H a bs) : Live H a := ⟨by
  obtain ⟨dx, t, h1, h2⟩ := h.ex
  exact ⟨_, h1⟩⟩
end

/-! ### steps of a reading -/
section
variable {K : PySem.W.Frag} {σ : L2.St} {H H1 H2 : Hp} {Q : VK} {QB : Bool → Hp → Prop} {QL : List V → Hp → Prop} {v x y : V} {i j : Nat} {te ta tb : TE} {tt tu : TT} {tl tr : TA} {r : R2} {D : Ends} {t u : TS} {b c : Bool} {sp : Sp} {dvs : List V} {E : XK}
theorem g_var (h : σ[i]? = some (some v)) (q : Q v H) : tVar i σ H Q := ⟨v, h, q⟩
theorem g_c (q : Q v H) : tC v σ H Q := q
theorem g_op (q : ta σ H fun x H1 => tb σ H1 fun y H2 => r x y H2 Q) : tOp r ta tb σ H Q := q
theorem g_un {r : V → Hp → VK → Prop} (q : ta σ H fun x H1 => r x H1 Q) : tUn r ta σ H Q := q
theorem g_test (q : te σ H fun x H' => ∃ k, x = .bl k ∧ QB k H') : tTest te σ H QB := q
theorem g_tB (q : te σ H fun x H' => ∃ k, x = .bl k ∧ QB k H') : tB te σ H QB := q
theorem g_not (q : tt σ H fun c H1 => QB (!c) H1) : tNot tt σ H QB := q
theorem g_and (q : tt σ H fun c H1 => if c = true then tu σ H1 QB else QB false H1) : tAnd tt tu σ H QB := q
theorem g_or (q : tt σ H fun c H1 => if c = true then QB true H1 else tu σ H1 QB) : tOr tt tu σ H QB := q
theorem g_notV (q : te σ H fun x H1 => ∃ c, x = .bl c ∧ Q (.bl (!c)) H1) : tNotV te σ H Q := q
theorem g_andV (q : ta σ H fun x H1 => ∃ c, x = .bl c ∧ if c = true then tb σ H1 Q else Q (.bl false) H1) : tAndV ta tb σ H Q := q
theorem g_orV (q : ta σ H fun x H1 => ∃ c, x = .bl c ∧ if c = true then Q (.bl true) H1 else tb σ H1 Q) : tOrV ta tb σ H Q := q
theorem g_if (q : tt σ H fun c H1 => if c = true then ta σ H1 Q else tb σ H1 Q) : tIf tt ta tb σ H Q := q
theorem g_ifs (q : tt σ H fun c H1 => if c = true then t D σ H1 else u D σ H1) : tIfS tt t u D σ H := q
theorem g_ex {R : Bool → Prop} (q : R b) : ∃ k, V.bl b = .bl k ∧ R k := ⟨b, rfl, q⟩
theorem g_seq (q : t { D with nx := u D } σ H) : tSeq t u D σ H := q
theorem g_seqM {a : L2.St → Hp → Prop} {rt : VK} {bk ct : L2.St → Hp → Prop} (q : t (Ends.mk (u (Ends.mk a rt bk ct)) rt bk ct) σ H) : tSeq t u (Ends.mk a rt bk ct) σ H := q
theorem g_asg (q : te σ H fun x H1 => D.nx (σ.set i (some x)) H1) : tAsg te (gName i) D σ H := q
theorem g_asgG {g : TG} (q : te σ H fun x H1 => g x σ H1 D.nx) : tAsg te g D σ H := q
theorem g_ret (q : te σ H D.rt) : tRet te D σ H := q
theorem g_drop (q : te σ H fun _ H1 => D.nx σ H1) : tDrop te D σ H := q
theorem g_next (q : D.nx σ H) : tNext D σ H := q
theorem g_nx {a : L2.St → Hp → Prop} {rt : VK} {bk ct : L2.St → Hp → Prop} (q : a σ H) : (Ends.mk a rt bk ct).nx σ H := q
theorem g_rt {a : L2.St → Hp → Prop} {rt : VK} {bk ct : L2.St → Hp → Prop} (q : rt v H) : (Ends.mk a rt bk ct).rt v H := q
theorem g_call (q : tl σ H fun vs H1 => sp (vs ++ dvs) H1 Q E) : tCall sp dvs E tl σ H Q := q
theorem g_cons (q : te σ H fun x H1 => tl σ H1 fun xs H2 => QL (x :: xs) H2) : tCons te tl σ H QL := q
theorem g_nil (q : QL [] H) : tNil σ H QL := q
theorem g_cb {r : List V → Hp → VK → Prop} (q : tl σ H fun vs H1 => r vs H1 Q) : tCB r tl σ H Q := q
theorem g_lst (q : tl σ H fun xs H1 => xs.length ≤ sizeLine ∧ ∀ p, H1 p = none → Q (.ref p) (upd H1 p (.lst xs))) : tLst tl σ H Q := q
theorem g_tup (q : tl σ H fun xs H1 => xs.length ≤ sizeLine ∧ ∀ p, H1 p = none → Q (.ref p) (upd H1 p (.tup xs))) : tTup tl σ H Q := q
theorem g_sz {n : Nat} {R : Prop} (h : n ≤ 100000) (q : R) : n ≤ sizeLine ∧ R := ⟨Nat.le_trans h (by decide), q⟩
theorem g_len {y : V} {n : Nat} (h : LenV K y H n) (q : Q (.int n) H) : rLen K [y] H Q := ⟨y, n, rfl, h, q⟩
theorem len_l {p : Addr} {xs : List V} [h : SqC K H p xs] : LenV K (.ref p) H xs.length := .inl ⟨xs, h.sq, rfl⟩
theorem len_t {p : Addr} {xs : List V} [h : StC K H p xs] : LenV K (.ref p) H xs.length := .inr ⟨xs, h.st, rfl⟩
theorem len_s {z : Str} (h : z.length ≤ 100000) : LenV K (.str z) H z.length := ⟨Nat.le_trans h (by decide), rfl⟩
theorem g_int {i : Int} (q : Q (.int i) H) : rInt [V.int i] H Q := .inl ⟨i, rfl, q⟩
theorem g_intB {k : Bool} (q : Q (.int (if k then 1 else 0)) H) : rInt [V.bl k] H Q := .inr ⟨k, rfl, q⟩
theorem g_abs {i : Int} (q : Q (.int (if i < 0 then -i else i)) H) : rAbs [V.int i] H Q := ⟨i, rfl, q⟩
theorem g_max2 {i j : Int} (q : Q (.int (if j > i then j else i)) H) : rMax2 [V.int i, .int j] H Q := ⟨i, j, rfl, q⟩
theorem g_min2 {i j : Int} (q : Q (.int (if j < i then j else i)) H) : rMin2 [V.int i, .int j] H Q := ⟨i, j, rfl, q⟩
theorem g_ixL {p : Addr} {xs : List V} {i : Int} [h : SqC K H p xs] (a : atI xs i = some v) (q : Q v H) : rIx K (.ref p) (.int i) H Q := .inl ⟨p, xs, i, v, rfl, rfl, h.sq, a, q⟩
theorem g_ixT {p : Addr} {xs : List V} {i : Int} [h : StC K H p xs] (a : atI xs i = some v) (q : Q v H) : rIx K (.ref p) (.int i) H Q := .inr (.inl ⟨p, xs, i, v, rfl, rfl, h.st, a, q⟩)
theorem g_ixI {p : Addr} {ns : List Int} {i : Int} [h : SqC K H p (ns.map V.int)] (h0 : 0 ≤ i) (h1 : i < (ns.length : Int)) (q : Q (.int (ns.getD i.toNat 0)) H) : rIx K (.ref p) (.int i) H Q := by
  refine g_ixL ?_ q
  obtain ⟨j, rfl⟩ : ∃ j : Nat, i = (j : Int) := ⟨i.toNat, by omega⟩
  refine atI_nat ?_
  have h2 : j < ns.length := by omega
  rw [List.getElem?_map, List.getElem?_eq_getElem h2, Option.map_some, Int.toNat_natCast, List.getD_eq_getElem?_getD, List.getElem?_eq_getElem h2, Option.getD_some]
theorem g_ixS {z : Str} {i : Int} {c : Nat} (h : z.length ≤ 100000) (a : atI z.cps.toList i = some c) (q : Q (.str ⟨#[c]⟩) H) : rIx K (.str z) (.int i) H Q := .inr (.inr ⟨z, i, c, rfl, rfl, Nat.le_trans h (by decide), a, q⟩)
theorem g_gsub {to ti : TE} {ts : TSet} {R : L2.St → Hp → Prop} (q : to σ H fun o H1 => ti σ H1 fun i H2 => ts o i v H2 fun H3 => R σ H3) : gSub to ti ts v σ H R := q
theorem g_set {p : Addr} {xs : List V} {k : Int} {j : Nat} {R : Hp → Prop} [h : At H p (.lst xs)] (hj : ixN xs.length k = some j) (q : ∀ H2, ExB p H H2 → At H2 p (.lst (xs.set j v)) → R H2) : rSetL (.ref p) (.int k) v H R :=
  ⟨p, xs, k, j, rfl, rfl, h.eq, hj, q _ (ExB.upd h.eq) ⟨upd_same⟩⟩
theorem g_sl {r : V → Option Int → Option Int → Hp → VK → Prop} {t1 t2 : TO} (q : te σ H fun x H1 => t1 σ H1 fun l H2 => t2 σ H2 fun u H3 => r x l u H3 Q) : tSl r te t1 t2 σ H Q := q
theorem g_noPart {R : Option Int → Hp → Prop} (q : R none H) : tNoPart σ H R := q
theorem g_part {R : Option Int → Hp → Prop} (q : te σ H fun x H1 => ∃ i, x = .int i ∧ R (some i) H1) : tPart te σ H R := q
theorem g_exI {i : Int} {R : Int → Prop} (q : R i) : ∃ k, V.int i = .int k ∧ R k := ⟨i, rfl, q⟩
theorem g_bm {T : String} {r : V → List V → Hp → VK → Prop} (q : te σ H fun x H1 => tyV K T x H1 ∧ tl σ H1 fun xs H2 => r x xs H2 Q) : tBM K T r te tl σ H Q := q
theorem g_bm0 {T : String} {r : V → List V → Hp → VK → Prop} (q : te σ H fun x H1 => tyV K T x H1 ∧ r x [] H1 Q) : tBM0 K T r te σ H Q := q
theorem g_tyL {p : Addr} {xs : List V} {R : Prop} [h : SqC K H p xs] (q : R) : tyV K "list" (.ref p) H ∧ R := ⟨.inl ⟨rfl, xs, h.sq⟩, q⟩
theorem g_tyS {z : Str} {R : Prop} (q : R) : tyV K "str" (.str z) H ∧ R := ⟨rfl, q⟩
theorem g_app {p : Addr} {xs : List V} [h : At H p (.lst xs)] (hz : xs.length < 100000) (q : ∀ H2, ExB p H H2 → At H2 p (.lst (xs ++ [v])) → Q .non H2) : rAppend (.ref p) [v] H Q :=
  ⟨p, xs, v, rfl, rfl, h.eq, Nat.lt_of_lt_of_le hz (by decide), q _ (ExB.upd h.eq) ⟨upd_same⟩⟩
theorem g_new {o : HO} {R : Addr → Hp → Prop} (q : ∀ p H2, Nw H p → Ex H H2 → At H2 p o → R p H2) : ∀ p, H p = none → R p (upd H p o) := fun p hp => q p _ ⟨hp⟩ (Ex.mk hp) ⟨upd_same⟩

theorem g_I0 {g : Int → Int → V} {i j : Int} (q : Q (g i j) H) : rI0 g (.int i) (.int j) H Q := ⟨i, j, rfl, rfl, q⟩
theorem g_add {i j : Int} (q : Q (.int (i + j)) H) : rAdd K (.int i) (.int j) H Q := .inl ⟨i, j, rfl, rfl, q⟩
theorem g_addS {a b : Str} (h : a.length + b.length ≤ 100000) (q : Q (.str (a ++ b)) H) : rAdd K (.str a) (.str b) H Q := .inr (.inl ⟨a, b, rfl, rfl, Nat.le_trans h (by decide), q⟩)
theorem g_mulL {i j : Int} (h : -(2 ^ 64) < i ∧ i < 2 ^ 64) (q : Q (.int (i * j)) H) : rMul K (.int i) (.int j) H Q := .inl ⟨i, j, rfl, rfl, .inl h, q⟩
theorem g_mulR {i j : Int} (h : -(2 ^ 64) < j ∧ j < 2 ^ 64) (q : Q (.int (i * j)) H) : rMul K (.int i) (.int j) H Q := .inl ⟨i, j, rfl, rfl, .inr h, q⟩
theorem g_mulX {i j : Int} (h : CMulX i j) (q : Q (.int (i * j)) H) : rMul K (.int i) (.int j) H Q := .inr (.inl ⟨i, j, rfl, rfl, h, q⟩)
theorem g_mulS {z : Str} {n : Int} (h : n < 2 ^ 40 ∧ -(2 ^ 40) ≤ n ∧ z.length * n.toNat ≤ 100000) (q : Q (.str (repS z n.toNat)) H) : rMul K (.str z) (.int n) H Q := .inr (.inr (.inl ⟨z, n, rfl, rfl, h, q⟩))
theorem g_sub {i j : Int} (q : Q (.int (i - j)) H) : rSub (.int i) (.int j) H Q := ⟨i, j, rfl, rfl, q⟩
theorem g_mod {i j : Int} (h : 0 < j) (q : Q (.int (i % j)) H) : rMod (.int i) (.int j) H Q := ⟨i, j, rfl, rfl, h, q⟩
theorem g_div {i j : Int} (h : CDivW i j) (q : Q (.int (i / j)) H) : rDiv (.int i) (.int j) H Q := ⟨i, j, rfl, rfl, h, q⟩
theorem cpow_ok {i j : Int} (h1 : 0 ≤ j) (h2 : j ≤ 1000000) (h3 : i.natAbs < 2 ^ 64) : CPow i j := ⟨h1, h2, h3⟩
theorem g_pow {i j k : Int} (h : CPow i j) (e : i ^ j.toNat = k) (q : Q (.int k) H) : rPow (.int i) (.int j) H Q := ⟨i, j, rfl, rfl, h, by show Q (.int (i ^ j.toNat)) H; rw [e]; exact q⟩
theorem g_lt {i j : Int} (q : Q (.bl (decide (i < j))) H) : rLt (.int i) (.int j) H Q := ⟨i, j, rfl, rfl, q⟩
theorem g_le {i j : Int} (q : Q (.bl (decide (i ≤ j))) H) : rLe (.int i) (.int j) H Q := ⟨i, j, rfl, rfl, q⟩
theorem g_gt {i j : Int} (q : Q (.bl (decide (j < i))) H) : rGt (.int i) (.int j) H Q := ⟨i, j, rfl, rfl, q⟩
theorem g_ge {i j : Int} (q : Q (.bl (decide (j ≤ i))) H) : rGe (.int i) (.int j) H Q := ⟨i, j, rfl, rfl, q⟩
theorem dI {i j : Int} : decide (V.int i = V.int j) = decide (i = j) := by
  by_cases h : i = j <;> simp [h]
theorem dB {i j : Bool} : decide (V.bl i = V.bl j) = (i == j) := dec_bl
theorem dS {i j : Str} : decide (V.str i = V.str j) = decide (i = j) := by
  by_cases h : i = j <;> simp [h]
theorem g_eq {i j : Int} (q : Q (.bl (decide (i = j))) H) : rEqX K (.int i) (.int j) H Q := .inl ⟨rfl, by rw [dI]; exact q⟩
theorem g_ne {i j : Int} (q : Q (.bl (!decide (i = j))) H) : rNeX K (.int i) (.int j) H Q := .inl ⟨rfl, by rw [dI]; exact q⟩
theorem g_eqB {i j : Bool} (q : Q (.bl (i == j)) H) : rEqX K (.bl i) (.bl j) H Q := .inl ⟨rfl, by rw [dB]; exact q⟩
theorem g_neB {i j : Bool} (q : Q (.bl (!(i == j))) H) : rNeX K (.bl i) (.bl j) H Q := .inl ⟨rfl, by rw [dB]; exact q⟩
theorem g_eqS {i j : Str} (q : Q (.bl (decide (i = j))) H) : rEqX K (.str i) (.str j) H Q := .inl ⟨rfl, by rw [dS]; exact q⟩
theorem g_neS {i j : Str} (q : Q (.bl (!decide (i = j))) H) : rNeX K (.str i) (.str j) H Q := .inl ⟨rfl, by rw [dS]; exact q⟩
theorem g_isN (q : Q (.bl (decide (x = .non))) H) : rIsN x .non H Q := ⟨rfl, q⟩
theorem g_notN (q : Q (.bl (!decide (x = .non))) H) : rNotN x .non H Q := ⟨rfl, q⟩

theorem g_ite {p : Prop} {_ : Decidable p} {A B : Prop} (h1 : p → A) (h2 : ¬ p → B) : if decide p = true then A else B := by
  by_cases h : p
  · rw [if_pos (decide_eq_true h)]; exact h1 h
  · rw [if_neg (by rw [decide_eq_false h]; exact Bool.false_ne_true)]; exact h2 h
theorem g_iteN {p : Prop} {_ : Decidable p} {A B : Prop} (h1 : ¬ p → A) (h2 : p → B) : if (!decide p) = true then A else B := by
  by_cases h : p
  · rw [if_neg (by rw [decide_eq_true h]; exact Bool.false_ne_true)]; exact h2 h
  · rw [if_pos (by rw [decide_eq_false h]; rfl)]; exact h1 h
theorem iteNT {A B : Prop} (h : A) : if (!false) = true then A else B := iteT h
theorem iteNF {A B : Prop} (h : B) : if (!true) = true then A else B := iteF h
theorem g_itB {A B : Prop} (h1 : b = true → A) (h2 : b = false → B) : if b = true then A else B := by
  cases b
  · rw [if_neg Bool.false_ne_true]; exact h2 rfl
  · rw [if_pos rfl]; exact h1 rfl
theorem g_itNB {A B : Prop} (h1 : b = false → A) (h2 : b = true → B) : if (!b) = true then A else B := by
  cases b
  · exact iteT (h1 rfl)
  · exact iteF (h2 rfl)
end


/-! ### steps found by their head -/
/-- G follows from G' -/
class Step (G : Prop) (G' : outParam Prop) : Prop where
  run : G' → G
class Look (σ : L2.St) (i : Nat) (v : outParam V) : Prop where
  at_ : σ[i]? = some (some v)
instance {v : V} {σ : L2.St} : Look (some v :: σ) 0 v := ⟨rfl⟩
instance {a : Option V} {σ : L2.St} {i : Nat} {v : V} [h : Look σ i v] : Look (a :: σ) (i + 1) v := ⟨by simpa using h.at_⟩
class SetL (σ : L2.St) (i : Nat) (x : Option V) (τ : outParam L2.St) : Prop where
  eq : σ.set i x = τ
instance {a x : Option V} {σ : L2.St} : SetL (a :: σ) 0 x (x :: σ) := ⟨rfl⟩
instance {a x : Option V} {σ τ : L2.St} {i : Nat} [h : SetL σ i x τ] : SetL (a :: σ) (i + 1) x (a :: τ) := ⟨by rw [← h.eq]; rfl⟩
section
variable {K : PySem.W.Frag} {σ τ : L2.St} {H H1 H2 : Hp} {Q : VK} {QB : Bool → Hp → Prop} {QL : List V → Hp → Prop} {v x y : V} {i j : Nat} {te ta tb : TE} {tt tu : TT} {tl tr : TA} {r : R2} {D : Ends} {t u : TS} {b c : Bool} {sp : Sp} {dvs : List V} {E : XK}
instance [h : Look σ i v] : Step (tVar i σ H Q) (Q v H) := ⟨g_var h.at_⟩
instance : Step (tC v σ H Q) (Q v H) := ⟨g_c⟩
instance : Step (tOp r ta tb σ H Q) (ta σ H fun x H1 => tb σ H1 fun y H2 => r x y H2 Q) := ⟨g_op⟩
instance {r : V → Hp → VK → Prop} : Step (tUn r ta σ H Q) (ta σ H fun x H1 => r x H1 Q) := ⟨g_un⟩
instance : Step (tTest te σ H QB) (te σ H fun x H' => ∃ k, x = .bl k ∧ QB k H') := ⟨g_test⟩
instance : Step (tB te σ H QB) (te σ H fun x H' => ∃ k, x = .bl k ∧ QB k H') := ⟨g_tB⟩
instance : Step (tNot tt σ H QB) (tt σ H fun c H1 => QB (!c) H1) := ⟨g_not⟩
instance : Step (tAnd tt tu σ H QB) (tt σ H fun c H1 => if c = true then tu σ H1 QB else QB false H1) := ⟨g_and⟩
instance : Step (tOr tt tu σ H QB) (tt σ H fun c H1 => if c = true then QB true H1 else tu σ H1 QB) := ⟨g_or⟩
instance : Step (tNotV te σ H Q) (te σ H fun x H1 => ∃ c, x = .bl c ∧ Q (.bl (!c)) H1) := ⟨g_notV⟩
instance : Step (tAndV ta tb σ H Q) (ta σ H fun x H1 => ∃ c, x = .bl c ∧ if c = true then tb σ H1 Q else Q (.bl false) H1) := ⟨g_andV⟩
instance : Step (tOrV ta tb σ H Q) (ta σ H fun x H1 => ∃ c, x = .bl c ∧ if c = true then Q (.bl true) H1 else tb σ H1 Q) := ⟨g_orV⟩
instance : Step (tIf tt ta tb σ H Q) (tt σ H fun c H1 => if c = true then ta σ H1 Q else tb σ H1 Q) := ⟨g_if⟩
instance : Step (tIfS tt t u D σ H) (tt σ H fun c H1 => if c = true then t D σ H1 else u D σ H1) := ⟨g_ifs⟩
instance {R : Bool → Prop} : Step (∃ k, V.bl b = .bl k ∧ R k) (R b) := ⟨g_ex⟩
instance {i : Int} {R : Int → Prop} : Step (∃ k, V.int i = .int k ∧ R k) (R i) := ⟨g_exI⟩
instance : Step (tSeq t u D σ H) (t { D with nx := u D } σ H) := ⟨g_seq⟩
instance (priority := high) {a : L2.St → Hp → Prop} {rt : VK} {bk ct : L2.St → Hp → Prop} : Step (tSeq t u (Ends.mk a rt bk ct) σ H) (t (Ends.mk (u (Ends.mk a rt bk ct)) rt bk ct) σ H) := ⟨g_seqM⟩
instance : Step (tAsg te (gName i) D σ H) (te σ H fun x H1 => gName i x σ H1 D.nx) := ⟨fun q => q⟩
instance {R : L2.St → Hp → Prop} [h : SetL σ i (some v) τ] : Step (gName i v σ H R) (R τ H) := ⟨fun q => by show R _ H; rw [h.eq]; exact q⟩
instance : Step (tRet te D σ H) (te σ H D.rt) := ⟨g_ret⟩
instance : Step (tRetN D σ H) (D.rt .non H) := ⟨fun q => q⟩
instance : Step (tDrop te D σ H) (te σ H fun _ H1 => D.nx σ H1) := ⟨g_drop⟩
instance : Step (tNext D σ H) (D.nx σ H) := ⟨g_next⟩
instance : Step (tBreak D σ H) (D.bk σ H) := ⟨fun q => q⟩
instance : Step (tCont D σ H) (D.ct σ H) := ⟨fun q => q⟩
instance {a : L2.St → Hp → Prop} {rt : VK} {bk ct : L2.St → Hp → Prop} : Step ((Ends.mk a rt bk ct).nx σ H) (a σ H) := ⟨g_nx⟩
instance {a : L2.St → Hp → Prop} {rt : VK} {bk ct : L2.St → Hp → Prop} : Step ((Ends.mk a rt bk ct).rt v H) (rt v H) := ⟨g_rt⟩
instance {a : L2.St → Hp → Prop} {rt : VK} {bk ct : L2.St → Hp → Prop} : Step ((Ends.mk a rt bk ct).bk σ H) (bk σ H) := ⟨fun q => q⟩
instance {a : L2.St → Hp → Prop} {rt : VK} {bk ct : L2.St → Hp → Prop} : Step ((Ends.mk a rt bk ct).ct σ H) (ct σ H) := ⟨fun q => q⟩
instance : Step (tCall sp dvs E tl σ H Q) (tl σ H fun vs H1 => sp (vs ++ dvs) H1 Q E) := ⟨g_call⟩
instance : Step (tCons te tl σ H QL) (te σ H fun x H1 => tl σ H1 fun xs H2 => QL (x :: xs) H2) := ⟨g_cons⟩
instance : Step (tNil σ H QL) (QL [] H) := ⟨g_nil⟩
instance {n m : Nat} {gV : List V → List V → List V} : Step (tCallN n m sp gV E tl tr σ H Q) (tl σ H fun vs H1 => tr σ H1 fun zs H2 => vs.length = n ∧ zs.length = m ∧ sp (gV vs zs) H2 Q E) := ⟨fun q => q⟩
instance {r : List V → Hp → VK → Prop} : Step (tCB r tl σ H Q) (tl σ H fun vs H1 => r vs H1 Q) := ⟨g_cb⟩
def rNewL (xs : List V) (H1 : Hp) (Q : VK) : Prop := xs.length ≤ sizeLine ∧ ∀ p, H1 p = none → Q (.ref p) (upd H1 p (.lst xs))
def rNewT (xs : List V) (H1 : Hp) (Q : VK) : Prop := xs.length ≤ sizeLine ∧ ∀ p, H1 p = none → Q (.ref p) (upd H1 p (.tup xs))
theorem g_newL {xs : List V} (hz : xs.length ≤ 100000) (q : ∀ p H2, Nw H p → Ex H H2 → At H2 p (.lst xs) → Q (.ref p) H2) : rNewL xs H Q := ⟨Nat.le_trans hz (by decide), fun p hp => q p _ ⟨hp⟩ (Ex.mk hp) ⟨upd_same⟩⟩
theorem g_newT {xs : List V} (hz : xs.length ≤ 100000) (q : ∀ p H2, Nw H p → Ex H H2 → At H2 p (.tup xs) → Q (.ref p) H2) : rNewT xs H Q := ⟨Nat.le_trans hz (by decide), fun p hp => q p _ ⟨hp⟩ (Ex.mk hp) ⟨upd_same⟩⟩
instance : Step (tLst tl σ H Q) (tl σ H fun xs H1 => rNewL xs H1 Q) := ⟨g_lst⟩
instance : Step (tTup tl σ H Q) (tl σ H fun xs H1 => rNewT xs H1 Q) := ⟨g_tup⟩
instance {i j : Int} : Step (rAdd K (.int i) (.int j) H Q) (Q (.int (i + j)) H) := ⟨g_add⟩
instance {i j : Int} : Step (rSub (.int i) (.int j) H Q) (Q (.int (i - j)) H) := ⟨g_sub⟩
instance {i j : Int} : Step (rLt (.int i) (.int j) H Q) (Q (.bl (decide (i < j))) H) := ⟨g_lt⟩
instance {i j : Int} : Step (rLe (.int i) (.int j) H Q) (Q (.bl (decide (i ≤ j))) H) := ⟨g_le⟩
instance {i j : Int} : Step (rGt (.int i) (.int j) H Q) (Q (.bl (decide (j < i))) H) := ⟨g_gt⟩
instance {i j : Int} : Step (rGe (.int i) (.int j) H Q) (Q (.bl (decide (j ≤ i))) H) := ⟨g_ge⟩
instance {i j : Int} : Step (rEqX K (.int i) (.int j) H Q) (Q (.bl (decide (i = j))) H) := ⟨g_eq⟩
instance {i j : Int} : Step (rNeX K (.int i) (.int j) H Q) (Q (.bl (!decide (i = j))) H) := ⟨g_ne⟩
instance {i j : Bool} : Step (rEqX K (.bl i) (.bl j) H Q) (Q (.bl (i == j)) H) := ⟨g_eqB⟩
instance {i j : Bool} : Step (rNeX K (.bl i) (.bl j) H Q) (Q (.bl (!(i == j))) H) := ⟨g_neB⟩
instance {i j : Str} : Step (rEqX K (.str i) (.str j) H Q) (Q (.bl (decide (i = j))) H) := ⟨g_eqS⟩
instance {i j : Str} : Step (rNeX K (.str i) (.str j) H Q) (Q (.bl (!decide (i = j))) H) := ⟨g_neS⟩
theorem g_isNn (q : Q (.bl true) H) : rIsN .non .non H Q := ⟨rfl, q⟩
theorem g_notNn (q : Q (.bl false) H) : rNotN .non .non H Q := ⟨rfl, q⟩
instance : Step (rIsN .non .non H Q) (Q (.bl true) H) := ⟨g_isNn⟩
instance : Step (rNotN .non .non H Q) (Q (.bl false) H) := ⟨g_notNn⟩
instance {i : Int} : Step (rIsN (.int i) .non H Q) (Q (.bl false) H) := ⟨fun q => ⟨rfl, q⟩⟩
instance {i : Int} : Step (rNotN (.int i) .non H Q) (Q (.bl true) H) := ⟨fun q => ⟨rfl, q⟩⟩
instance {p : Addr} : Step (rIsN (.ref p) .non H Q) (Q (.bl false) H) := ⟨fun q => ⟨rfl, q⟩⟩
instance {p : Addr} : Step (rNotN (.ref p) .non H Q) (Q (.bl true) H) := ⟨fun q => ⟨rfl, q⟩⟩
instance {z : Str} : Step (rIsN (.str z) .non H Q) (Q (.bl false) H) := ⟨fun q => ⟨rfl, q⟩⟩
instance {z : Str} : Step (rNotN (.str z) .non H Q) (Q (.bl true) H) := ⟨fun q => ⟨rfl, q⟩⟩
instance {i : Int} : Step (rInt [V.int i] H Q) (Q (.int i) H) := ⟨g_int⟩
instance {k : Bool} : Step (rInt [V.bl k] H Q) (Q (.int (if k then 1 else 0)) H) := ⟨g_intB⟩
instance {i : Int} : Step (rAbs [V.int i] H Q) (Q (.int (if i < 0 then -i else i)) H) := ⟨g_abs⟩
instance {i j : Int} : Step (rMax2 [V.int i, .int j] H Q) (Q (.int (if j > i then j else i)) H) := ⟨g_max2⟩
instance {i j : Int} : Step (rMin2 [V.int i, .int j] H Q) (Q (.int (if j < i then j else i)) H) := ⟨g_min2⟩
instance {g : Int → V} {i : Int} : Step (rU g (.int i) H Q) (Q (g i) H) := ⟨fun q => ⟨i, rfl, q⟩⟩
instance {to ti : TE} {ts : TSet} {R : L2.St → Hp → Prop} : Step (gSub to ti ts v σ H R) (to σ H fun o H1 => ti σ H1 fun i H2 => ts o i v H2 fun H3 => R σ H3) := ⟨g_gsub⟩
instance (priority := low) {g : TG} : Step (tAsg te g D σ H) (te σ H fun x H1 => g x σ H1 D.nx) := ⟨g_asgG⟩
instance {r : V → Option Int → Option Int → Hp → VK → Prop} {t1 t2 : TO} : Step (tSl r te t1 t2 σ H Q) (te σ H fun x H1 => t1 σ H1 fun l H2 => t2 σ H2 fun u H3 => r x l u H3 Q) := ⟨g_sl⟩
instance {R : Option Int → Hp → Prop} : Step (tNoPart σ H R) (R none H) := ⟨g_noPart⟩
instance {R : Option Int → Hp → Prop} : Step (tPart te σ H R) (te σ H fun x H1 => ∃ i, x = .int i ∧ R (some i) H1) := ⟨g_part⟩
instance {T : String} {r : V → List V → Hp → VK → Prop} : Step (tBM K T r te tl σ H Q) (te σ H fun x H1 => tyV K T x H1 ∧ tl σ H1 fun xs H2 => r x xs H2 Q) := ⟨g_bm⟩
instance {T : String} {r : V → List V → Hp → VK → Prop} : Step (tBM0 K T r te σ H Q) (te σ H fun x H1 => tyV K T x H1 ∧ r x [] H1 Q) := ⟨g_bm0⟩
instance {z : Str} {R : Prop} : Step (tyV K "str" (.str z) H ∧ R) R := ⟨g_tyS⟩
instance {A B : Prop} : Step (if true = true then A else B) A := ⟨iteT⟩
instance {A B : Prop} : Step (if false = true then A else B) B := ⟨iteF⟩
instance {A B : Prop} : Step (if (!false) = true then A else B) A := ⟨iteNT⟩
instance {A B : Prop} : Step (if (!true) = true then A else B) B := ⟨iteNF⟩
end

/-! ### enumerate(text) -/
def Itse (x : Str) : It :=
  ⟨fun i _ => i < x.cps.size, fun i H v H' => ∃ T c, v = .ref T ∧ H T = none ∧ H' = upd H T (.tup [.int (i : Nat), .str ⟨#[c]⟩]) ∧ x.cps[i]? = some c, fun i _ => x.cps.size ≤ i⟩
theorem turn_enumS {P : Program} {w : World} {K : PySem.W.Frag} {elts : List Expr} {kk : Nat} {tpos : Pos} (x : Str) (t : Tok) (e it : Addr) (hne : e ≠ it) :
    Turn P w K (.Tuple elts kk tpos) (Itse x) [e, it] e (fun i h => ((∃ old, IsEnum h e it ((i : Nat) : Int) old) ∧ h.IsStrIter it (strIterType x) x t i) ∧ i ≤ x.cps.size) where
  mem := by simp
  obj := fun i h st b hb => by
    obtain ⟨⟨⟨old, he⟩, o, ho, hc, hd⟩, hle⟩ := st
    have e' : b = e ∨ b = it := by simpa using hb
    rcases e' with z | z
    · rw [z]; exact ⟨_, he, fun v q => nomatch q⟩
    · rw [z]; exact ⟨o, ho, fun v q => by rw [hd] at q; cases q⟩
  keep := fun i h h' st k => by
    obtain ⟨⟨⟨old, he⟩, o, ho, r⟩, hle⟩ := st
    exact ⟨⟨⟨old, k e (by simp) _ he⟩, o, k it (by simp) o ho, r⟩, hle⟩
  item := by
    intro X hP hw hK hc i pins s σ H E I hf st hg
    subst hP hw hK
    obtain ⟨⟨⟨old, he⟩, hit⟩, hle⟩ := st
    have hlt : i < x.cps.size := hg
    have hel : e < s.heap.objs.size := Heap.lt_size he
    have hil : it < s.heap.objs.size := by obtain ⟨_, q, _⟩ := hit; exact Heap.lt_size q
    have D := Draws.text (prog := X.prog) (w := X.w) (A := X.A.in1) (I.ok.hd hc) it x t
    refine wpAny_pyNext_enum_itemD D he hit hlt hne (by simpa using hne) fun v h' tk hv ho hit' hT hsz hk => ?_
    obtain ⟨c, u, hcx, rfl⟩ := hv
    refine ⟨_, rfl, wpAny_letOwnedTupleGo_enum (s := { s with heap := h', toks := tk + 1 }) ho fun h'' he' sb => ?_⟩
    have hT2 : h''.get? s.heap.objs.size = some { cls := .type "tuple", data := .seq #[.int i tk, .str ⟨#[c]⟩ u] } := (sb.2 _ (Nat.ne_of_gt hel)).trans hT
    have new : ObjOk X.prog X.w (upd H s.heap.objs.size (.tup [.int (i : Nat), .str ⟨#[c]⟩])) h'' s.heap.objs.size (.tup [.int (i : Nat), .str ⟨#[c]⟩]) :=
      ⟨by show 2 ≤ sizeLine; decide, [.int i tk, .str ⟨#[c]⟩ u], .cons ⟨_, rfl⟩ (.cons ⟨_, rfl⟩ .nil), ⟨_, hT2, rfl, _, rfl⟩⟩
    have I1 : Inv X pins σ (upd H s.heap.objs.size (.tup [.int (i : Nat), .str ⟨#[c]⟩])) { s with heap := h'', toks := tk + 1 } :=
      I.turnedNew (ch := [e, it]) (fun b ob hb q => (sb.2 b (fun z => hb (by simp [z]))).trans (hk b ob (fun z => hb (by simp [z])) (fun z => hb (by simp [z])) q)) hf (Nat.le_refl _) new
    refine ⟨.ref s.heap.objs.size, _, I1, rfl, ⟨_, c, rfl, I.hok.fresh (Nat.le_refl _), rfl, hcx⟩, ⟨⟨⟨.str ⟨#[c]⟩ u, ?_⟩, ?_⟩, hlt⟩, fun b hb => ?_⟩
    · have e1 : ((i + 1 : Nat) : Int) = (i : Int) + 1 := by omega
      rw [e1]; exact he'
    · obtain ⟨o, e1, r⟩ := hit'
      exact ⟨o, (sb.2 it (Ne.symm hne)).trans e1, r⟩
    · have hb' : b < s.heap.objs.size := by
        have e' : b = e ∨ b = it := by simpa using hb
        rcases e' with z | z
        · rw [z]; exact hel
        · rw [z]; exact hil
      rw [upd_ne (Nat.ne_of_lt hb')]
      exact (hf b hb).1
  done := by
    intro X hP hw hK hc i pins s σ H E I hf st hg
    subst hP hw hK
    obtain ⟨⟨⟨old, he⟩, hit⟩, hle⟩ := st
    have hge : x.cps.size ≤ i := hg
    obtain ⟨f0, f1, f2, f3, f4, f5⟩ := hf it (by simp)
    have ei : i = x.cps.size := Nat.le_antisymm hle hge
    subst ei
    have D := Draws.text (prog := X.prog) (w := X.w) (A := X.A.in1) (I.ok.hd hc) it x t
    exact wpAny_pyNext_enum_endD D he hit fun h' eb => ⟨rfl, I.turned (t' := s.toks) (fun b o hb q => eb b o hb q) f0 f1 f3 f4 f5⟩
  self := fun A i s Q E st h => let ⟨⟨⟨_, he⟩, _⟩, _⟩ := st; wpAny_pyIter_enum he h
def iEnumS (ta : TA) : TI := fun σ H R => ta σ H fun vs H1 => ∃ x, vs = [.str x] ∧ R (Itse x) H1
theorem pi_enumS {X : Cx} {e : Expr} {ta : TA} {p pos tpos : Pos} {elts : List Expr} {kk : Nat} (hg : Gl X "enumerate") (hm : X.mg "enumerate" = none) (ha : PA X [e] ta) (hs : starEach [e] X.env = [(false, eval e X.env)] := by rfl) :
    PI X (.Tuple elts kk tpos) (.Call (.Name "enumerate" p) [e] [] pos) (iEnumS ta) := by
  refine ⟨fun pins s σ H R I h => ?_⟩
  refine Call_ (ld_blt I hg hm boot_enumerate (PyProof.Rows.callWith_type1 (thn (ha.run pos pins s σ H _ I h) fun us s1 ⟨vs, H1, I1, r1, q1⟩ => ?_) hs rfl))
  obtain ⟨x, ex, q⟩ := q1
  subst ex
  cases r1 with
  | cons r rr =>
    cases rr
    obtain ⟨t, rfl⟩ := r
    refine call_enumerate_str fun h' he hit hsz hk => wpAny_pyIter_enum he ?_
    have I2 : Inv X pins σ H1 { s1 with heap := h' } := I1.kept (t' := s1.toks) hk
    refine ⟨s1.heap.objs.size + 1, [s1.heap.objs.size + 1, s1.heap.objs.size], _, _, H1, rfl, I2, turn_enumS x t (s1.heap.objs.size + 1) s1.heap.objs.size (Nat.succ_ne_self _), ⟨⟨⟨.none, he⟩, hit⟩, Nat.zero_le _⟩, fun b hb => ?_, q⟩
    have e' : b = s1.heap.objs.size + 1 ∨ b = s1.heap.objs.size := by simpa using hb
    have hle : s1.heap.objs.size ≤ b := by
      rcases e' with z | z
      · rw [z]; exact Nat.le_add_right _ _
      · rw [z]; exact Nat.le_refl _
    exact I1.fpOk hle (I1.hok.fresh hle)
/-! ### loops -/
section
variable {K : PySem.W.Frag} {σ τ : L2.St} {H : Hp} {Q : VK} {j : Nat} {ta : TA} {te tl : TE} {tt : TT} {D : Ends} {tb : TS} {g : TG}
/-- any iterator told by what it gives: n items, where S stands, the i-th as Y tells -/
structure Feeds (J : It) (n : Nat) (S : Hp → Prop) (Y : Nat → Hp → V → Hp → Prop) : Prop where
  go : ∀ i H, S H → i < n → J.go i H
  yld : ∀ i H x H', S H → i < n → J.yld i H x H' → Y i H x H'
  stop : ∀ H, S H → J.stop n H
abbrev ForW (J : It) (g : TG) (tb : TS) (D : Ends) (σ : L2.St) (H : Hp) : Prop := ∃ W : Nat → Nat → L2.St → Hp → Prop, (∃ m, W 0 m σ H) ∧ ∀ i m σ H, W i m σ H →
      (J.stop i H ∧ D.nx σ H) ∨ (J.go i H ∧ ∃ N : L2.St → Hp → Prop, (∀ σ' H', N σ' H' → ∃ m', m' < m ∧ W (i + 1) m' σ' H') ∧ ∀ v H', J.yld i H v H' → g v σ H' fun σ2 H2 => tb { D with nx := N, ct := N, bk := D.nx } σ2 H2)
abbrev LcW (J : It) (g : TG) (tt : TT) (te : TE) (vs : List Nat) (σ : L2.St) (H : Hp) (Q : VK) : Prop := ∀ D, H D = none → ∃ W : Nat → Nat → Hp → Prop, (∃ m, W 0 m (upd H D (.lst []))) ∧ ∀ i m H, W i m H →
      (J.stop i H ∧ Q (.ref D) H) ∨ (J.go i H ∧ ∃ Nx : Hp → Prop, (∀ H', Nx H' → ∃ m', m' < m ∧ W (i + 1) m' H') ∧ ∀ x H', J.yld i H x H' → g x (wipe σ vs) H' fun σ2 H2 => wipe σ2 vs = wipe σ vs ∧ tt σ2 H2 fun b H3 =>
        if b = true then te σ2 H3 fun y H4 => ∃ acc, H4 D = some (.lst acc) ∧ acc.length < sizeLine ∧ Nx (upd H4 D (.lst (acc ++ [y]))) else Nx H3)
/-- the invariant: what is not in bs stands as it stood at H, and Pv -/
def LI (bs : List Addr) (H : Hp) (Pv : L2.St → Hp → Prop) : L2.St → Hp → Prop := fun σ' H' => Chg bs H H' ∧ Pv σ' H'
theorem li {bs : List Addr} {H H' : Hp} {Pv : L2.St → Hp → Prop} {σ' : L2.St} [r : RelC bs H H'] [k : Anc H H'] (h : Pv σ' H') : LI bs H Pv σ' H' := ⟨rel, h⟩
theorem for_feeds {J : It} {n : Nat} {S : Hp → Prop} {Y : Nat → Hp → V → Hp → Prop} (F : Feeds J n S Y) (bs : List Addr) (Pv : Nat → L2.St → Hp → Prop) (h0 : Pv 0 σ H) (hS : ∀ H', Chg bs H H' → S H')
    (hs : ∀ (i : Nat) σ' H' x H'', i < n → Chg bs H H' → Pv i σ' H' → Y i H' x H'' → g x σ' H'' fun σ2 H2 => tb { D with nx := LI bs H (Pv (i + 1)), ct := LI bs H (Pv (i + 1)), bk := D.nx } σ2 H2) (hd : ∀ σ' H', Chg bs H H' → Pv n σ' H' → D.nx σ' H') :
    ForW J g tb D σ H := by
  refine ⟨fun i m σ' H' => m = n - i ∧ i ≤ n ∧ LI bs H (Pv i) σ' H', ⟨n, rfl, Nat.zero_le _, Chg.refl _ _, h0⟩, ?_⟩
  rintro i m σ' H' ⟨rfl, hi, r, p⟩
  have q := hS H' r
  by_cases hlt : i < n
  · exact .inr ⟨F.go i H' q hlt, LI bs H (Pv (i + 1)), fun σ' H' p' => ⟨n - (i + 1), by omega, rfl, hlt, p'⟩, fun v H'' y => hs i σ' H' v H'' hlt r p (F.yld i H' v H'' q hlt y)⟩
  · have e : i = n := by omega
    subst e
    exact .inl ⟨F.stop H' q, hd σ' H' r p⟩
/-- within a comprehension: the list made so far, at D -/
def rW (D : Addr) (P : List V → Hp → Prop) (H' : Hp) : Prop := ∃ acc, H' D = some (.lst acc) ∧ P acc H'
def rApp (D : Addr) (W : Hp → Prop) (y : V) (H4 : Hp) : Prop := ∃ acc, H4 D = some (.lst acc) ∧ acc.length < sizeLine ∧ W (upd H4 D (.lst (acc ++ [y])))
theorem g_rapp {D : Addr} {P : List V → Hp → Prop} {y : V} {acc : List V} {H4 : Hp} [h : At H4 D (.lst acc)] (hz : acc.length < 100000) (q : ∀ H5, ExB D H4 H5 → At H5 D (.lst (acc ++ [y])) → P (acc ++ [y]) H5) : rApp D (rW D P) y H4 :=
  ⟨acc, h.eq, Nat.lt_of_lt_of_le hz (by decide), _, upd_same, q _ (ExB.upd h.eq) ⟨upd_same⟩⟩
theorem g_rW {D : Addr} {P : List V → Hp → Prop} {acc : List V} {H4 : Hp} [h : At H4 D (.lst acc)] (q : P acc H4) : rW D P H4 := ⟨acc, h.eq, q⟩
class Wipe (σ : L2.St) (vs : List Nat) (τ : outParam L2.St) : Prop where
  eq : wipe σ vs = τ
instance : Wipe σ [] σ := ⟨rfl⟩
instance {v : Nat} {vs : List Nat} {ρ : L2.St} [h : Wipe σ vs ρ] [k : SetL ρ v none τ] : Wipe σ (v :: vs) τ := ⟨by show (wipe σ vs).set v none = τ; rw [h.eq, k.eq]⟩
instance {QB : Bool → Hp → Prop} : Step (tYes σ H QB) (QB true H) := ⟨fun q => q⟩
theorem lc_feeds {J : It} {n : Nat} {S : Hp → Prop} {Y : Nat → Hp → V → Hp → Prop} {vs : List Nat} (F : Feeds J n S Y) (bs : List Addr) (Pv : Addr → Nat → List V → Hp → Prop) [hw : Wipe σ vs τ]
    (h0 : ∀ D H1, Nw H D → Ex H H1 → At H1 D (.lst []) → Pv D 0 [] H1) (hS : ∀ H', Chg bs H H' → S H')
    (hs : ∀ D (i : Nat) acc H' x H'', i < n → Nw H D → Chg bs H H' → At H' D (.lst acc) → Pv D i acc H' → Y i H' x H'' → g x τ H'' fun σ2 H2 => wipe σ2 vs = τ ∧ tt σ2 H2 fun b H3 =>
      if b = true then te σ2 H3 (rApp D (rW D fun ac H5 => Chg bs H H5 ∧ Pv D (i + 1) ac H5)) else rW D (fun ac H5 => Chg bs H H5 ∧ Pv D (i + 1) ac H5) H3)
    (hd : ∀ D acc H', Nw H D → Chg bs H H' → At H' D (.lst acc) → Pv D n acc H' → Q (.ref D) H') : LcW J g tt te vs σ H Q := by
  intro D hD
  refine ⟨fun i m H' => m = n - i ∧ i ≤ n ∧ rW D (fun ac H5 => Chg bs H H5 ∧ Pv D i ac H5) H', ⟨n, rfl, Nat.zero_le _, [], upd_same, ⟨fun a o _ h => (Ex.mk hD).keep a o (by simp) h, (Ex.mk hD).live, (Ex.mk hD).imm⟩, h0 D _ ⟨hD⟩ (Ex.mk hD) ⟨upd_same⟩⟩, ?_⟩
  rintro i m H' ⟨rfl, hi, acc, e, r, p⟩
  have q := hS H' r
  by_cases hlt : i < n
  · refine .inr ⟨F.go i H' q hlt, rW D (fun ac H5 => Chg bs H H5 ∧ Pv D (i + 1) ac H5), fun H' p' => ⟨n - (i + 1), by omega, rfl, hlt, p'⟩, fun v H'' y => ?_⟩
    rw [hw.eq]
    exact hs D i acc H' v H'' hlt ⟨hD⟩ r ⟨e⟩ p (F.yld i H' v H'' q hlt y)
  · have e' : i = n := by omega
    subst e'
    exact .inl ⟨F.stop H' q, hd D acc H' ⟨hD⟩ r ⟨e⟩ p⟩
/-- the items come out as F tells -/
theorem lc_F {J : It} {n : Nat} {S : Hp → Prop} {Y : Nat → Hp → V → Hp → Prop} {vs : List Nat} (Fd : Feeds J n S Y) (F : Nat → List V) [hw : Wipe σ vs τ] (hF : F 0 = []) (hS : ∀ H', Ex H H' → S H') (hz : ∀ i, i < n → (F i).length < 100000)
    (hs : ∀ D (i : Nat) H' x H'', i < n → Nw H D → Ex H H' → At H' D (.lst (F i)) → (F i).length < 100000 → Y i H' x H'' → g x τ H'' fun σ2 H2 => wipe σ2 vs = τ ∧ tt σ2 H2 fun b H3 =>
      if b = true then te σ2 H3 (rApp D (rW D fun ac H5 => Ex H H5 ∧ ac = F (i + 1))) else rW D (fun ac H5 => Ex H H5 ∧ ac = F (i + 1)) H3)
    (hd : ∀ D H', Nw H D → Ex H H' → At H' D (.lst (F n)) → Q (.ref D) H') : LcW J g tt te vs σ H Q :=
  lc_feeds Fd [] (fun _ i acc _ => acc = F i) (fun _ H1 _ _ _ => hF.symm) hS (fun D i acc H' x H'' hi hD e hp p y => by
    subst p
    exact hs D i H' x H'' hi hD e hp (hz i hi) y) (fun D acc H' hD e hp p => by
    subst p
    exact hd D H' hD e hp)
/-- each item is as P tells -/
theorem lc_A {J : It} {n : Nat} {S : Hp → Prop} {Y : Nat → Hp → V → Hp → Prop} {vs : List Nat} (Fd : Feeds J n S Y) (P : V → Prop) [hw : Wipe σ vs τ] (hS : ∀ H', Ex H H' → S H') (hz : n ≤ 100000)
    (hs : ∀ D (i : Nat) acc H' x H'', i < n → Nw H D → Ex H H' → At H' D (.lst acc) → acc.length < 100000 → Y i H' x H'' → g x τ H'' fun σ2 H2 => wipe σ2 vs = τ ∧ tt σ2 H2 fun b H3 =>
      if b = true then te σ2 H3 (rApp D (rW D fun ac H5 => Ex H H5 ∧ ∃ v, ac = acc ++ [v] ∧ P v)) else rW D (fun ac H5 => Ex H H5 ∧ ∃ v, ac = acc ++ [v] ∧ P v) H3)
    (hd : ∀ D acc H', Nw H D → Ex H H' → At H' D (.lst acc) → acc.length = n → (∀ v ∈ acc, P v) → Q (.ref D) H') : LcW J g tt te vs σ H Q := by
  intro D hD
  refine ⟨fun i m H' => m = n - i ∧ i ≤ n ∧ ∃ acc, H' D = some (.lst acc) ∧ acc.length = i ∧ (∀ v ∈ acc, P v) ∧ Ex H H', ⟨n, rfl, Nat.zero_le _, [], upd_same, rfl, by simp, Ex.mk hD⟩, ?_⟩
  rintro i m H' ⟨rfl, hi, acc, e, hl, hP, ex⟩
  have q := hS H' ex
  by_cases hlt : i < n
  · refine .inr ⟨Fd.go i H' q hlt, rW D (fun ac H5 => Ex H H5 ∧ ∃ v, ac = acc ++ [v] ∧ P v), fun H' p' => ?_, fun v H'' y => ?_⟩
    · obtain ⟨ac, e1, e2, v, rfl, hv⟩ := p'
      refine ⟨n - (i + 1), by omega, rfl, hlt, acc ++ [v], e1, by simp [hl], fun u hu => ?_, e2⟩
      rcases List.mem_append.mp hu with h | h
      · exact hP u h
      · rw [List.mem_singleton.mp h]; exact hv
    · rw [hw.eq]
      exact hs D i acc H' v H'' hlt ⟨hD⟩ ex ⟨e⟩ (by omega) (Fd.yld i H' v H'' q hlt y)
  · have e' : i = n := by omega
    subst e'
    exact .inl ⟨Fd.stop H' q, hd D acc H' ⟨hD⟩ ex ⟨e⟩ hl hP⟩
/-! what each kind gives -/
theorem fd_rng {lo : Int} {n : Nat} : Feeds (Itr lo n) n (fun _ => True) (fun i H x H' => H' = H ∧ x = .int (lo + (i : Nat))) := ⟨fun _ _ _ h => h, fun _ _ _ _ _ _ y => y, fun _ _ => Nat.le_refl _⟩
theorem fd_list {a : Addr} {xs : List V} : Feeds (Itl K a) xs.length (fun H => SqL K H a xs) (fun i H x H' => H' = H ∧ xs[i]? = some x) :=
  ⟨fun i H s h => ⟨xs, xs[i], s, List.getElem?_eq_getElem h⟩, fun i H x H' s _ y => ⟨y.1, y.2 xs s⟩, fun H s => ⟨xs, s, Nat.le_refl _⟩⟩
theorem fd_tup {a : Addr} {xs : List V} : Feeds (Itt K a) xs.length (fun H => SqT K H a xs) (fun i H x H' => H' = H ∧ xs[i]? = some x) :=
  ⟨fun i H s h => ⟨xs, xs[i], s, List.getElem?_eq_getElem h⟩, fun i H x H' s _ y => ⟨y.1, y.2 xs s⟩, fun H s => ⟨xs, s, Nat.le_refl _⟩⟩
def Pair (H : Hp) (x : V) (H' : Hp) (a b : V) : Prop := ∃ T, x = .ref T ∧ Nw H T ∧ Ex H H' ∧ At H' T (.tup [a, b])
theorem pair_mk {H : Hp} {T : Addr} {a b : V} (h : H T = none) : Pair H (.ref T) (upd H T (.tup [a, b])) a b := ⟨T, rfl, ⟨h⟩, Ex.mk h, ⟨upd_same⟩⟩
theorem fd_enumS {z : Str} : Feeds (Itse z) z.cps.size (fun _ => True) (fun i H x H' => ∃ c, z.cps[i]? = some c ∧ Pair H x H' (.int (i : Nat)) (.str ⟨#[c]⟩)) :=
  ⟨fun _ _ _ h => h, fun i H x H' _ _ y => by
    obtain ⟨T, c, rfl, h, rfl, hc⟩ := y
    exact ⟨c, hc, pair_mk h⟩, fun _ _ => Nat.le_refl _⟩
theorem fd_str {z : Str} : Feeds (Its z) z.cps.size (fun _ => True) (fun i H x H' => H' = H ∧ ∃ c, z.cps[i]? = some c ∧ x = .str ⟨#[c]⟩) := ⟨fun _ _ _ h => h, fun _ _ _ _ _ _ y => y, fun _ _ => Nat.le_refl _⟩
theorem fd_enum {a : Addr} {xs : List V} : Feeds (Ite K a) xs.length (fun H => SqL K H a xs) (fun i H x H' => ∃ c, xs[i]? = some c ∧ Pair H x H' (.int (i : Nat)) c) :=
  ⟨fun i H s h => ⟨xs, xs[i], s, List.getElem?_eq_getElem h⟩, fun i H x H' s _ y => by
    obtain ⟨T, c, rfl, h, rfl, hc⟩ := y
    exact ⟨c, hc xs s, pair_mk h⟩, fun H s => ⟨xs, s, Nat.le_refl _⟩⟩
theorem fd_zip {a b : Addr} {xs ys : List V} {n : Nat} (hn : min xs.length ys.length = n) : Feeds (Itz K a b) n (fun H => SqL K H a xs ∧ SqL K H b ys) (fun i H x H' => ∃ c d, xs[i]? = some c ∧ ys[i]? = some d ∧ Pair H x H' c d) :=
  ⟨fun i H s h => ⟨xs, ys, xs[i]'(by omega), ys[i]'(by omega), s.1, s.2, List.getElem?_eq_getElem _, List.getElem?_eq_getElem _⟩, fun i H x H' s _ y => by
    obtain ⟨T, c, d, rfl, h, rfl, hc, hd⟩ := y
    exact ⟨c, d, hc xs s.1, hd ys s.2, pair_mk h⟩, fun H s => ⟨xs, ys, s.1, s.2, by omega⟩⟩
/-! the heads -/
def rFor1 (vs : List V) (g : TG) (tb : TS) (D : Ends) (σ : L2.St) (H : Hp) : Prop := tFor (iRng1 fun _ H R => R vs H) g tb D σ H
def rFor2 (vs : List V) (g : TG) (tb : TS) (D : Ends) (σ : L2.St) (H : Hp) : Prop := tFor (iRng2 fun _ H R => R vs H) g tb D σ H
def rForL (K : PySem.W.Frag) (v : V) (g : TG) (tb : TS) (D : Ends) (σ : L2.St) (H : Hp) : Prop := tFor (iList K fun _ H R => R v H) g tb D σ H
def rForT (K : PySem.W.Frag) (v : V) (g : TG) (tb : TS) (D : Ends) (σ : L2.St) (H : Hp) : Prop := tFor (iTup K fun _ H R => R v H) g tb D σ H
def rForE (vs : List V) (g : TG) (tb : TS) (D : Ends) (σ : L2.St) (H : Hp) : Prop := tFor (iEnumS fun _ H R => R vs H) g tb D σ H
def rForS (v : V) (g : TG) (tb : TS) (D : Ends) (σ : L2.St) (H : Hp) : Prop := tFor (iStr fun _ H R => R v H) g tb D σ H
def rForEL (K : PySem.W.Frag) (vs : List V) (g : TG) (tb : TS) (D : Ends) (σ : L2.St) (H : Hp) : Prop := tFor (iEnum K fun _ H R => R vs H) g tb D σ H
def rForZ (K : PySem.W.Frag) (vs : List V) (g : TG) (tb : TS) (D : Ends) (σ : L2.St) (H : Hp) : Prop := tFor (iZip K fun _ H R => R vs H) g tb D σ H
instance : Step (tFor (iRng1 ta) g tb D σ H) (ta σ H fun vs H1 => rFor1 vs g tb D σ H1) := ⟨fun q => q⟩
instance : Step (tFor (iRng2 ta) g tb D σ H) (ta σ H fun vs H1 => rFor2 vs g tb D σ H1) := ⟨fun q => q⟩
instance : Step (tFor (iList K tl) g tb D σ H) (tl σ H fun v H1 => rForL K v g tb D σ H1) := ⟨fun q => q⟩
instance : Step (tFor (iTup K tl) g tb D σ H) (tl σ H fun v H1 => rForT K v g tb D σ H1) := ⟨fun q => q⟩
instance : Step (tFor (iEnumS ta) g tb D σ H) (ta σ H fun vs H1 => rForE vs g tb D σ H1) := ⟨fun q => q⟩
instance : Step (tFor (iStr tl) g tb D σ H) (tl σ H fun v H1 => rForS v g tb D σ H1) := ⟨fun q => q⟩
instance : Step (tFor (iEnum K ta) g tb D σ H) (ta σ H fun vs H1 => rForEL K vs g tb D σ H1) := ⟨fun q => q⟩
instance : Step (tFor (iZip K ta) g tb D σ H) (ta σ H fun vs H1 => rForZ K vs g tb D σ H1) := ⟨fun q => q⟩
def rLc1 (us : List V) (g : TG) (tt : TT) (te : TE) (vs : List Nat) (σ : L2.St) (H : Hp) (Q : VK) : Prop := tLc (iRng1 fun _ H R => R us H) g tt te vs σ H Q
def rLc2 (us : List V) (g : TG) (tt : TT) (te : TE) (vs : List Nat) (σ : L2.St) (H : Hp) (Q : VK) : Prop := tLc (iRng2 fun _ H R => R us H) g tt te vs σ H Q
def rLcL (K : PySem.W.Frag) (v : V) (g : TG) (tt : TT) (te : TE) (vs : List Nat) (σ : L2.St) (H : Hp) (Q : VK) : Prop := tLc (iList K fun _ H R => R v H) g tt te vs σ H Q
def rLcT (K : PySem.W.Frag) (v : V) (g : TG) (tt : TT) (te : TE) (vs : List Nat) (σ : L2.St) (H : Hp) (Q : VK) : Prop := tLc (iTup K fun _ H R => R v H) g tt te vs σ H Q
def rLcE (us : List V) (g : TG) (tt : TT) (te : TE) (vs : List Nat) (σ : L2.St) (H : Hp) (Q : VK) : Prop := tLc (iEnumS fun _ H R => R us H) g tt te vs σ H Q
def rLcS (v : V) (g : TG) (tt : TT) (te : TE) (vs : List Nat) (σ : L2.St) (H : Hp) (Q : VK) : Prop := tLc (iStr fun _ H R => R v H) g tt te vs σ H Q
def rLcEL (K : PySem.W.Frag) (us : List V) (g : TG) (tt : TT) (te : TE) (vs : List Nat) (σ : L2.St) (H : Hp) (Q : VK) : Prop := tLc (iEnum K fun _ H R => R us H) g tt te vs σ H Q
def rLcZ (K : PySem.W.Frag) (us : List V) (g : TG) (tt : TT) (te : TE) (vs : List Nat) (σ : L2.St) (H : Hp) (Q : VK) : Prop := tLc (iZip K fun _ H R => R us H) g tt te vs σ H Q
instance {vs : List Nat} : Step (tLc (iRng1 ta) g tt te vs σ H Q) (ta σ H fun us H1 => rLc1 us g tt te vs σ H1 Q) := ⟨fun q => q⟩
instance {vs : List Nat} : Step (tLc (iRng2 ta) g tt te vs σ H Q) (ta σ H fun us H1 => rLc2 us g tt te vs σ H1 Q) := ⟨fun q => q⟩
instance {vs : List Nat} : Step (tLc (iList K tl) g tt te vs σ H Q) (tl σ H fun v H1 => rLcL K v g tt te vs σ H1 Q) := ⟨fun q => q⟩
instance {vs : List Nat} : Step (tLc (iTup K tl) g tt te vs σ H Q) (tl σ H fun v H1 => rLcT K v g tt te vs σ H1 Q) := ⟨fun q => q⟩
instance {vs : List Nat} : Step (tLc (iEnumS ta) g tt te vs σ H Q) (ta σ H fun us H1 => rLcE us g tt te vs σ H1 Q) := ⟨fun q => q⟩
instance {vs : List Nat} : Step (tLc (iStr tl) g tt te vs σ H Q) (tl σ H fun v H1 => rLcS v g tt te vs σ H1 Q) := ⟨fun q => q⟩
instance {vs : List Nat} : Step (tLc (iEnum K ta) g tt te vs σ H Q) (ta σ H fun us H1 => rLcEL K us g tt te vs σ H1 Q) := ⟨fun q => q⟩
instance {vs : List Nat} : Step (tLc (iZip K ta) g tt te vs σ H Q) (ta σ H fun us H1 => rLcZ K us g tt te vs σ H1 Q) := ⟨fun q => q⟩
/-! loops by kind: bs is what the turns may change, Pv the invariant -/
theorem for1 {n : Int} (bs : List Addr) (Pv : Nat → L2.St → Hp → Prop) (hn : -(2 ^ 62) ≤ n ∧ n < 2 ^ 62) (h0 : Pv 0 σ H)
    (hs : ∀ (i : Nat) σ' H', (i : Int) < n → Chg bs H H' → Pv i σ' H' → g (.int (i : Int)) σ' H' fun σ2 H2 => tb { D with nx := LI bs H (Pv (i + 1)), ct := LI bs H (Pv (i + 1)), bk := D.nx } σ2 H2)
    (hd : ∀ σ' H', Chg bs H H' → Pv n.toNat σ' H' → D.nx σ' H') : rFor1 [.int n] g tb D σ H :=
  ⟨n, rfl, hn.1, hn.2, for_feeds (fd_rng (lo := 0)) bs Pv h0 (fun _ _ => trivial) (fun i σ' H' x H'' hi r p y => by
    obtain ⟨rfl, rfl⟩ := y
    rw [Int.zero_add]
    exact hs i σ' _ (by omega) r p) hd⟩
theorem for2 {a n : Int} (bs : List Addr) (Pv : Nat → L2.St → Hp → Prop) (hn : -(2 ^ 62) ≤ a ∧ a < 2 ^ 62 ∧ -(2 ^ 62) ≤ n ∧ n < 2 ^ 62) (h0 : Pv 0 σ H)
    (hs : ∀ (i : Nat) σ' H', a + (i : Int) < n → Chg bs H H' → Pv i σ' H' → g (.int (a + (i : Int))) σ' H' fun σ2 H2 => tb { D with nx := LI bs H (Pv (i + 1)), ct := LI bs H (Pv (i + 1)), bk := D.nx } σ2 H2)
    (hd : ∀ σ' H', Chg bs H H' → Pv (n - a).toNat σ' H' → D.nx σ' H') : rFor2 [.int a, .int n] g tb D σ H :=
  ⟨a, n, rfl, hn, for_feeds (fd_rng (lo := a)) bs Pv h0 (fun _ _ => trivial) (fun i σ' H' x H'' hi r p y => by
    obtain ⟨rfl, rfl⟩ := y
    exact hs i σ' _ (by omega) r p) hd⟩
theorem forL {a : Addr} {xs : List V} (bs : List Addr) (Pv : Nat → L2.St → Hp → Prop) [hx : SqC K H a xs] [hn : NotIn a bs] (h0 : Pv 0 σ H)
    (hs : ∀ (i : Nat) x σ' H', xs[i]? = some x → Chg bs H H' → Pv i σ' H' → g x σ' H' fun σ2 H2 => tb { D with nx := LI bs H (Pv (i + 1)), ct := LI bs H (Pv (i + 1)), bk := D.nx } σ2 H2)
    (hd : ∀ σ' H', Chg bs H H' → Pv xs.length σ' H' → D.nx σ' H') : rForL K (.ref a) g tb D σ H :=
  ⟨a, rfl, ⟨xs, hx.sq⟩, for_feeds fd_list bs Pv h0 (fun _ r => r.l hn.out hx.sq) (fun i σ' H' x H'' hi r p y => by
    obtain ⟨rfl, y⟩ := y
    exact hs i x σ' _ y r p) hd⟩
theorem forT {a : Addr} {xs : List V} (bs : List Addr) (Pv : Nat → L2.St → Hp → Prop) [hx : StC K H a xs] [hn : NotIn a bs] (h0 : Pv 0 σ H)
    (hs : ∀ (i : Nat) x σ' H', xs[i]? = some x → Chg bs H H' → Pv i σ' H' → g x σ' H' fun σ2 H2 => tb { D with nx := LI bs H (Pv (i + 1)), ct := LI bs H (Pv (i + 1)), bk := D.nx } σ2 H2)
    (hd : ∀ σ' H', Chg bs H H' → Pv xs.length σ' H' → D.nx σ' H') : rForT K (.ref a) g tb D σ H :=
  ⟨a, rfl, ⟨xs, hx.st⟩, for_feeds fd_tup bs Pv h0 (fun _ r => r.t hn.out hx.st) (fun i σ' H' x H'' hi r p y => by
    obtain ⟨rfl, y⟩ := y
    exact hs i x σ' _ y r p) hd⟩
theorem forZ {a b : Addr} {xs ys : List V} (bs : List Addr) (n : Nat) (Pv : Nat → L2.St → Hp → Prop) [hx : SqC K H a xs] [hy : SqC K H b ys] [hna : NotIn a bs] [hnb : NotIn b bs] (hn : min xs.length ys.length = n) (h0 : Pv 0 σ H)
    (hs : ∀ (i : Nat) c d x σ' H' H'', i < n → xs[i]? = some c → ys[i]? = some d → Chg bs H H' → Pv i σ' H' → Pair H' x H'' c d → g x σ' H'' fun σ2 H2 => tb { D with nx := LI bs H (Pv (i + 1)), ct := LI bs H (Pv (i + 1)), bk := D.nx } σ2 H2)
    (hd : ∀ σ' H', Chg bs H H' → Pv n σ' H' → D.nx σ' H') : rForZ K [.ref a, .ref b] g tb D σ H :=
  ⟨a, b, xs, ys, rfl, hx.sq, hy.sq, for_feeds (fd_zip hn) bs Pv h0 (fun _ r => ⟨r.l hna.out hx.sq, r.l hnb.out hy.sq⟩) (fun i σ' H' x H'' hi r p y => by
    obtain ⟨c, d, h1, h2, y⟩ := y
    exact hs i c d x σ' H' H'' hi h1 h2 r p y) hd⟩
theorem forEL {a : Addr} {xs : List V} (bs : List Addr) (Pv : Nat → L2.St → Hp → Prop) [hx : SqC K H a xs] [hn : NotIn a bs] (h0 : Pv 0 σ H)
    (hs : ∀ (i : Nat) c x σ' H' H'', xs[i]? = some c → Chg bs H H' → Pv i σ' H' → Pair H' x H'' (.int (i : Nat)) c → g x σ' H'' fun σ2 H2 => tb { D with nx := LI bs H (Pv (i + 1)), ct := LI bs H (Pv (i + 1)), bk := D.nx } σ2 H2)
    (hd : ∀ σ' H', Chg bs H H' → Pv xs.length σ' H' → D.nx σ' H') : rForEL K [.ref a] g tb D σ H :=
  ⟨a, xs, rfl, hx.sq, for_feeds fd_enum bs Pv h0 (fun _ r => r.l hn.out hx.sq) (fun i σ' H' x H'' hi r p y => by
    obtain ⟨c, h1, y⟩ := y
    exact hs i c x σ' H' H'' h1 r p y) hd⟩
/-! comprehensions by kind: _F what comes out is F, _A each item is as P tells -/
theorem lc1_F {vs : List Nat} {n : Int} (F : Nat → List V) (hn : -(2 ^ 62) ≤ n ∧ n < 2 ^ 62) [hw : Wipe σ vs τ] (hF : F 0 = []) (hz : ∀ i, i < n.toNat → (F i).length < 100000)
    (hs : ∀ D (i : Nat) H', (i : Int) < n → Nw H D → Ex H H' → At H' D (.lst (F i)) → (F i).length < 100000 → g (.int (i : Int)) τ H' fun σ2 H2 => wipe σ2 vs = τ ∧ tt σ2 H2 fun b H3 =>
      if b = true then te σ2 H3 (rApp D (rW D fun ac H5 => Ex H H5 ∧ ac = F (i + 1))) else rW D (fun ac H5 => Ex H H5 ∧ ac = F (i + 1)) H3)
    (hd : ∀ D H', Nw H D → Ex H H' → At H' D (.lst (F n.toNat)) → Q (.ref D) H') : rLc1 [.int n] g tt te vs σ H Q :=
  ⟨n, rfl, hn.1, hn.2, lc_F (fd_rng (lo := 0)) F hF (fun _ _ => trivial) hz (fun D i H' x H'' hi hD e hp z y => by
    obtain ⟨rfl, rfl⟩ := y
    rw [Int.zero_add]
    exact hs D i _ (by omega) hD e hp z) hd⟩
theorem lc2_F {vs : List Nat} {a n : Int} (F : Nat → List V) (hn : -(2 ^ 62) ≤ a ∧ a < 2 ^ 62 ∧ -(2 ^ 62) ≤ n ∧ n < 2 ^ 62) [hw : Wipe σ vs τ] (hF : F 0 = []) (hz : ∀ i, i < (n - a).toNat → (F i).length < 100000)
    (hs : ∀ D (i : Nat) H', a + (i : Int) < n → Nw H D → Ex H H' → At H' D (.lst (F i)) → (F i).length < 100000 → g (.int (a + (i : Int))) τ H' fun σ2 H2 => wipe σ2 vs = τ ∧ tt σ2 H2 fun b H3 =>
      if b = true then te σ2 H3 (rApp D (rW D fun ac H5 => Ex H H5 ∧ ac = F (i + 1))) else rW D (fun ac H5 => Ex H H5 ∧ ac = F (i + 1)) H3)
    (hd : ∀ D H', Nw H D → Ex H H' → At H' D (.lst (F (n - a).toNat)) → Q (.ref D) H') : rLc2 [.int a, .int n] g tt te vs σ H Q :=
  ⟨a, n, rfl, hn, lc_F (fd_rng (lo := a)) F hF (fun _ _ => trivial) hz (fun D i H' x H'' hi hD e hp z y => by
    obtain ⟨rfl, rfl⟩ := y
    exact hs D i _ (by omega) hD e hp z) hd⟩
theorem lcL_F {vs : List Nat} {a : Addr} {xs : List V} (F : Nat → List V) [hx : SqC K H a xs] [hw : Wipe σ vs τ] (hF : F 0 = []) (hz : ∀ i, i < xs.length → (F i).length < 100000)
    (hs : ∀ D (i : Nat) x H', xs[i]? = some x → Nw H D → Ex H H' → At H' D (.lst (F i)) → (F i).length < 100000 → g x τ H' fun σ2 H2 => wipe σ2 vs = τ ∧ tt σ2 H2 fun b H3 =>
      if b = true then te σ2 H3 (rApp D (rW D fun ac H5 => Ex H H5 ∧ ac = F (i + 1))) else rW D (fun ac H5 => Ex H H5 ∧ ac = F (i + 1)) H3)
    (hd : ∀ D H', Nw H D → Ex H H' → At H' D (.lst (F xs.length)) → Q (.ref D) H') : rLcL K (.ref a) g tt te vs σ H Q :=
  ⟨a, rfl, ⟨xs, hx.sq⟩, lc_F fd_list F hF (fun _ e => e.l hx.sq) hz (fun D i H' x H'' hi hD e hp z y => by
    obtain ⟨rfl, y⟩ := y
    exact hs D i x _ y hD e hp z) hd⟩
theorem lcT_F {vs : List Nat} {a : Addr} {xs : List V} (F : Nat → List V) [hx : StC K H a xs] [hw : Wipe σ vs τ] (hF : F 0 = []) (hz : ∀ i, i < xs.length → (F i).length < 100000)
    (hs : ∀ D (i : Nat) x H', xs[i]? = some x → Nw H D → Ex H H' → At H' D (.lst (F i)) → (F i).length < 100000 → g x τ H' fun σ2 H2 => wipe σ2 vs = τ ∧ tt σ2 H2 fun b H3 =>
      if b = true then te σ2 H3 (rApp D (rW D fun ac H5 => Ex H H5 ∧ ac = F (i + 1))) else rW D (fun ac H5 => Ex H H5 ∧ ac = F (i + 1)) H3)
    (hd : ∀ D H', Nw H D → Ex H H' → At H' D (.lst (F xs.length)) → Q (.ref D) H') : rLcT K (.ref a) g tt te vs σ H Q :=
  ⟨a, rfl, ⟨xs, hx.st⟩, lc_F fd_tup F hF (fun _ e => e.t hx.st) hz (fun D i H' x H'' hi hD e hp z y => by
    obtain ⟨rfl, y⟩ := y
    exact hs D i x _ y hD e hp z) hd⟩
theorem lcE_F {vs : List Nat} {z : Str} (F : Nat → List V) [hw : Wipe σ vs τ] (hF : F 0 = []) (hz : ∀ i, i < z.cps.size → (F i).length < 100000)
    (hs : ∀ D (i : Nat) c x H' H'', i < z.cps.size → z.cps[i]? = some c → Nw H D → Ex H H' → At H' D (.lst (F i)) → (F i).length < 100000 → Pair H' x H'' (.int (i : Nat)) (.str ⟨#[c]⟩) → g x τ H'' fun σ2 H2 => wipe σ2 vs = τ ∧ tt σ2 H2 fun b H3 =>
      if b = true then te σ2 H3 (rApp D (rW D fun ac H5 => Ex H H5 ∧ ac = F (i + 1))) else rW D (fun ac H5 => Ex H H5 ∧ ac = F (i + 1)) H3)
    (hd : ∀ D H', Nw H D → Ex H H' → At H' D (.lst (F z.cps.size)) → Q (.ref D) H') : rLcE [.str z] g tt te vs σ H Q :=
  ⟨z, rfl, lc_F fd_enumS F hF (fun _ _ => trivial) hz (fun D i H' x H'' hi hD e hp zz y => by
    obtain ⟨c, hc, y⟩ := y
    exact hs D i c x H' H'' hi hc hD e hp zz y) hd⟩
theorem lcEL_F {vs : List Nat} {a : Addr} {xs : List V} (F : Nat → List V) [hx : SqC K H a xs] [hw : Wipe σ vs τ] (hF : F 0 = []) (hz : ∀ i, i < xs.length → (F i).length < 100000)
    (hs : ∀ D (i : Nat) c x H' H'', xs[i]? = some c → Nw H D → Ex H H' → At H' D (.lst (F i)) → (F i).length < 100000 → Pair H' x H'' (.int (i : Nat)) c → g x τ H'' fun σ2 H2 => wipe σ2 vs = τ ∧ tt σ2 H2 fun b H3 =>
      if b = true then te σ2 H3 (rApp D (rW D fun ac H5 => Ex H H5 ∧ ac = F (i + 1))) else rW D (fun ac H5 => Ex H H5 ∧ ac = F (i + 1)) H3)
    (hd : ∀ D H', Nw H D → Ex H H' → At H' D (.lst (F xs.length)) → Q (.ref D) H') : rLcEL K [.ref a] g tt te vs σ H Q :=
  ⟨a, xs, rfl, hx.sq, lc_F fd_enum F hF (fun _ e => e.l hx.sq) hz (fun D i H' x H'' hi hD e hp zz y => by
    obtain ⟨c, hc, y⟩ := y
    exact hs D i c x H' H'' hc hD e hp zz y) hd⟩
theorem lcZ_F {vs : List Nat} {a b : Addr} {xs ys : List V} (n : Nat) (F : Nat → List V) [hx : SqC K H a xs] [hy : SqC K H b ys] (hn : min xs.length ys.length = n) [hw : Wipe σ vs τ] (hF : F 0 = []) (hz : ∀ i, i < n → (F i).length < 100000)
    (hs : ∀ D (i : Nat) c d x H' H'', i < n → xs[i]? = some c → ys[i]? = some d → Nw H D → Ex H H' → At H' D (.lst (F i)) → (F i).length < 100000 → Pair H' x H'' c d → g x τ H'' fun σ2 H2 => wipe σ2 vs = τ ∧ tt σ2 H2 fun b H3 =>
      if b = true then te σ2 H3 (rApp D (rW D fun ac H5 => Ex H H5 ∧ ac = F (i + 1))) else rW D (fun ac H5 => Ex H H5 ∧ ac = F (i + 1)) H3)
    (hd : ∀ D H', Nw H D → Ex H H' → At H' D (.lst (F n)) → Q (.ref D) H') : rLcZ K [.ref a, .ref b] g tt te vs σ H Q :=
  ⟨a, b, xs, ys, rfl, hx.sq, hy.sq, lc_F (fd_zip hn) F hF (fun _ e => ⟨e.l hx.sq, e.l hy.sq⟩) hz (fun D i H' x H'' hi hD e hp z y => by
    obtain ⟨c, d, h1, h2, y⟩ := y
    exact hs D i c d x H' H'' hi h1 h2 hD e hp z y) hd⟩
theorem lc1_A {vs : List Nat} {n : Int} (P : V → Prop) (hn : n ≤ 100000 ∧ -100000 ≤ n) [hw : Wipe σ vs τ]
    (hs : ∀ D (i : Nat) acc H', (i : Int) < n → Nw H D → Ex H H' → At H' D (.lst acc) → acc.length < 100000 → g (.int (i : Int)) τ H' fun σ2 H2 => wipe σ2 vs = τ ∧ tt σ2 H2 fun b H3 =>
      if b = true then te σ2 H3 (rApp D (rW D fun ac H5 => Ex H H5 ∧ ∃ v, ac = acc ++ [v] ∧ P v)) else rW D (fun ac H5 => Ex H H5 ∧ ∃ v, ac = acc ++ [v] ∧ P v) H3)
    (hd : ∀ D acc H', Nw H D → Ex H H' → At H' D (.lst acc) → acc.length = n.toNat → (∀ v ∈ acc, P v) → Q (.ref D) H') : rLc1 [.int n] g tt te vs σ H Q :=
  ⟨n, rfl, by omega, by omega, lc_A (fd_rng (lo := 0)) P (fun _ _ => trivial) (by omega) (fun D i acc H' x H'' hi hD e hp z y => by
    obtain ⟨rfl, rfl⟩ := y
    rw [Int.zero_add]
    exact hs D i acc _ (by omega) hD e hp z) hd⟩
theorem lcL_A {vs : List Nat} {a : Addr} {xs : List V} (P : V → Prop) [hx : SqC K H a xs] (hz : xs.length ≤ 100000) [hw : Wipe σ vs τ]
    (hs : ∀ D (i : Nat) x acc H', xs[i]? = some x → Nw H D → Ex H H' → At H' D (.lst acc) → acc.length < 100000 → g x τ H' fun σ2 H2 => wipe σ2 vs = τ ∧ tt σ2 H2 fun b H3 =>
      if b = true then te σ2 H3 (rApp D (rW D fun ac H5 => Ex H H5 ∧ ∃ v, ac = acc ++ [v] ∧ P v)) else rW D (fun ac H5 => Ex H H5 ∧ ∃ v, ac = acc ++ [v] ∧ P v) H3)
    (hd : ∀ D acc H', Nw H D → Ex H H' → At H' D (.lst acc) → acc.length = xs.length → (∀ v ∈ acc, P v) → Q (.ref D) H') : rLcL K (.ref a) g tt te vs σ H Q :=
  ⟨a, rfl, ⟨xs, hx.sq⟩, lc_A fd_list P (fun _ e => e.l hx.sq) hz (fun D i x' H' x H'' hi hD e hp z y => by
    obtain ⟨rfl, y⟩ := y
    exact hs D i x x' _ y hD e hp z) hd⟩
/-- _P: any invariant; what stood stands -/
theorem lcL_P {vs : List Nat} {a : Addr} {xs : List V} (Pv : Addr → Nat → List V → Hp → Prop) [hx : SqC K H a xs] [hw : Wipe σ vs τ] (h0 : ∀ D H1, Nw H D → Ex H H1 → At H1 D (.lst []) → Pv D 0 [] H1)
    (hs : ∀ D (i : Nat) x acc H', xs[i]? = some x → Nw H D → Ex H H' → At H' D (.lst acc) → Pv D i acc H' → g x τ H' fun σ2 H2 => wipe σ2 vs = τ ∧ tt σ2 H2 fun b H3 =>
      if b = true then te σ2 H3 (rApp D (rW D fun ac H5 => Ex H H5 ∧ Pv D (i + 1) ac H5)) else rW D (fun ac H5 => Ex H H5 ∧ Pv D (i + 1) ac H5) H3)
    (hd : ∀ D acc H', Nw H D → Ex H H' → At H' D (.lst acc) → Pv D xs.length acc H' → Q (.ref D) H') : rLcL K (.ref a) g tt te vs σ H Q :=
  ⟨a, rfl, ⟨xs, hx.sq⟩, lc_feeds fd_list [] Pv h0 (fun _ e => Ex.l e hx.sq) (fun D i acc H' x H'' hi hD e hp p y => by
    obtain ⟨rfl, y⟩ := y
    exact hs D i x acc _ y hD e hp p) hd⟩
theorem lc1_P {vs : List Nat} {n : Int} (bs : List Addr) (Pv : Addr → Nat → List V → Hp → Prop) (hn : -(2 ^ 62) ≤ n ∧ n < 2 ^ 62) [hw : Wipe σ vs τ] (h0 : ∀ D H1, Nw H D → Ex H H1 → At H1 D (.lst []) → Pv D 0 [] H1)
    (hs : ∀ D (i : Nat) acc H', (i : Int) < n → Nw H D → Chg bs H H' → At H' D (.lst acc) → Pv D i acc H' → g (.int (i : Int)) τ H' fun σ2 H2 => wipe σ2 vs = τ ∧ tt σ2 H2 fun b H3 =>
      if b = true then te σ2 H3 (rApp D (rW D fun ac H5 => Chg bs H H5 ∧ Pv D (i + 1) ac H5)) else rW D (fun ac H5 => Chg bs H H5 ∧ Pv D (i + 1) ac H5) H3)
    (hd : ∀ D acc H', Nw H D → Chg bs H H' → At H' D (.lst acc) → Pv D n.toNat acc H' → Q (.ref D) H') : rLc1 [.int n] g tt te vs σ H Q :=
  ⟨n, rfl, hn.1, hn.2, lc_feeds (fd_rng (lo := 0)) bs Pv h0 (fun _ _ => trivial) (fun D i acc H' x H'' hi hD e hp p y => by
    obtain ⟨rfl, rfl⟩ := y
    rw [Int.zero_add]
    exact hs D i acc _ (by omega) hD e hp p) hd⟩
theorem g_pair {H H' : Hp} {x a b : V} {u : TGs} {R : L2.St → Hp → Prop} (h : Pair H x H' a b) (q : ∀ T, Nw H T → Ex H H' → At H' T (.tup [a, b]) → u [a, b] σ H' R) : gTup K 2 u x σ H' R := by
  obtain ⟨T, rfl, h1, h2, h3⟩ := h
  exact ⟨T, _, rfl, .inl (.inl h3.eq), rfl, q T h1 h2 h3⟩
end
theorem rep_succ {i : Nat} : (List.replicate i true).map V.bl ++ [V.bl true] = (List.replicate (i + 1) true).map V.bl := by
  rw [List.replicate_succ', List.map_append]
  rfl
theorem rep_succD {i : Nat} {p : Prop} [Decidable p] (h : p) : (List.replicate i true).map V.bl ++ [V.bl (decide p)] = (List.replicate (i + 1) true).map V.bl := by
  rw [decide_eq_true h]
  exact rep_succ

section
variable {K : PySem.W.Frag} {σ : L2.St} {H : Hp} {R : L2.St → Hp → Prop} {v : V} {r : List V} {t : TG} {u : TGs}
instance : Step (gCons t u (v :: r) σ H R) (t v σ H fun σ' H' => u r σ' H' R) := ⟨fun q => ⟨v, r, rfl, q⟩⟩
instance : Step (gNil [] σ H R) (R σ H) := ⟨fun q => ⟨rfl, q⟩⟩
theorem g_gtup {a : Addr} {xs : List V} {n : Nat} [h : StC K H a xs] (hn : xs.length = n) (q : u xs σ H R) : gTup K n u (.ref a) σ H R := ⟨a, xs, rfl, h.st, hn, q⟩
end
theorem g_str {H : Hp} {Q : VK} {i : Int} (h : -(2 ^ 200) < i ∧ i < 2 ^ 200) (q : (Str.ofString (toString i)).length ≤ 1921 → Q (.str (toString i)) H) : rStr [V.int i] H Q := by
  have h2 : i.natAbs.log2 < 1920 := Nat.lt_of_lt_of_le (PySem.Flt.log2_lt_of (k := 200) (by decide) (by omega)) (by decide)
  exact ⟨i, rfl, h2, q (PyProof.Rows.int_text_len_1921 h2)⟩
theorem g_all {K : PySem.W.Frag} {H : Hp} {Q : VK} {a : Addr} {bs : List Bool} [h : SqC K H a (bs.map V.bl)] (q : Q (.bl (bs.all _root_.id)) H) : rAll K [V.ref a] H Q := ⟨a, bs, rfl, h.sq, q⟩
theorem g_allT {K : PySem.W.Frag} {H : Hp} {Q : VK} {a : Addr} {n : Nat} [h : SqC K H a ((List.replicate n true).map V.bl)] (q : Q (.bl true) H) : rAll K [V.ref a] H Q := ⟨a, _, rfl, h.sq, by simpa using q⟩
theorem g_sum {K : PySem.W.Frag} {H : Hp} {Q : VK} {a : Addr} {ns : List Int} [h : SqC K H a (ns.map V.int)] (q : Q (.int ns.sum) H) : rSum K [V.ref a] H Q := ⟨a, ns, rfl, h.sq, q⟩
theorem mulx128 {i j : Int} (h : -(2 ^ 300) < i ∧ i < 2 ^ 300) (h2 : -(2 ^ 300) < j ∧ j < 2 ^ 300) : CMulX i j := mulx_ok (a := 300) (b := 300) (by omega) (by omega) (by decide)
theorem q_int {H : Hp} {Q : VK} {a b : Int} (k : Q (.int a) H) (e : a = b) : Q (.int b) H := e ▸ k
theorem q_bl {H : Hp} {Q : VK} {a b : Bool} (k : Q (.bl a) H) (e : a = b) : Q (.bl b) H := e ▸ k
theorem q_dec {H : Hp} {Q : VK} {p : Prop} {_ : Decidable p} (k : Q (.bl true) H) (e : p) : Q (.bl (decide p)) H := by rw [decide_eq_true e]; exact k
theorem q_decN {H : Hp} {Q : VK} {p : Prop} {_ : Decidable p} (k : Q (.bl false) H) (e : ¬ p) : Q (.bl (decide p)) H := by rw [decide_eq_false e]; exact k
section
variable {K : PySem.W.Frag} {H : Hp} {Q : VK}
theorem g_isi {x c : V} {t u : Value} {b : Bool} (h1 : ClsV c u) (h2 : TyX K H x t) (h3 : PySem.W.kitOne K t u = some b) (q : Q (.bl b) H) : rIsi K [x, c] H Q := ⟨x, c, t, u, b, rfl, h1, h2, h3, q⟩
instance {i : Int} : Step (rIsi K [.int i, .ty "int"] H Q) (Q (.bl true) H) := ⟨g_isi (.ty _) (.base (.int i)) (kit_ty (by decide +kernel))⟩
instance {i : Int} : Step (rIsi K [.int i, .ty "bool"] H Q) (Q (.bl false) H) := ⟨g_isi (.ty _) (.base (.int i)) (kit_ty (by decide +kernel))⟩
instance {i : Bool} : Step (rIsi K [.bl i, .ty "int"] H Q) (Q (.bl true) H) := ⟨g_isi (.ty _) (.base (.bl i)) (kit_ty (by decide +kernel))⟩
instance {i : Bool} : Step (rIsi K [.bl i, .ty "bool"] H Q) (Q (.bl true) H) := ⟨g_isi (.ty _) (.base (.bl i)) (kit_ty (by decide +kernel))⟩
instance : Step (rIsi K [.non, .ty "int"] H Q) (Q (.bl false) H) := ⟨g_isi (.ty _) (.base .non) (kit_ty (by decide +kernel))⟩
instance : Step (rIsi K [.non, .ty "bool"] H Q) (Q (.bl false) H) := ⟨g_isi (.ty _) (.base .non) (kit_ty (by decide +kernel))⟩
instance {z : Str} : Step (rIsi K [.str z, .ty "str"] H Q) (Q (.bl true) H) := ⟨g_isi (.ty _) (.base (.str z)) (kit_ty (by decide +kernel))⟩
theorem g_isL {p : Addr} {xs : List V} [h : At H p (.lst xs)] (q : Q (.bl true) H) : rIsi K [.ref p, .ty "list"] H Q := g_isi (.ty _) (.base (.lst h.eq)) (kit_ty (by decide +kernel)) q
theorem g_isT {p : Addr} {xs : List V} [h : At H p (.tup xs)] (q : Q (.bl true) H) : rIsi K [.ref p, .ty "tuple"] H Q := g_isi (.ty _) (.base (.tup h.eq)) (kit_ty (by decide +kernel)) q
instance (priority := high) : Step (rInt [V.bl true] H Q) (Q (.int 1) H) := ⟨fun q => g_intB q⟩
instance (priority := high) : Step (rInt [V.bl false] H Q) (Q (.int 0) H) := ⟨fun q => g_intB q⟩
instance (priority := high) {p : Prop} [Decidable p] : Step (rInt [V.bl (decide p)] H Q) (Q (.int (if p then 1 else 0)) H) := ⟨fun q => g_intB (by
  by_cases h : p
  · rw [if_pos h] at q
    rw [decide_eq_true h]
    exact q
  · rw [if_neg h] at q
    rw [decide_eq_false h]
    exact q)⟩
end

/-! ### the same with the written part named (within a comprehension it must not speak of the block) -/
section
variable {X : Cx} {K : PySem.W.Frag}
theorem opAddK (h : X.K = K) : OpR X (binaryOp .Add) (rAdd K) := h ▸ opAdd
theorem opMulK (h : X.K = K) : OpR X (binaryOp .Mult) (rMul K) := h ▸ opMul
theorem opEqK (h : X.K = K) (hu : X.A.units + 64 < cLine) : OpR X (compareOp .Eq) (rEqX K) := h ▸ opEq hu
theorem opNeK (h : X.K = K) (hu : X.A.units + 64 < cLine) : OpR X (compareOp .NotEq) (rNeX K) := h ▸ opNe hu
theorem opInK (h : X.K = K) : OpR X (compareOp .In) (rIn K false) := h ▸ op_in_seq
theorem opNotInK (h : X.K = K) : OpR X (compareOp .NotIn) (rIn K true) := h ▸ op_notIn_seq
theorem ixSeqK (h : X.K = K) : IxR X (rIx K) := h ▸ ix_seq
theorem callLenK (h : X.K = K) : CallR X (.builtin "len") (rLen K) := h ▸ callLen
theorem callListOfK (h : X.K = K) : CallR X (.type "list") (rListOf K) := h ▸ callListOf
theorem slAnyK (h : X.K = K) : SlR X (rSlX K) := h ▸ slAny
theorem callSumK (h : X.K = K) (hc : X.calm = true) : CallR X (.builtin "sum") (rSum K) := h ▸ cr_sum hc
theorem callMinK (h : X.K = K) (hc : X.calm = true) : CallR X (.builtin "min") (rMin K) := h ▸ cr_min hc
theorem callMaxK (h : X.K = K) (hc : X.calm = true) : CallR X (.builtin "max") (rMax K) := h ▸ cr_max hc
theorem callAllK (h : X.K = K) (hc : X.calm = true) : CallR X (.builtin "all") (rAll K) := h ▸ cr_all hc
theorem callAnyK (h : X.K = K) (hc : X.calm = true) : CallR X (.builtin "any") (rAny K) := h ▸ cr_any hc
theorem callIsiK (h : X.K = K) : CallR X (.builtin "isinstance") (rIsi K) := h ▸ call_isi
theorem mtIndexK (h : X.K = K) : MtR X "list.index" (rIndex K) := h ▸ mt_index
variable {o e : Expr} {es : List Expr} {to : TE} {t : TA} {name : Str} {apos cpos : Pos} {T id : String} {r : V → List V → Hp → VK → Prop}
theorem pe_bm0K (h : X.K = K) (pa : PlainAttrs T) (slot : Slot T name id) (hty : typeOf (.builtin id) = pure (.type "method_descriptor")) (hm : MtR X id r) (ho : PE X o to)
    (hbase : attributeBase o name X.env (eval o X.env) = eval o X.env := by rfl) (hline : (apos.endLine == cpos.line) = true := by rfl) : PE X (.Call (.Attribute o name apos) [] [] cpos) (tBM0 K T r to) := h ▸ pe_bm0 pa slot hty hm ho hbase hline
theorem pe_bmK (h : X.K = K) (pa : PlainAttrs T) (slot : Slot T name id) (hty : typeOf (.builtin id) = pure (.type "method_descriptor")) (hm : MtR X id r) (ho : PE X o to) (ha : PA X (e :: es) t)
    (hbase : attributeBase o name X.env (eval o X.env) = eval o X.env := by rfl)
    (hfew : ((backTo cpos (starEach (e :: es) X.env)).all (fun x => !x.1) && (backToKw cpos (keywordEach [] X.env)).all (fun x => x.1.isSome)
      && decide ((e :: es).length + ([] : List Keyword).length + (if ([] : List Keyword).isEmpty then 0 else 1) < 30)) = true := by rfl)
    (hline : (apos.endLine == cpos.line) = true := by rfl) (hs : starEach (e :: es) X.env = (false, eval e X.env) :: starEach es X.env := by rfl) (hplain : (backTo cpos (starEach es X.env)).any (·.1) = false := by rfl) :
    PE X (.Call (.Attribute o name apos) (e :: es) [] cpos) (tBM K T r to t) := h ▸ pe_bm pa slot hty hm ho ha hbase hfew hline hs hplain
theorem pi_listK {tg l : Expr} {tl : TE} (h : X.K = K) (hl : PE X l tl) : PI X tg l (iList K tl) := h ▸ pi_list hl
end
theorem cdivW {j : Int} {i : Int} (h : 0 < j) (h2 : j < 2 ^ 200) : CDivW i j := wide_div (b := 200) h (by omega) (by decide) (by decide)

section
variable {K : PySem.W.Frag} {H : Hp} {Q : VK} {lo hi : Option Int}
theorem g_slL {p : Addr} {xs : List V} [h : SqC K H p xs] (q : ∀ p H2, Nw H p → Ex H H2 → At H2 p (.lst (cutV xs lo hi)) → Q (.ref p) H2) : rSlX K (.ref p) lo hi H Q :=
  .inl ⟨p, xs, rfl, h.sq, g_new q⟩
theorem g_slS {z : Str} (h : z.length ≤ 100000) (q : Q (.str (cutS z lo hi)) H) : rSlX K (.str z) lo hi H Q :=
  .inr (.inl ⟨z, rfl, Nat.le_trans h (by decide), q⟩)
theorem g_listOf {p : Addr} {xs : List V} [h : SqC K H p xs] (q : ∀ p H2, Nw H p → Ex H H2 → At H2 p (.lst xs) → Q (.ref p) H2) :
    rListOf K [V.ref p] H Q := ⟨p, xs, rfl, .inl h.sq, g_new q⟩
end
/-! ### texts over 0 and 1 -/
def bc (b : Bool) : Nat := if b then 49 else 48
theorem bc_inj {a b : Bool} (h : bc a = bc b) : a = b := by cases a <;> cases b <;> simp_all [bc]
def tx (l : List Bool) : Str := ⟨(l.map bc).toArray⟩
theorem tx_list (l : List Bool) : (tx l).cps.toList = l.map bc := by simp [tx]
theorem tx_len (l : List Bool) : (tx l).length = l.length := by simp [tx, Str.length]
theorem map_bc_inj : ∀ {a b : List Bool}, a.map bc = b.map bc → a = b
  | [], [], _ => rfl
  | [], _ :: _, h => by simp at h
  | _ :: _, [], h => by simp at h
  | x :: a, y :: b, h => by
    simp only [List.map_cons, List.cons.injEq] at h
    rw [bc_inj h.1, map_bc_inj h.2]
theorem str_ext {a b : Str} (h : a.cps.toList = b.cps.toList) : a = b := by
  obtain ⟨a⟩ := a
  obtain ⟨b⟩ := b
  congr 1
  exact Array.toList_inj.mp h
theorem tx_inj {a b : List Bool} (h : tx a = tx b) : a = b := map_bc_inj (by rw [← tx_list, ← tx_list, h])
theorem tx_eq {a b : List Bool} : tx a = tx b ↔ a = b := ⟨tx_inj, fun h => by rw [h]⟩
theorem tx_nil : tx [] = ("" : Str) := rfl
theorem tx_0 : tx [false] = ("0" : Str) := rfl
theorem tx_1 : tx [true] = ("1" : Str) := rfl
theorem tx_01 : tx [false, true] = ("01" : Str) := rfl
theorem tx_app (a b : List Bool) : tx a ++ tx b = tx (a ++ b) := by
  apply str_ext
  show ((tx a).cps ++ (tx b).cps).toList = _
  rw [Array.toList_append, tx_list, tx_list, tx_list, List.map_append]
theorem tx_rep1 (b : Bool) (n : Nat) : repS (tx [b]) n = tx (List.replicate n b) := by
  apply str_ext
  rw [tx_list]
  unfold repS
  simp only [tx_list, List.map_cons, List.map_nil, List.map_replicate]
  induction n with
  | zero => rfl
  | succ n ih => rw [List.replicate_succ, List.flatten_cons, List.replicate_succ]; simpa using ih
theorem tx_one (b : Bool) : tx [b] = ⟨#[bc b]⟩ := rfl
theorem tx_at {l : List Bool} {i c : Nat} (h : (tx l).cps[i]? = some c) : ∃ b, l[i]? = some b ∧ (⟨#[c]⟩ : Str) = tx [b] := by
  have h2 : (l.map bc)[i]? = some c := by rw [← tx_list, Array.getElem?_toList]; exact h
  rw [List.getElem?_map] at h2
  cases e : l[i]? with
  | none => rw [e] at h2; simp at h2
  | some b =>
    rw [e] at h2
    simp at h2
    exact ⟨b, rfl, by rw [tx_one, h2]⟩
theorem tx_atI {l : List Bool} {i : Int} {b : Bool} (h : atI l i = some b) : atI (tx l).cps.toList i = some (bc b) := by
  rw [tx_list]
  unfold atI at *
  rw [List.length_map]
  cases e : ixN l.length i with
  | none => rw [e] at h; simp at h
  | some j =>
    rw [e] at h
    show (l.map bc)[j]? = _
    rw [List.getElem?_map]
    have h' : l[j]? = some b := h
    rw [h']
    rfl
theorem tx_cut (l : List Bool) (lo hi : Option Int) : cutS (tx l) lo hi = tx ((l.drop (HT.sIx l.length 0 lo)).take (HT.sIx l.length l.length hi - HT.sIx l.length 0 lo)) := by
  apply str_ext
  unfold cutS
  rw [tx_list, tx_list, tx_len, List.map_take, List.map_drop]
theorem cnt_tx (b : Bool) (l : List Bool) : PyProof.Rows.cnt (bc b) (l.map bc) = (l.count b : Nat) := by
  induction l with
  | nil => rfl
  | cons x l ih =>
    rw [List.map_cons, PyProof.Rows.cnt_cons, ih, List.count_cons]
    cases b <;> cases x <;> simp [bc] <;> omega
theorem tx_count (l : List Bool) (b : Bool) : Txt.count (tx l) (tx [b]) = (l.count b : Nat) := by
  rw [← cnt_tx, ← tx_list]
  exact PyProof.Rows.count_is (tx l) (bc b)
theorem strSub_list (x : Str) (i j : Nat) : (Builtin.Str.strSub x i j).cps.toList = (x.cps.toList.drop i).take (j - i) := by
  unfold Builtin.Str.strSub
  rw [Array.toList_extract, List.extract_eq_take_drop]
theorem drop_tw {α : Type} (p : α → Bool) : ∀ l : List α, l.drop (l.takeWhile p).length = l.dropWhile p
  | [] => rfl
  | a :: r => by
    rw [List.takeWhile_cons, List.dropWhile_cons]
    split
    · rw [List.length_cons, List.drop_succ_cons, drop_tw p r]
    · rfl
theorem tx_lstrip0 (l : List Bool) : Txt.lstripChars (tx l) (tx [false]) = tx (l.dropWhile (! ·)) := by
  apply str_ext
  unfold Txt.lstripChars
  rw [PyProof.Rows.stripBy_eq, strSub_list, tx_list, tx_list]
  have hp : ∀ b, (tx [false]).cps.contains (bc b) = !b := by intro b; cases b <;> simp [tx, bc]
  have e1 : PySem.stripLo (tx [false]).cps.contains true (tx l) = (l.takeWhile (! ·)).length := by
    unfold PySem.stripLo
    simp only [if_true]
    rw [tx_list, List.takeWhile_map, List.length_map]
    congr 2
    funext b
    exact hp b
  have e2 : ∀ lo, PySem.stripHi (tx [false]).cps.contains false (tx l) lo = l.length := by
    intro lo
    unfold PySem.stripHi
    simp [tx_len]
  rw [e1, e2, ← List.map_drop, drop_tw, List.take_of_length_le]
  rw [List.length_map, ← drop_tw, List.length_drop]
  exact Nat.le_refl _
theorem tx_strip01 (l : List Bool) : Txt.stripChars (tx l) (tx [false, true]) = tx [] := by
  apply str_ext
  unfold Txt.stripChars
  rw [PyProof.Rows.stripBy_eq, strSub_list, tx_list]
  have hp : ∀ b, (tx [false, true]).cps.contains (bc b) = true := by intro b; cases b <;> simp [tx, bc]
  have e1 : PySem.stripLo (tx [false, true]).cps.contains true (tx l) = l.length := by
    unfold PySem.stripLo
    simp only [if_true]
    rw [tx_list, List.takeWhile_map, List.length_map]
    congr 1
    have hp' : ((tx [false, true]).cps.contains ∘ bc) = fun _ => true := by funext b; exact hp b
    rw [hp']
    clear hp hp'
    induction l with
    | nil => rfl
    | cons a l ih => rw [List.takeWhile_cons, if_pos rfl, ih]
  rw [e1, ← List.map_drop, List.drop_length, tx_list]
  simp
theorem tx_starts (l m : List Bool) : Txt.startswith (tx l) (tx m) = (l.take m.length == m) := by
  unfold Txt.startswith
  rw [tx_len, tx_len, Nat.zero_add]
  have e : Builtin.Str.subAt (tx l) (tx m) 0 = (l.take m.length == m) := by
    rw [Bool.eq_iff_iff]
    unfold Builtin.Str.subAt
    rw [beq_iff_eq, beq_iff_eq, ← Array.toList_inj, Array.toList_extract, List.extract_eq_take_drop, tx_list, tx_list, tx_len]
    simp only [List.drop_zero, Nat.zero_add, Nat.sub_zero]
    rw [← List.map_take]
    exact ⟨map_bc_inj, fun h => by rw [h]⟩
  rw [e]
  by_cases h : m.length ≤ l.length
  · simp [h]
  · have : ¬ (l.take m.length = m) := by
      intro q
      have := congrArg List.length q
      rw [List.length_take] at this
      omega
    simp [h, this]
theorem tx_join (ls : List (List Bool)) : Txt.join (tx []) (ls.map tx) = tx ls.flatten := by
  apply str_ext
  rw [tx_list]
  unfold Txt.join Builtin.Str.glued
  have h : ∀ (r : List (List Bool)) (acc : Array Nat), ((r.map tx).foldl (fun acc p => acc ++ (tx []).cps ++ p.cps) acc).toList = acc.toList ++ (r.flatten).map bc := by
    intro r
    induction r with
    | nil => intro acc; simp
    | cons x r ih =>
      intro acc
      rw [List.map_cons, List.foldl_cons, ih]
      simp [tx]
  cases ls with
  | nil => rfl
  | cons x r =>
    simp only [List.map_cons, List.drop_succ_cons, List.drop_zero, List.headD_cons]
    rw [h, tx_list]
    simp
/-! ### steps over texts of 0 and 1 -/
def rCnt : V → List V → Hp → VK → Prop := fun x xs H Q => ∃ a b, x = .str a ∧ xs = [.str b] ∧ Q (.int (Txt.count a b)) H
def rStarts : V → List V → Hp → VK → Prop := fun x xs H Q => ∃ a b, x = .str a ∧ xs = [.str b] ∧ Q (.bl (Txt.startswith a b)) H
def rStripC : V → List V → Hp → VK → Prop := fun x xs H Q => ∃ a b, x = .str a ∧ xs = [.str b] ∧ a.length ≤ sizeLine ∧ Q (.str (Txt.stripChars a b)) H
def rLstripC : V → List V → Hp → VK → Prop := fun x xs H Q => ∃ a b, x = .str a ∧ xs = [.str b] ∧ a.length ≤ sizeLine ∧ Q (.str (Txt.lstripChars a b)) H
def rJoin (K : PySem.W.Frag) : V → List V → Hp → VK → Prop := fun x xs H Q => ∃ a p, ∃ ys : List Str, x = .str a ∧ xs = [.ref p] ∧ (SqL K H p (ys.map V.str) ∨ SqT K H p (ys.map V.str)) ∧
    (ys.map (·.length)).sum + ys.length * a.length ≤ 16777216 ∧ Q (.str (Txt.join a ys)) H
section
variable {X : Cx} {K : PySem.W.Frag}
theorem mtCount : MtR X "str.count" rCnt := mt_count
theorem mtStarts : MtR X "str.startswith" rStarts := mt_startswith
theorem mtStripC : MtR X "str.strip" rStripC := mt_stripChars
theorem mtLstripC : MtR X "str.lstrip" rLstripC := mt_lstripChars
theorem mtJoinK (h : X.K = K) : MtR X "str.join" (rJoin K) := h ▸ mt_join
end
section
variable {K : PySem.W.Frag} {σ : L2.St} {H : Hp} {Q : VK} {l m : List Bool} {b : Bool}
theorem szT {n : Nat} (h : l.length ≤ n) (hn : n ≤ 100000 := by decide) : (tx l).length ≤ 100000 := by rw [tx_len]; omega
instance (priority := high) : Step (tC (.str ("0" : Str)) σ H Q) (Q (.str (tx [false])) H) := ⟨fun q => q⟩
instance (priority := high) : Step (tC (.str ("1" : Str)) σ H Q) (Q (.str (tx [true])) H) := ⟨fun q => q⟩
instance (priority := high) : Step (tC (.str ("" : Str)) σ H Q) (Q (.str (tx [])) H) := ⟨fun q => q⟩
instance (priority := high) : Step (tC (.str ("01" : Str)) σ H Q) (Q (.str (tx [false, true])) H) := ⟨fun q => q⟩
theorem g_addT (h : l.length + m.length ≤ 100000) (q : Q (.str (tx (l ++ m))) H) : rAdd K (.str (tx l)) (.str (tx m)) H Q := g_addS (by rw [tx_len, tx_len]; exact h) (by rw [tx_app]; exact q)
theorem g_mulT {n : Int} (h : n ≤ 100000 ∧ -100000 ≤ n) (q : Q (.str (tx (List.replicate n.toNat b))) H) : rMul K (.str (tx [b])) (.int n) H Q := by
  refine .inr (.inr (.inl ⟨tx [b], n, rfl, rfl, ⟨by omega, by omega, ?_⟩, ?_⟩))
  · rw [tx_len, List.length_singleton]; omega
  · rw [tx_rep1]; exact q
theorem g_lenT (h : l.length ≤ 100000) (q : Q (.int (l.length : Nat)) H) : rLen K [.str (tx l)] H Q := g_len (len_s (by rw [tx_len]; exact h)) (by rw [tx_len]; exact q)
instance (priority := high) : Step (rEqX K (.str (tx l)) (.str (tx m)) H Q) (Q (.bl (decide (l = m))) H) := ⟨fun q => g_eqS (by
  by_cases h : l = m
  · rw [decide_eq_true (tx_eq.mpr h)]; rw [decide_eq_true h] at q; exact q
  · rw [decide_eq_false (fun e => h (tx_inj e))]; rw [decide_eq_false h] at q; exact q)⟩
instance (priority := high) : Step (rNeX K (.str (tx l)) (.str (tx m)) H Q) (Q (.bl (!decide (l = m))) H) := ⟨fun q => g_neS (by
  by_cases h : l = m
  · rw [decide_eq_true (tx_eq.mpr h)]; rw [decide_eq_true h] at q; exact q
  · rw [decide_eq_false (fun e => h (tx_inj e))]; rw [decide_eq_false h] at q; exact q)⟩
instance : Step (rCnt (.str (tx l)) [.str (tx [b])] H Q) (Q (.int (l.count b : Nat)) H) := ⟨fun q => ⟨_, _, rfl, rfl, by rw [tx_count]; exact q⟩⟩
instance : Step (rStarts (.str (tx l)) [.str (tx m)] H Q) (Q (.bl (l.take m.length == m)) H) := ⟨fun q => ⟨_, _, rfl, rfl, by rw [tx_starts]; exact q⟩⟩
theorem g_lstrip0 (h : l.length ≤ 100000) (q : Q (.str (tx (l.dropWhile (! ·)))) H) : rLstripC (.str (tx l)) [.str (tx [false])] H Q :=
  ⟨_, _, rfl, rfl, Nat.le_trans (szT h) (by decide), by rw [tx_lstrip0]; exact q⟩
theorem g_strip01 (h : l.length ≤ 100000) (q : Q (.str (tx [])) H) : rStripC (.str (tx l)) [.str (tx [false, true])] H Q :=
  ⟨_, _, rfl, rfl, Nat.le_trans (szT h) (by decide), by rw [tx_strip01]; exact q⟩
theorem g_joinT {p : Addr} {ls : List (List Bool)} [hp : SqC K H p (ls.map fun l => V.str (tx l))] (hz : ls.flatten.length ≤ 100000) (q : Q (.str (tx ls.flatten)) H) : rJoin K (.str (tx [])) [.ref p] H Q := by
  refine ⟨tx [], p, ls.map tx, rfl, rfl, .inl (by rw [List.map_map]; exact hp.sq), ?_, by rw [tx_join]; exact q⟩
  rw [List.map_map, tx_len, List.length_nil, Nat.mul_zero, Nat.add_zero]
  have e : (ls.map (Str.length ∘ tx)).sum = ls.flatten.length := by
    rw [List.length_flatten]
    congr 1
    apply List.map_congr_left
    intro a _
    exact tx_len a
  have e2 : (ls.map ((fun x => x.length) ∘ tx)).sum = ls.flatten.length := e
  rw [e2]
  omega
theorem g_ixTx {i : Int} (hz : l.length ≤ 100000) (h : atI l i = some b) (q : Q (.str (tx [b])) H) : rIx K (.str (tx l)) (.int i) H Q :=
  .inr (.inr ⟨tx l, i, bc b, rfl, rfl, Nat.le_trans (szT hz) (by decide), tx_atI h, q⟩)
theorem atI_nat {α : Type} {l : List α} {n : Nat} {x : α} (h : l[n]? = some x) : atI l (n : Int) = some x := by
  unfold atI
  have hl := (List.getElem?_eq_some_iff.mp h).1
  have e : ixN l.length (n : Int) = some n := by
    unfold ixN
    rw [if_pos (by omega), if_pos (by omega)]
    simp
  rw [e]
  exact h
theorem g_slT {lo hi : Option Int} (h : l.length ≤ 100000) (q : Q (.str (tx ((l.drop (HT.sIx l.length 0 lo)).take (HT.sIx l.length l.length hi - HT.sIx l.length 0 lo)))) H) : rSlX K (.str (tx l)) lo hi H Q :=
  g_slS (szT h) (by rw [tx_cut]; exact q)
theorem tx_char {i c : Nat} (h : (tx l).cps[i]? = some c) : ∃ b, l[i]? = some b ∧ (⟨#[c]⟩ : Str) = tx [b] := tx_at h
theorem tx_size : (tx l).cps.size = l.length := tx_len l
end
theorem of_all {α : Type} {f : α → V} : ∀ {acc : List V}, (∀ v ∈ acc, ∃ x, v = f x) → ∃ xs : List α, acc = xs.map f
  | [], _ => ⟨[], rfl⟩
  | v :: r, h => by
    obtain ⟨x, hx⟩ := h v (List.mem_cons_self ..)
    obtain ⟨xs, e⟩ := of_all (fun u hu => h u (List.mem_cons_of_mem _ hu))
    exact ⟨x :: xs, by rw [hx, e]; rfl⟩
theorem take_snoc {α : Type} {l : List α} {i : Nat} {x : α} (h : l[i]? = some x) : l.take (i + 1) = l.take i ++ [x] := by
  rw [List.take_add_one, h]
  rfl
theorem take_map_snoc {α β : Type} {l : List α} {f : α → β} {i : Nat} {x : α} (h : l[i]? = some x) : (l.take i).map f ++ [f x] = (l.take (i + 1)).map f := by
  rw [take_snoc h, List.map_append]
  rfl
theorem map_at {α β : Type} {l : List α} {f : α → β} {i : Nat} {y : β} (h : (l.map f)[i]? = some y) : ∃ x, l[i]? = some x ∧ y = f x := by
  rw [List.getElem?_map] at h
  cases e : l[i]? with
  | none => rw [e] at h; simp at h
  | some x => rw [e] at h; simp at h; exact ⟨x, rfl, h.symm⟩
theorem g_cat {K : PySem.W.Frag} {H : Hp} {Q : VK} {l b : Addr} {xs zs : List V} [h1 : At H l (.lst xs)] [h2 : At H b (.lst zs)] (hz : xs.length + zs.length ≤ 100000) (q : ∀ p H2, Nw H p → Ex H H2 → At H2 p (.lst (xs ++ zs)) → Q (.ref p) H2) : rAdd K (.ref l) (.ref b) H Q :=
  .inr (.inr (.inl ⟨l, b, xs, zs, rfl, rfl, h1.eq, h2.eq, Nat.le_trans hz (by decide), g_new q⟩))
section
variable {X : Cx} {K : PySem.W.Frag} {e e2 : Expr} {ta : TA} {p pos tpos : Pos} {elts : List Expr} {kk : Nat}
theorem pi_zipK (h : X.K = K) (hg : Gl X "zip") (hm : X.mg "zip" = none) (ha : PA X [e, e2] ta)
    (hs : starEach [e, e2] X.env = (false, eval e X.env) :: starEach [e2] X.env := by rfl) (hpl : (backTo pos (starEach [e2] X.env)).any (·.1) = false := by rfl) :
    PI X (.Tuple elts kk tpos) (.Call (.Name "zip" p) [e, e2] [] pos) (iZip K ta) := h ▸ pi_zip hg hm ha hs hpl
theorem pi_enumK (h : X.K = K) (hg : Gl X "enumerate") (hm : X.mg "enumerate" = none) (ha : PA X [e] ta) (hs : starEach [e] X.env = [(false, eval e X.env)] := by rfl) :
    PI X (.Tuple elts kk tpos) (.Call (.Name "enumerate" p) [e] [] pos) (iEnum K ta) := h ▸ pi_enum hg hm ha hs
end
section
variable {K : PySem.W.Frag} {H : Hp} {Q : VK} {p : Addr} {xs acc : List V} {R : Prop}
instance [h : SqC K H p xs] : Step (rLen K [.ref p] H Q) (Q (.int (xs.length : Nat)) H) := ⟨g_len len_l⟩
instance (priority := high) {α : Type} {ns : List α} {f : α → V} [h : SqC K H p (ns.map f)] : Step (rLen K [.ref p] H Q) (Q (.int (ns.length : Nat)) H) := ⟨fun q => g_len len_l (by rw [List.length_map]; exact q)⟩
instance [h : StC K H p xs] : Step (rLen K [.ref p] H Q) (Q (.int (xs.length : Nat)) H) := ⟨g_len len_t⟩
instance [h : SqC K H p xs] : Step (tyV K "list" (.ref p) H ∧ R) R := ⟨g_tyL⟩
instance {P : List V → Hp → Prop} {D : Addr} [h : At H D (.lst acc)] : Step (rW D P H) (P acc H) := ⟨g_rW⟩
instance [h : At H p (.lst xs)] : Step (rIsi K [.ref p, .ty "list"] H Q) (Q (.bl true) H) := ⟨g_isL⟩
instance [h : At H p (.tup xs)] : Step (rIsi K [.ref p, .ty "tuple"] H Q) (Q (.bl true) H) := ⟨g_isT⟩
end
theorem cut1 {α : Type} {ds : List α} {f : α → V} : cutV (ds.map f) (some 1) none = (ds.drop 1).map f := by
  unfold cutV
  rw [show (some (1 : Int)) = some ((1 : Nat) : Int) from rfl, HT.sIx_nat, HT.sIx_none, List.length_map, List.map_drop]
  by_cases h : 1 ≤ ds.length
  · rw [Nat.min_eq_left h, List.take_of_length_le]
    simp
  · have e : ds = [] := List.length_eq_zero_iff.mp (by omega)
    subst e
    rfl
/-! ### lists and tuples of ints, compared -/
class IntsC (xs : List V) (ns : outParam (List Int)) : Prop where
  eq : xs = ns.map V.int
instance : IntsC [] [] := ⟨rfl⟩
instance {i : Int} {xs : List V} {ns : List Int} [h : IntsC xs ns] : IntsC (.int i :: xs) (i :: ns) := ⟨by rw [h.eq]; rfl⟩
instance {ns : List Int} : IntsC (ns.map V.int) ns := ⟨rfl⟩
instance {xs ys : List V} {ns ms : List Int} [h : IntsC xs ns] [k : IntsC ys ms] : IntsC (xs ++ ys) (ns ++ ms) := ⟨by rw [h.eq, k.eq, List.map_append]⟩
theorem dpInts {K : PySem.W.Frag} {H : Hp} : ∀ ns : List Int, DpAll K H (ns.map V.int) (ns.map PyData.int)
  | [] => .nil
  | n :: r => .cons (.int n) (dpInts r)
theorem eqInts : ∀ ns ms : List Int, PyData.eqvAll (ns.map PyData.int) (ms.map PyData.int) = decide (ns = ms)
  | [], [] => by simp [PyData.eqvAll]
  | [], _ :: _ => by simp [PyData.eqvAll]
  | _ :: _, [] => by simp [PyData.eqvAll]
  | n :: r, m :: t => by
    rw [List.map_cons, List.map_cons, PyData.eqvAll, eqInts r t]
    show ((n == m) && decide (r = t)) = _
    by_cases h : n = m <;> by_cases k : r = t <;> simp [h, k]
theorem layInts : ∀ ns : List Int, PyData.canLayAll0 (ns.map PyData.int) = true
  | [] => rfl
  | n :: r => by rw [List.map_cons, PyData.canLayAll0, layInts r]; rfl
theorem depInts : ∀ ns : List Int, PyData.depthAll (ns.map PyData.int) = 0
  | [] => rfl
  | n :: r => by rw [List.map_cons, PyData.depthAll, depInts r]; rfl
theorem shL (ns : List Int) : SeqAt.shaped (.list (ns.map PyData.int)) = true := by
  unfold SeqAt.shaped
  rw [PyData.canLay0, PyData.depth, layInts, depInts]
  rfl
theorem shT (ns : List Int) : SeqAt.shaped (.tuple (ns.map PyData.int)) = true := by
  unfold SeqAt.shaped
  rw [PyData.canLay0, PyData.depth, layInts, depInts]
  rfl
section
variable {K : PySem.W.Frag} {H : Hp} {Q : VK} {p q : Addr} {xs ys : List V} {ns ms : List Int}
instance [h : SqC K H p xs] [k : SqC K H q ys] [a : IntsC xs ns] [b : IntsC ys ms] : Step (rEqX K (.ref p) (.ref q) H Q) (Q (.bl (decide (ns = ms))) H) := ⟨fun z =>
  .inr ⟨_, _, .lst h.sq (by rw [a.eq]; exact dpInts ns), .lst k.sq (by rw [b.eq]; exact dpInts ms), shL ns, shL ms, by rw [PyData.eqv, eqInts]; exact z⟩⟩
instance [h : SqC K H p xs] [k : SqC K H q ys] [a : IntsC xs ns] [b : IntsC ys ms] : Step (rNeX K (.ref p) (.ref q) H Q) (Q (.bl (!decide (ns = ms))) H) := ⟨fun z =>
  .inr ⟨_, _, .lst h.sq (by rw [a.eq]; exact dpInts ns), .lst k.sq (by rw [b.eq]; exact dpInts ms), shL ns, shL ms, by rw [PyData.eqv, eqInts]; exact z⟩⟩
instance [h : StC K H p xs] [k : StC K H q ys] [a : IntsC xs ns] [b : IntsC ys ms] : Step (rEqX K (.ref p) (.ref q) H Q) (Q (.bl (decide (ns = ms))) H) := ⟨fun z =>
  .inr ⟨_, _, .tup h.st (by rw [a.eq]; exact dpInts ns), .tup k.st (by rw [b.eq]; exact dpInts ms), shT ns, shT ms, by rw [PyData.eqv, eqInts]; exact z⟩⟩
instance [h : StC K H p xs] [k : StC K H q ys] [a : IntsC xs ns] [b : IntsC ys ms] : Step (rNeX K (.ref p) (.ref q) H Q) (Q (.bl (!decide (ns = ms))) H) := ⟨fun z =>
  .inr ⟨_, _, .tup h.st (by rw [a.eq]; exact dpInts ns), .tup k.st (by rw [b.eq]; exact dpInts ms), shT ns, shT ms, by rw [PyData.eqv, eqInts]; exact z⟩⟩
end
theorem cutTo {α : Type} {ds : List α} {f : α → V} {n : Nat} : cutV (ds.map f) none (some (n : Int)) = (ds.take n).map f := by
  unfold cutV
  rw [HT.sIx_nat, HT.sIx_none, List.length_map, List.map_take, List.drop_zero, Nat.sub_zero]
  by_cases h : n ≤ ds.length
  · rw [Nat.min_eq_left h]
  · rw [Nat.min_eq_right (by omega), List.take_of_length_le (by simp), List.take_of_length_le (by simp; omega)]
theorem getD_mem {α : Type} {ns : List α} {i : Nat} {d : α} (h : i < ns.length) : ns.getD i d ∈ ns := by
  rw [List.getD_eq_getElem?_getD, List.getElem?_eq_getElem h, Option.getD_some]
  exact List.getElem_mem h
theorem getD_at {α : Type} {ns : List α} {i : Nat} {x d : α} (h : ns[i]? = some x) : ns.getD i d = x := by
  rw [List.getD_eq_getElem?_getD, h, Option.getD_some]
/-! ### xs[::-1], xs[k] = v, i in xs -/
section
variable {X : Cx} {K : PySem.W.Frag}
theorem pe_revLK (h : X.K = K) {e : Expr} {te : TE} {k : Nat} {p1 p2 p3 pos : Pos} (he : PE X e te) : PE X (.Subscript e (.Slice none none (some (.UnaryOp .USub (.Constant (.int 1) k p1) p2)) p3) pos) (tRevL K te) := h ▸ pe_revL he
variable {σ : L2.St} {H : Hp} {Q : VK} {p : Addr} {xs : List V} {ns : List Int} {te : TE}
def rRevL (K : PySem.W.Frag) (x : V) (H1 : Hp) (Q : VK) : Prop := ∃ a xs, x = .ref a ∧ SqL K H1 a xs ∧ ∀ p, H1 p = none → Q (.ref p) (upd H1 p (.lst xs.reverse))
instance : Step (tRevL K te σ H Q) (te σ H fun x H1 => rRevL K x H1 Q) := ⟨fun q => q⟩
theorem g_revL [h : SqC K H p xs] (q : ∀ p2 H2, Nw H p2 → Ex H H2 → At H2 p2 (.lst xs.reverse) → Q (.ref p2) H2) : rRevL K (.ref p) H Q := ⟨p, xs, rfl, h.sq, g_new q⟩
theorem ixN_nat {n i : Nat} (h : i < n) : ixN n (i : Int) = some i := by
  unfold ixN
  rw [if_pos (by omega), if_pos (by omega)]
  simp
theorem g_setI {k : Int} {v : Int} {R : Hp → Prop} [h : At H p (.lst (ns.map V.int))] (h0 : 0 ≤ k) (h1 : k < (ns.length : Int)) (q : ∀ H2, ExB p H H2 → At H2 p (.lst ((ns.set k.toNat v).map V.int)) → R H2) : rSetL (.ref p) (.int k) (.int v) H R := by
  obtain ⟨j, rfl⟩ : ∃ j : Nat, k = (j : Int) := ⟨k.toNat, by omega⟩
  refine g_set (j := j) (ixN_nat (by rw [List.length_map]; omega)) fun H2 e hp => q H2 e ?_
  rw [Int.toNat_natCast, List.map_set]
  exact hp
theorem inV_int {i : Int} : ∀ ns : List Int, inV (.int i) (ns.map V.int) = decide (i ∈ ns)
  | [] => by simp [inV]
  | n :: r => by
    have ih := inV_int (i := i) r
    unfold inV at *
    rw [List.map_cons, List.any_cons, ih]
    show ((n == i) || decide (i ∈ r)) = _
    rw [Bool.eq_iff_iff]
    simp only [Bool.or_eq_true, beq_iff_eq, decide_eq_true_eq, List.mem_cons]
    exact ⟨fun h => h.imp Eq.symm _root_.id, fun h => h.imp Eq.symm _root_.id⟩
theorem flat_ints : ∀ ns : List Int, (ns.map V.int).all flatV = true
  | [] => rfl
  | n :: r => by rw [List.map_cons, List.all_cons, flat_ints r]; rfl
instance {i : Int} [h : SqC K H p (ns.map V.int)] : Step (rIn K false (.int i) (.ref p) H Q) (Q (.bl (decide (i ∈ ns))) H) := ⟨fun q => ⟨p, _, rfl, .inl h.sq, rfl, flat_ints ns, by rw [if_neg Bool.false_ne_true, inV_int]; exact q⟩⟩
instance {i : Int} [h : SqC K H p (ns.map V.int)] : Step (rIn K true (.int i) (.ref p) H Q) (Q (.bl (!decide (i ∈ ns))) H) := ⟨fun q => ⟨p, _, rfl, .inl h.sq, rfl, flat_ints ns, by rw [if_pos rfl, inV_int]; exact q⟩⟩
theorem g_ixN {n : Nat} {v : V} [h : SqC K H p xs] (a : xs[n]? = some v) (q : Q v H) : rIx K (.ref p) (.int (n : Nat)) H Q := g_ixL (atI_nat a) q
theorem q_true {b : Bool} (k : Q (.bl b) H) (h : b = true) : Q (.bl true) H := h ▸ k
theorem q_false {b : Bool} (k : Q (.bl b) H) (h : b = false) : Q (.bl false) H := h ▸ k
end
theorem q_dec' {H : Hp} {Q : VK} {p : Prop} {_ : Decidable p} (k : Q (.bl (decide p)) H) (h : p) : Q (.bl true) H := by rw [decide_eq_true h] at k; exact k
theorem q_decN' {H : Hp} {Q : VK} {p : Prop} {_ : Decidable p} (k : Q (.bl (decide p)) H) (h : ¬ p) : Q (.bl false) H := by rw [decide_eq_false h] at k; exact k
theorem for1n {σ : L2.St} {H : Hp} {D : Ends} {tb : TS} {g : TG} {n : Int} (bs : List Addr) (Pv : Int → Nat → L2.St → Hp → Prop) (hn : -(2 ^ 62) ≤ n ∧ n < 2 ^ 62) (h0 : Pv n 0 σ H)
    (hs : ∀ (i : Nat) σ' H', (i : Int) < n → Chg bs H H' → Pv n i σ' H' → g (.int (i : Int)) σ' H' fun σ2 H2 => tb { D with nx := LI bs H (Pv n (i + 1)), ct := LI bs H (Pv n (i + 1)), bk := D.nx } σ2 H2)
    (hd : ∀ σ' H', Chg bs H H' → Pv n n.toNat σ' H' → D.nx σ' H') : rFor1 [.int n] g tb D σ H := for1 bs (Pv n) hn h0 hs hd
theorem cutFrom {α : Type} {ds : List α} {f : α → V} {n : Nat} : cutV (ds.map f) (some (n : Int)) none = (ds.drop n).map f := by
  unfold cutV
  rw [HT.sIx_nat, HT.sIx_none, List.length_map, List.map_drop]
  by_cases h : n ≤ ds.length
  · rw [Nat.min_eq_left h, List.take_of_length_le]
    simp
  · rw [Nat.min_eq_right (by omega), Nat.sub_self, List.take_zero, List.drop_eq_nil_of_le (by simp; omega)]
theorem getD_set {α : Type} {ds : List α} {p : Nat} {v d : α} (hp : p < ds.length) (i : Nat) : (ds.set p v).getD i d = if i = p then v else ds.getD i d := by
  rw [List.getD_eq_getElem?_getD, List.getElem?_set]
  by_cases e : p = i
  · subst e
    simp [hp]
  · rw [if_neg e, if_neg (fun z => e z.symm), List.getD_eq_getElem?_getD]
theorem cutB_from {α : Type} {l : List α} {n : Nat} : (l.drop (HT.sIx l.length 0 (some (n : Int)))).take (HT.sIx l.length l.length none - HT.sIx l.length 0 (some (n : Int))) = l.drop n := by
  rw [HT.sIx_nat, HT.sIx_none]
  by_cases h : n ≤ l.length
  · rw [Nat.min_eq_left h, List.take_of_length_le]
    simp
  · rw [Nat.min_eq_right (by omega), Nat.sub_self, List.take_zero, List.drop_eq_nil_of_le (by omega)]
theorem cutB_1 {α : Type} {l : List α} : (l.drop (HT.sIx l.length 0 (some 1))).take (HT.sIx l.length l.length none - HT.sIx l.length 0 (some 1)) = l.drop 1 := cutB_from (n := 1)
theorem cutB_to {α : Type} {l : List α} {n : Nat} : (l.drop (HT.sIx l.length 0 none)).take (HT.sIx l.length l.length (some (n : Int)) - HT.sIx l.length 0 none) = l.take n := by
  rw [HT.sIx_nat, HT.sIx_none, List.drop_zero, Nat.sub_zero]
  by_cases h : n ≤ l.length
  · rw [Nat.min_eq_left h]
  · rw [Nat.min_eq_right (by omega), List.take_of_length_le (Nat.le_refl _), List.take_of_length_le (by omega)]
theorem g_inT {K : PySem.W.Frag} {H : Hp} {Q : VK} {p : Addr} {xs : List V} {x : V} {neg b : Bool} [h : StC K H p xs] (hf : flatV x = true) (hx : xs.all flatV = true) (hb : inV x xs = b) (q : Q (.bl (if neg then !b else b)) H) : rIn K neg x (.ref p) H Q :=
  ⟨p, xs, rfl, .inr h.st, hf, hx, by rw [hb]; exact q⟩
theorem g_inL {K : PySem.W.Frag} {H : Hp} {Q : VK} {p : Addr} {xs : List V} {x : V} {neg b : Bool} [h : SqC K H p xs] (hf : flatV x = true) (hx : xs.all flatV = true) (hb : inV x xs = b) (q : Q (.bl (if neg then !b else b)) H) : rIn K neg x (.ref p) H Q :=
  ⟨p, xs, rfl, .inl h.sq, hf, hx, by rw [hb]; exact q⟩
end Gx

set_option linter.all false
set_option maxRecDepth 100000
set_option maxHeartbeats 2000000
/-! Gd: data compared at any depth. -/
namespace Gx
open PySem PySem.Spec PyProof.Rows L2
section
variable {K : PySem.W.Frag} {H : Hp} {Q : VK} {x y : V} {xs ys : List V} {d e : PyData} {ds es : List PyData} {p : Addr}
class DatC (K : PySem.W.Frag) (H : Hp) (x : V) (d : outParam PyData) : Prop where
  dp : Dp K H x d
class DatsC (K : PySem.W.Frag) (H : Hp) (xs : List V) (ds : outParam (List PyData)) : Prop where
  dp : DpAll K H xs ds
instance : DatC K H .non .none := ⟨.non⟩
instance {b : Bool} : DatC K H (.bl b) (.bool b) := ⟨.bl b⟩
instance {i : Int} : DatC K H (.int i) (.int i) := ⟨.int i⟩
instance {z : Str} : DatC K H (.str z) (.str z) := ⟨.str z⟩
instance [h : SqC K H p xs] [k : DatsC K H xs ds] : DatC K H (.ref p) (.list ds) := ⟨.lst h.sq k.dp⟩
instance [h : StC K H p xs] [k : DatsC K H xs ds] : DatC K H (.ref p) (.tuple ds) := ⟨.tup h.st k.dp⟩
instance : DatsC K H [] [] := ⟨.nil⟩
instance [h : DatC K H x d] [k : DatsC K H xs ds] : DatsC K H (x :: xs) (d :: ds) := ⟨.cons h.dp k.dp⟩
instance {ns : List Int} : DatsC K H (ns.map V.int) (ns.map PyData.int) := ⟨dpInts ns⟩
theorem g_eqD {b : Bool} [h : DatC K H x d] [k : DatC K H y e] (hd : SeqAt.shaped d = true) (he : SeqAt.shaped e = true) (hb : PyData.eqv d e = b) (q : Q (.bl b) H) : rEqX K x y H Q :=
  .inr ⟨_, _, h.dp, k.dp, hd, he, by rw [hb]; exact q⟩
theorem g_neD {b : Bool} [h : DatC K H x d] [k : DatC K H y e] (hd : SeqAt.shaped d = true) (he : SeqAt.shaped e = true) (hb : PyData.eqv d e = b) (q : Q (.bl (!b)) H) : rNeX K x y H Q :=
  .inr ⟨_, _, h.dp, k.dp, hd, he, by rw [hb]; exact q⟩
end
theorem g_ixIN {K : PySem.W.Frag} {H : Hp} {Q : VK} {p : Addr} {ns : List Int} {n : Nat} [h : SqC K H p (ns.map V.int)] (h1 : n < ns.length) (q : Q (.int (ns.getD n 0)) H) : rIx K (.ref p) (.int (n : Nat)) H Q :=
  g_ixI (by omega) (by omega) (by rw [Int.toNat_natCast]; exact q)
def rIsB : R2 := fun x y H Q => ∃ c d, x = .bl c ∧ y = .bl d ∧ Q (.bl (c == d)) H
def rNotB : R2 := fun x y H Q => ∃ c d, x = .bl c ∧ y = .bl d ∧ Q (.bl (c != d)) H
theorem op_isB {X : Cx} : OpR X (compareOp .Is) rIsB := by
  intro pins s σ H x y v u Q I rx ry h
  obtain ⟨c, d, rfl, rfl, q⟩ := h
  cases rx
  cases ry
  exact is_bool (fin_bl I q rfl)
theorem op_notB {X : Cx} : OpR X (compareOp .IsNot) rNotB := by
  intro pins s σ H x y v u Q I rx ry h
  obtain ⟨c, d, rfl, rfl, q⟩ := h
  cases rx
  cases ry
  exact isnot_bool (fin_bl I q rfl)
instance {H : Hp} {Q : VK} {c d : Bool} : Step (rIsB (.bl c) (.bl d) H Q) (Q (.bl (c == d)) H) := ⟨fun q => ⟨c, d, rfl, rfl, q⟩⟩
instance {H : Hp} {Q : VK} {c d : Bool} : Step (rNotB (.bl c) (.bl d) H Q) (Q (.bl (c != d)) H) := ⟨fun q => ⟨c, d, rfl, rfl, q⟩⟩
theorem sh2 {x y : Str} (hx : PyData.strOk x = true) (hy : PyData.strOk y = true) : SeqAt.shaped (.tuple [.str x, .str y]) = true := by
  simp [SeqAt.shaped, PyData.canLay0, PyData.canLayAll0, PyData.depth, PyData.depthAll, hx, hy]
theorem ev2 {x y z w : Str} : PyData.eqv (.tuple [.str x, .str y]) (.tuple [.str z, .str w]) = ((x == z) && (y == w)) := by
  simp [PyData.eqv, PyData.eqvAll]
theorem ev2_t {x y : Str} : PyData.eqv (.tuple [.str x, .str y]) (.tuple [.str x, .str y]) = true := by rw [ev2]; simp
theorem ev2_f {x y z w : Str} (h : x ≠ z) : PyData.eqv (.tuple [.str x, .str y]) (.tuple [.str z, .str w]) = false := by
  rw [ev2, show (x == z) = false from by simpa using h]; rfl
section
variable {σ : L2.St} {H : Hp} {g : TG} {tb : TS} {D : Ends}
theorem forS {z : Str} (bs : List Addr) (Pv : Nat → L2.St → Hp → Prop) (h0 : Pv 0 σ H)
    (hs : ∀ (i : Nat) c x σ' H', i < z.cps.size → z.cps[i]? = some c → x = .str ⟨#[c]⟩ → Chg bs H H' → Pv i σ' H' → g x σ' H' fun σ2 H2 => tb { D with nx := LI bs H (Pv (i + 1)), ct := LI bs H (Pv (i + 1)), bk := D.nx } σ2 H2)
    (hd : ∀ σ' H', Chg bs H H' → Pv z.cps.size σ' H' → D.nx σ' H') : rForS (.str z) g tb D σ H :=
  ⟨z, rfl, for_feeds fd_str bs Pv h0 (fun _ _ => trivial) (fun i σ' H' x H'' hi r p y => by
    obtain ⟨rfl, c, hc, rfl⟩ := y
    exact hs i c _ σ' _ hi hc rfl r p) hd⟩
end
end Gx

set_option linter.all false
set_option maxRecDepth 100000
set_option maxHeartbeats 2000000
namespace Gx
open PySem PySem.Spec PyProof.Rows L2
/-! ### an own exception class over ValueError whose __init__ begins with super().__init__(e) -/
section
open PySem.W PySem.Calls PyProof.Rows
variable {prog : Program} {w : World} {A : Around} {E : Value → Shared → Prop} {h : Heap} {g : Array GenState} {d : Drawn} {t : Nat} {os : OsState}
variable {nm q : Str} {C N : Addr} {bs bm : List Value} {hdct : Bool} {sn : List Str} {sub : List Value} {ab : Bool} {col : Option Bool} {dd : Option Addr} {k0 k1 k2 k3 k5 : Option Value}
theorem call_mw {u e t0 : Addr} {rest : List Value} {Q : Value → Shared → Prop}
    (hC : h.get? C = some (excClassObj nm q C N bs bm hdct sn sub ab col dd k0 k1 k2 k3 k5 "ValueError.__new__")) (he : h.get? e = some (HandSPX.excO C t0)) (hu : h.get? u = some (kxs_mw "ValueError.__init__" e)) (hrest : rest.length ≤ sizeLine)
    (hq : ∀ h' t1, (∀ b o, b ≠ e → h.get? b = some o → h'.get? b = some o) → h'.get? e = some (HandSPX.excO C t1) → Q .none ⟨h', g, d, t, os⟩) :
    wpAny (model prog w) A (call (.ref u) rest) Q E ⟨h, g, d, t, os⟩ := by
  refine wpAny_call (codeAny_of_tree ?_)
  show wpAny _ A.in1 (callAny (.ref u) ⟨rest, []⟩) _ _ _
  simp only [callAny]
  refine wpAny_bind (wpAny_load hu ?_)
  simp only [kxs_mw, show (Value.type "method-wrapper" == Value.type "method" || Value.type "method-wrapper" == Value.type "builtin_function_or_method" || Value.type "method-wrapper" == Value.type "method-wrapper") = true by decide, if_true]
  refine W.KFB.if_so (by decide) ?_
  refine wpAny_bind (ESX.check_bound F.excBase_ValueError hC he rfl ?_)
  refine wpAny_bind (wpAny_pure (wpAny_pure ?_))
  refine ⟨Code.quiet_builtin _ (by decide +kernel), codeAny_builtin F.excBase_ValueError.initEntry ?_⟩
  rw [Around.under_plainId F.excBase_ValueError.init.plain _]
  wp_walk
  refine hq _ h.objs.size (fun b o hb ho => ?_) ?_
  · rw [Heap.get?_update_other _ _ (Ne.symm hb)]
    exact Heap.get?_push_of_some _ ho
  · rw [Heap.get?_update_self _ (Heap.get?_push_of_some _ he) rfl]
    rfl
end
section
open PySem.W PySem.Calls PyProof.Rows NdefX
theorem look1 {x y : Str} {c c' : Addr} (h : ([(x, c)] : List (Str × Addr)).lookup y = some c') : y = x ∧ c' = c := by
  unfold List.lookup at h
  split at h
  · rename_i e
    exact ⟨eq_of_beq e, (Option.some.inj h).symm⟩
  · simp at h
/-- what the written part says of an __init__ (at f, of the class at D) that says super() -/
structure SupF (P : Program) (K : Frag) (mg : Str → Option Value) (f D : Addr) (qual : Str) (st : Stmt) (ps : List Str) (fd : FuncData) : Prop where
  ex : ∃ (c cc : Addr) (oc doc pm ct cl ccl : Value) (od cld cdd : Option Addr) (osl csl ccs : Array (Option Value)) (vs : Array Value) (file : Str) (tf : Tok) (cdD : ClassData),
    fd = fnX "__init__" qual (defArgs st) (defBody st) (defScope st) [("__class__", cc)] .none .none doc pm none (.ref c) ct ∧ K.lookup f = some ⟨oc, od, .func fd, osl⟩ ∧ codeIn K (.ref c) qual = true ∧
    K.lookup c = some ⟨ccl, cdd, .fields vs, ccs⟩ ∧ vs[2]? = some (.str file tf) ∧ ((P.main.file : Str) == file) = true ∧ K.lookup cc = some ⟨cl, cld, .cell (some (.ref D)), csl⟩ ∧ clsIn K D = some cdD
  nsup : mg "super" = none
  top : (P.main.scope.names.lookup ("super" : Str)).isSome = false
  opq : nsIn K cStatics "thirdparty.any" = some none
/-- .. of the class C whose instance it is given -/
structure SupC (K : Frag) (C D : Addr) : Prop where
  oex : OexC K C
  mro : mroIn K C (.ref D) = some true
  sup : ks_superIn K C D "__init__" = some (some (.builtin "ValueError.__init__"))
  sub : subIn K (.ref C) (.type "ValueError") = some true
variable {P : Program} {w : World} {K : Frag} {mg : Str → Option Value} {base : Heap} {k : Nat} {N ps : List Str} {f D : Addr} {qual : Str} {st : Stmt} {fd : FuncData} {sp : Sp}
theorem sup_ok {e : Expr} {rest : List Stmt} {p0 p1 p2 p3 p4 : Pos} {self : Str} {ar : Arg} (F : SupF P K mg f D qual st ps fd) (S : NScope N ps ["__class__"] (defScope st))
    (hbody : defBody st = .Expr (.Call (.Attribute (.Call (.Name "super" p0) [] [] p1) "__init__" p2) [e] [] p3) p4 :: rest)
    (hps : ps.head? = some self) (har : ((defArgs st).posonlyargs ++ (defArgs st).args).head? = some ar) (hself : ar.arg = self) (hks : (defScope st).names.lookup ("super" : Str) = some .globalImplicit)
    (hb : ∀ (c cc : Addr) (doc pm ct : Value) (us : List Value), us.length = ps.length → bindArgs (fnX "__init__" qual (defArgs st) (defBody st) (defScope st) [("__class__", cc)] .none .none doc pm none (.ref c) ct) ⟨us, []⟩ = pure (ps.zip us))
    (hsw : ∀ (c cc f L : Addr), swapsWith (.Call (.Attribute (.Call (.Name "super" p0) [] [] p1) "__init__" p2) [e] [] p3) none p4.line (envX qual (defScope st) L f (.ref c) [("__class__", cc)]) = pure false)
    (hin : ∀ (c cc f L : Addr), interactive (envX qual (defScope st) L f (.ref c) [("__class__", cc)]) = false)
    (hev : ∀ (c cc f L : Addr), ∃ pl : Sem Bool, eval (.Call (.Attribute (.Call (.Name "super" p0) [] [] p1) "__init__" p2) [e] [] p3) (envX qual (defScope st) L f (.ref c) [("__class__", cc)]) = (do
      let ov ← attributeBase (.Call (.Name "super" p0) [] [] p1) "__init__" (envX qual (defScope st) L f (.ref c) [("__class__", cc)]) (eval (.Call (.Name "super" p0) [] [] p1) (envX qual (defScope st) L f (.ref c) [("__class__", cc)]))
      standAt p2.atName
      let (f', first) ← holding [ov] (getMethod ov "__init__" pl)
      callWith p3 f' first (backTo p3 (starEach [e] (envX qual (defScope st) L f (.ref c) [("__class__", cc)]))) []))
    (hst : ∀ (c cc f L : Addr), starEach [e] (envX qual (defScope st) L f (.ref c) [("__class__", cc)]) = [(false, eval e (envX qual (defScope st) L f (.ref c) [("__class__", cc)]))])
    (len : ∀ vs H Q E, sp vs H Q E → vs.length = ps.length)
    (hread : ∀ (c cc : Addr) (A : Around) (outer : List Env) (s : Shared) (H : Hp) (vs : List V) (Q : VK) (E : XK), Room k (A.deeper (envX qual (defScope st) s.heap.objs.size f (.ref c) [("__class__", cc)])) → sp vs H Q E →
      ∃ ta ts a C r, PA (ncx CX0 P w K mg base N ⟨"__init__", qual, defArgs st, defBody st, defScope st, [("__class__", cc)], c⟩ f A outer s H E) [e] ta ∧ PSs (ncx CX0 P w K mg base N ⟨"__init__", qual, defArgs st, defBody st, defScope st, [("__class__", cc)], c⟩ f A outer s H E) rest ts ∧
        vs = .ref a :: r ∧ SupC K C D ∧ H a = some (exo a C none) ∧ ta (startF N vs [none]) H fun zs H1 => zs.length ≤ 1000 ∧ H1 a = some (exo a C none) ∧ ts { nx := fun _ H' => Q .non H', rt := Q } (startF N vs [none]) H1) :
    FnOk P w K mg base CX0 (k + 1) f fd ps sp := by
  obtain ⟨c, cc, oc, doc, pm, ct, cl, ccl, od, cld, cdd, osl, csl, ccs, vv, file, tf, cdD, rfl, lk, hcd, lc, hv2, hfile, lcc, hD⟩ := F.ex
  refine ⟨len, fun A outer s H args us vs Q E hr e0 hbd r hsp => ?_⟩
  have KX : K.In s.heap := e0.mod.kin.keeps fun b o e => (e0.bs b o e).1
  have hl := len _ _ _ _ hsp
  have lim : s.heap.NoLimit := e0.mod.nolimit.keeps fun b o e => (e0.bs b o e).1
  have hcc : H cc = none := (e0.bs cc _ (e0.mod.kin _ _ lcc)).2
  have CA : CellsAt [("__class__", cc)] ["__class__"] [none] s.heap H := by
    refine ⟨rfl, fun y c' hy => ?_, fun x y c' hx hy => ?_, fun i y hy => ?_⟩
    · obtain ⟨_, rfl⟩ := look1 hy
      exact ⟨hcc, _, _, KX _ _ lcc, rfl⟩
    · rw [(look1 hx).1, (look1 hy).1]
    · cases i with
      | zero => simp at hy; subst hy; exact ⟨cc, rfl, fun v hv => by simp at hv⟩
      | succ i => simp at hy
  refine ks_codeAny_call_defAt (body := defBody st) (binds := ps.zip us) hr.depth (KX _ _ lk) rfl lim (codeRec_of KX hcd) rfl hbd S.nocell (fun ⟨n, v⟩ hy => S.par n (List.of_mem_zip hy).1) (fun h₁ hns kp => ?_) S.co S.gen S.kind
  obtain ⟨ta, ts, a, C, r', pa, ps', rfl, SC, ha, hq⟩ := hread c cc A outer s H vs Q E (hr.deeper _) hsp
  have I : Inv (ncx CX0 P w K mg base N ⟨"__init__", qual, defArgs st, defBody st, defScope st, [("__class__", cc)], c⟩ f A outer s H E) [] (startF N (.ref a :: r') [none]) H { s with heap := h₁, toks := s.toks + (ps.zip us).length } := inv_startN S hr.hd e0 hl r CA hns kp
  show _root_.PySem.wpAt (model P w) (A.deeper (envX qual (defScope st) s.heap.objs.size f (.ref c) [("__class__", cc)])) (.func (defBody st) (envX qual (defScope st) s.heap.objs.size f (.ref c) [("__class__", cc)])) (execs (defBody st) (envX qual (defScope st) s.heap.objs.size f (.ref c) [("__class__", cc)])) _ _ _
  rw [hbody]
  obtain ⟨pl, hev'⟩ := hev c cc f s.heap.objs.size
  refine ks_wpAt_execs_cons (ks_wpAt_Expr_any (ks_wpAt_MethodCall (pl := pl) ?_ hev') (hin c cc f s.heap.objs.size) (hsw c cc f s.heap.objs.size))
  obtain ⟨tC, hoe⟩ := exo_at I.hok ha
  have XI : K.In h₁ := KX.keeps kp
  obtain ⟨oD, hD1, hD2⟩ : ∃ oD, h₁.get? D = some oD ∧ oD.data = .cls cdD := by
    unfold clsIn at hD
    split at hD
    · rename_i c d cd' sl ho
      cases hD
      exact ⟨_, XI _ _ ho, rfl⟩
    · cases hD
  have IA : InstAt h₁ a { cls := .ref C, dict := none, data := .fields #[.ref tC, .none, .none, .none, .bool false, .none] } C none := ⟨hoe, rfl, rfl, trivial⟩
  obtain ⟨mb, hmb, hmbv⟩ := I.mod.blt
  have hself' : (fun y => (ps.zip us).reverse.lookup y) ar.arg = some (.ref a) := by
    have ndP : ps.Nodup := by
      have q := S.nd.sublist (List.take_sublist (ps.length + 1) N)
      have e1 := S.pre
      rw [show (["__class__"] : List Str).length = 1 from rfl] at e1
      rw [e1] at q
      exact (List.nodup_append.mp q).1
    cases r with
    | @cons _ u0 _ ur ra rw' =>
      obtain rfl : u0 = Value.ref a := ra
      refine zip_look (i := 0) ndP ?_ rfl
      rw [hself]
      cases ps with
      | nil => simp at hps
      | cons x y => simpa using hps
  refine ks_wpAt_super_base (env := envX qual (defScope st) s.heap.objs.size f (.ref c) [("__class__", cc)]) hks (S.frk _ (by simp)) rfl rfl (XI _ _ lk) rfl har rfl (XI _ _ lc) rfl hv2 hfile F.top ?_
  refine ks_loadName_global S.kind hks (loadGlobal_builtin (env := envX qual (defScope st) s.heap.objs.size f (.ref c) [("__class__", cc)]) (I.mod.glob.keeps I.bk) F.nsup (hmb.keeps I.bk) ((hmbv _ (by decide)).trans PyProof.Rows.Boot.«super») ⟨rfl, ?_⟩)
  refine wpAny_loadName_free S.kind (S.frk _ (by simp)) rfl ⟨_, XI _ _ lcc, rfl⟩ ?_
  refine wpAny_loadName_local S.kind (S.par _ (by rw [hself]; exact List.mem_of_mem_head? hps)) hns hself' ?_
  refine ks_wpAny_isType_cls hD1 hD2 ⟨rfl, ?_⟩
  refine ks_wpAny_call_super hD1 hD2 IA.at_ IA.cls (fun c e => by cases e) (looks_mroIn XI SC.mro) (fun h' eS k' => ?_)
  have X' : K.In h' := XI.keeps k'
  have hlt : h₁.objs.size < h'.objs.size := Heap.lt_size eS
  have IA' : InstAt h' a { cls := .ref C, dict := none, data := .fields #[.ref tC, .none, .none, .none, .bool false, .none] } C none := ⟨k' _ _ hoe, rfl, rfl, trivial⟩
  have hsup := SC.sup
  cases hc : clsIn K C with
  | none => unfold ks_superIn at hsup; rw [hc] at hsup; cases hsup
  | some cd =>
  unfold ks_superIn at hsup
  rw [hc] at hsup
  have hI : Looks (model P w) h' (isInstance (.ref a) (.type "ValueError")) true := IA'.type.andThen (looks_subIn X' SC.sub)
  refine kxs_getMethod kxs_ValueError eS (looks_opaque X' F.opq) (l₀ := cd.mro) (fun A Q E s k q => wpAny_bind ((looks_clsIn X' hc) A _ E s k (wpAny_pure q))) rfl X' hsup hI (ks_ne X' IA' hc) rfl ?_
  have hk2 : ∀ b o, h₁.get? b = some o → (h'.push (kxs_mw "ValueError.__init__" a)).get? b = some o := fun b o z => Heap.get?_push_of_some _ (k' b o z)
  have hu : (h'.push (kxs_mw "ValueError.__init__" a)).get? h'.objs.size = some (kxs_mw "ValueError.__init__" a) := Heap.get?_push_at rfl rfl
  have I2 := ClX.pin_new (t' := s.toks + (ps.zip us).length + 1) (a := h'.objs.size) I hk2 (Nat.le_of_lt hlt) hu (fun v z => by cases z)
  have hpa := pa.run p3 _ _ _ _ _ I2 hq
  have hst' := hst c cc f s.heap.objs.size
  have hpa : wpAny (model P w) (A.deeper (envX qual (defScope st) s.heap.objs.size f (.ref c) [("__class__", cc)])) (spliced (backTo p3 (starEach [e] (envX qual (defScope st) s.heap.objs.size f (.ref c) [("__class__", cc)])))) _ _ _ := hpa
  rw [hst'] at hpa ⊢
  refine kxs_callWith (i := "ValueError.__init__") (x := a) rfl (evalArgs_plain (wpAny_mono hpa (fun us1 s1 hz => ?_) fun _ _ z => z))
  obtain ⟨zs, H1, I3, r1, hz1, ha1, hq1⟩ := hz
  have hu1 := ClX.pin_at I3
  obtain ⟨t1, ho1⟩ := exo_at I3.hok ha1
  obtain ⟨nm, q, N', bs, bm, sn, sub, ab, col, dd, k0, k1, k2, k3, k5, hC, hbm⟩ := SC.oex.cls
  refine ⟨hu1, ?_⟩
  obtain ⟨hp1, g1, d1, tk1, os1⟩ := s1
  refine call_mw (I3.kIn _ _ hC) ho1 hu1 (by have := r1.length; rw [List.nil_append, ← this, sizeLine_eq]; omega) fun h2 t2 kk hx => ?_
  have J := I3.write (t' := tk1) (x := a) (e := a) (o := exo a C none) (by rw [ha1]; exact True.intro) (.inl rfl) kk ⟨_, hx⟩ (exo_ok hx)
  have eu : upd H1 a (exo a C none) = H1 := by
    funext b
    by_cases hb : b = a
    · rw [hb, upd_same, ha1]
    · rw [upd_ne hb]
  rw [eu] at J
  refine wpAt_of_wpAny (wpAny_mono (ps'.run [] _ (startF N (.ref a :: r') [none]) H1 _ (ClX.unpin J) hq1) (fun fl s' hs => ?_) fun e s' hs => hs)
  have fin : ∀ {σ' : L2.St} {H' : Hp} {v : V} {u : Value}, Inv (ncx CX0 P w K mg base N ⟨"__init__", qual, defArgs st, defBody st, defScope st, [("__class__", cc)], c⟩ f A outer s H E) [] σ' H' s' → L2.RelV v u → Q v H' → CE outer P w H s Q u s' :=
    fun {σ' H' v u} J rv q => ⟨v, H', J.os, J.bare, J.base, J.hok, rv, q⟩
  cases fl with
  | ret u =>
    obtain ⟨v, σ', H', J, rv, q⟩ := hs
    exact fin J rv q
  | next =>
    obtain ⟨σ', H', J, q⟩ := hs
    exact fin (v := V.non) (u := Value.none) J rfl q
  | brk =>
    obtain ⟨_, _, _, q⟩ := hs
    exact False.elim q
  | cont =>
    obtain ⟨_, _, _, q⟩ := hs
    exact False.elim q
end
/-! ### exceptions of the program: one field -/
def FmtV (v : V) : Prop := (∃ y : Str, v = .str y ∧ y.length ≤ 1000) ∨ ∃ i : Int, v = .int i ∧ -(2 ^ 200) < i ∧ i < 2 ^ 200
def spEx1 (C : Addr) (n : Str) : Sp := fun vs H Q _ => ∃ (a : Addr) (v : V), vs = [.ref a, v] ∧ (H a = some (exo a C none) ∧ FmtV v) ∧
  ∀ d H', H d = none → d ≠ a → (∀ b o, b ≠ a → H b = some o → H' b = some o) → (∀ b, H' b = none → H b = none) → H' a = some (exo a C (some d)) → H' d = some (exd d [(n, v)]) → Q .non H'
/-- what the written part says of an own class -/
structure ExD (P : Program) (K : PySem.W.Frag) (mg : Str → Option Value) (x qual : Str) (st : Stmt) (ps : List Str) (C : Addr) : Prop where
  mgC : mg x = some (.ref C)
  sup : SupC K C C
  fld : ∀ n, ps[1]? = some n → PySem.W.findIn K (.ref C) n = some none
  ini : ∃ (f : Addr) (fd : FuncData), PySem.W.findIn K (.ref C) "__init__" = some (some (.ref f)) ∧ PySem.W.typeIn K (.ref f) = some (.type "function") ∧ SupF P K mg f C qual st ps fd
/-- the class may be called -/
structure ExK (P : Program) (w : World) (K : PySem.W.Frag) (mg : Str → Option Value) (base : Heap) (k : Nat) (x : Str) (C : Addr) (n : Str) : Prop where
  mgC : mg x = some (.ref C)
  oex : OexC K C
  ini : ∃ (f : Addr) (fd : FuncData), PySem.W.findIn K (.ref C) "__init__" = some (some (.ref f)) ∧ PySem.W.typeIn K (.ref f) = some (.type "function") ∧ FnOk P w K mg base CX0 k f fd ["self", n] (spEx1 C n) ∧ Binds K fd ["self", n] []
def rMk1 (C : Addr) (n : Str) (vs : List V) (H1 : Hp) (Q : XK) : Prop := vs.length ≤ 1000 ∧ ∀ a, H1 a = none → spEx1 C n (.ref a :: (vs ++ [])) (upd H1 a (exo a C none))
  (fun v H2 => v = .non ∧ ∃ (d : Addr) (fs : List (Str × V)), H2 a = some (exo a C (some d)) ∧ H2 d = some (exd d fs) ∧ H1 d = none ∧ Q (.ref C) (some d) (upd (del H2 a) d (.xd fs))) (fun _ _ _ => False)
def tMk1 (C : Addr) (n : Str) (ta : TA) : L2.St → Hp → XK → Prop := fun σ H Q => ta σ H fun vs H1 => rMk1 C n vs H1 Q
theorem g_mk1 {C : Addr} {n : Str} {v : V} {H1 : Hp} {Q : XK} (hv : FmtV v) (q : ∀ d H', Nw H1 d → Ex H1 H' → At H' d (.xd [(n, v)]) → Q (.ref C) (some d) H') : rMk1 C n [v] H1 Q := by
  refine ⟨by simp, fun a ha => ⟨a, v, rfl, ⟨upd_same, hv⟩, fun d H' hd hda keep live ha' hd' => ?_⟩⟩
  have hd1 : H1 d = none := by rw [upd_ne hda] at hd; exact hd
  have K1 : ∀ b o, H1 b = some o → H' b = some o := fun b o hb => by
    have hba : b ≠ a := ne_of_none hb ha
    exact keep b o hba (by rw [upd_ne hba]; exact hb)
  refine ⟨rfl, d, _, ha', hd', hd1, q d _ ⟨hd1⟩ ⟨fun b o _ hb => ?_, fun b hb => ?_, fun b o _ hb => ?_⟩ ⟨upd_same⟩⟩
  rotate_left 2
  · rw [upd_ne (ne_of_none hb hd1), del_ne (ne_of_none hb ha)]
    exact K1 b o hb
  · rw [upd_ne (ne_of_none hb hd1), del_ne (ne_of_none hb ha)]
    exact K1 b o hb
  · by_cases hbd : b = d
    · rw [hbd]; exact hd1
    · rw [upd_ne hbd] at hb
      by_cases hba : b = a
      · rw [hba]; exact ha
      · rw [del_ne hba] at hb
        have := live b hb
        rw [upd_ne hba] at this
        exact this
theorem pmk1 {X : Cx} {k : Nat} {x n : Str} {C : Addr} {e : Expr} {ta : TA} {p pos : Pos} (M : ExK X.prog X.w X.K X.mg X.base k x C n) (hr : Room (k + 1) X.A) (hg : Gl X x) (ha : PA X [e] ta)
    (hdb : (x == ("__debug__" : Str)) = false := by decide) (he : starEach [e] X.env = (false, eval e X.env) :: starEach [] X.env := by rfl) (hpl : (backTo pos (starEach [] X.env)).any (·.1) = false := by rfl) :
    PMk X (.Call (.Name x p) [e] [] pos) (tMk1 C n ta) := by
  obtain ⟨f, fd, i1, i2, F, b⟩ := M.ini
  exact pmk_oex (sp := spEx1 C n) (dvs := []) M.oex i1 i2 F hr b .nil pass0 hg M.mgC ha hdb he hpl
/-! defs that may raise -/
section
variable {P : Program} {w : World} {K : PySem.W.Frag} {mg : Str → Option Value} {base : Heap}
structure ClX (P : Program) (w : World) (K : PySem.W.Frag) (mg : Str → Option Value) (base : Heap) (k : Nat) (x : Str) (ps : List Str) (sp : Sp) : Prop where
  ex : ∃ (f : Addr) (fd : FuncData), mg x = some (.ref f) ∧ PySem.W.keepIn K (.ref f) = true ∧ (∀ us : List Value, us.length = ps.length → bindArgs fd ⟨us, []⟩ = pure (ps.zip us)) ∧ FnOk P w K mg base (L2.CX P w) k f fd ps sp
theorem Df.okX {x : Str} {st : Stmt} {N ps : List Str} {k : Nat} {sp : Sp} (D : Df K mg x st ps) (S : FnScope N ps (defScope st)) (len : ∀ vs H Q E, sp vs H Q E → vs.length = ps.length)
    (hbody : ∀ (f : Addr) (cdv : Value) (A : Around) (outer : List Env) (s : Shared) (H : Hp) (vs : List V) (Q : VK) (E : XK), Room k (A.deeper (envOfC x (defScope st) s.heap.objs.size f cdv)) → sp vs H Q E →
      ∃ t, PSs (cxOf (L2.CX P w) P w K mg base N x (defScope st) f cdv A outer s H E) (defBody st) t ∧ t { nx := fun _ H' => Q .non H', rt := Q } (start N vs) H) : ClX P w K mg base (k + 1) x ps sp := by
  obtain ⟨f, fd, h1, h2, h3⟩ := D.ex
  exact ⟨f, fd, h1, h2.kp, h3, h2.okX S len fun cdv A outer s H vs Q E hr h => hbody f cdv A outer s H vs Q E hr h⟩
theorem takesX {N : List Str} {qual : Str} {scope : Scope} {f : Addr} {cd : Value} {A : Around} {outer : List Env} {s : Shared} {H : Hp} {E : XK} : Takes (cxOf (L2.CX P w) P w K mg base N qual scope f cd A outer s H E) (fun cls d _ H => E cls d H) := takes_of rfl rfl rfl rfl
end
section
variable {X : Cx} {x : Str} {p pos : Pos} {e : Expr} {es : List Expr} {t : TA} {k : Nat} {ps : List Str} {sp : Sp} {W : WX}
theorem pe_clX (C : ClX X.prog X.w X.K X.mg X.base k x ps sp) (hr : Room k X.A) (tk : Takes X W) (ha : PA X (e :: es) t) (hg : Gl X x := by rfl) (hdb : (x == ("__debug__" : Str)) = false := by decide)
    (he : starEach (e :: es) X.env = (false, eval e X.env) :: starEach es X.env := by rfl) (hpl : (backTo pos (starEach es X.env)).any (·.1) = false := by rfl) :
    PE X (.Call (.Name x p) (e :: es) [] pos) (tCallS sp (WE W) t) := by
  obtain ⟨f, fd, h1, h2, h3, h4⟩ := C.ex
  exact pe_callS h4 hr hg h1 h2 (Binds.all h3) (passAt tk) ha hdb he hpl
end
section
variable {σ : L2.St} {H : Hp} {Q : VK} {E : L2.St → XK} {sp : Sp} {tl : TA}
instance : Step (tCallS sp E tl σ H Q) (tl σ H fun vs H1 => sp vs H1 Q (E σ)) := ⟨fun q => q⟩
end
/-! a def called within an except suite with the caught exception among its arguments -/
open L2H
structure FnS (P : Program) (w : World) (K : PySem.W.Frag) (mg : Str → Option Value) (base : Heap) (CX : CXT) (k : Nat) (f : Addr) (fd : FuncData) (ps : List Str) (sp : Addr → Value → Option Addr → Sp) : Prop where
  len : ∀ a c d vs H Q E, sp a c d vs H Q E → vs.length = ps.length
  run : ∀ (A : Around) (outer : List Env) (s : Shared) (H : Hp) (args : Args) (us : List Value) (vs : List V) (Q : VK) (E : XK) (a : Addr) (oe : Obj) (c : Value) (d : Option Addr), RoomH k A → PinOk outer H s (a, oe) → Zc c d oe → (∃ fv, oe.data = .fields fv) → Env0 P w K mg base A outer s H → BindsTo s fd args (ps.zip us) → Vals vs us → sp a c d vs H Q E →
    codeAny (model P w) A (.call (.ref f) args) (CR CX outer P w H s Q E) s
theorem fn_ofS {CX : CXT} {P : Program} {w : World} {K : PySem.W.Frag} {mg : Str → Option Value} {base : Heap} {k : Nat} {f : Addr} {name qual : Str} {params : Arguments} {body : List Stmt} {scope : Scope} {dV kV doc pm cdv ct oc : Value} {an od : Option Addr}
    {osl : Array (Option Value)} {N ps : List Str} {sp : Addr → Value → Option Addr → Sp} (lk : K.lookup f = some ⟨oc, od, .func (PySem.W.fnOf name qual params body scope dV kV doc pm an cdv ct), osl⟩) (hcd : PySem.W.codeIn K cdv qual = true) (S : FnScope N ps scope)
    (len : ∀ a c d vs H Q E, sp a c d vs H Q E → vs.length = ps.length)
    (hbody : ∀ (A : Around) (outer : List Env) (s : Shared) (H : Hp) (vs : List V) (Q : VK) (E : XK) (a : Addr) (oe : Obj) (c : Value) (d : Option Addr), RoomH k (A.deeper (envOfC qual scope s.heap.objs.size f cdv)) → Zc c d oe → (∃ fv, oe.data = .fields fv) → sp a c d vs H Q E →
      ∃ t, PSs (cxH CX P w K mg base N qual scope f cdv A outer s H E (a, oe)) body t ∧ t { nx := fun _ H' => Q .non H', rt := Q } (L2.start N vs) H) :
    FnS P w K mg base CX (k + 1) f (PySem.W.fnOf name qual params body scope dV kV doc pm an cdv ct) ps sp := by
  refine ⟨len, fun A outer s H args us vs Q E a oe c d hr hpin hz hf e0 hb r hsp => ?_⟩
  have hl := len _ _ _ _ _ _ _ hsp
  have KX : K.In s.heap := e0.mod.kin.keeps fun b o e => (e0.bs b o e).1
  have lim : s.heap.NoLimit := e0.mod.nolimit.keeps fun b o e => (e0.bs b o e).1
  have hkind : ∀ y ∈ ps.zip us, scope.names.lookup y.1 = some .local ∨ (scope.names.lookup y.1 = some .cell ∧ ((cellsFrom (s.heap.objs.size + 1) scope.names []).lookup y.1).isSome = true) := fun ⟨n, v⟩ hy => by
    rcases S.par n (List.of_mem_zip hy).1 with q | q
    · exact .inl q
    · exact .inr ⟨q, PySem.W.cellsFrom_some _ _ _ (.inl q)⟩
  refine codeAny_call_function hr.depth (KX _ _ lk) rfl S.co S.gen rfl (PySem.W.codeRec_of KX hcd) (hb _ _ _ _ ?_)
  refine wpAny_newFunctionEnv_cells S.kind hkind fun env he s1 x => ?_
  subst he
  refine ⟨lim.keeps x.toInCall.keep, codeAny_func ?_⟩
  obtain ⟨t, ht, hq⟩ := hbody A outer s H vs Q E a oe c d (hr.deeper _) hz hf hsp
  have I : Inv (cxH CX P w K mg base N qual scope f cdv A outer s H E (a, oe)) [] (L2.start N vs) H s1 := inv_startH S hpin e0 hl r x
  refine wpAny_mono (ht.run [] s1 (L2.start N vs) H _ I hq) (fun fl s' hs => ?_) fun e s' hs => hs
  have fin : ∀ {σ' : L2.St} {H' : Hp} {v : V} {u : Value}, Inv (cxH CX P w K mg base N qual scope f cdv A outer s H E (a, oe)) [] σ' H' s' → RelV v u → Q v H' → CE outer P w H s Q u s' :=
    fun {σ' H' v u} J rv q => ⟨v, H', J.os, J.bare, J.base, J.hok, rv, q⟩
  cases fl with
  | ret u =>
    obtain ⟨v, σ', H', J, rv, q⟩ := hs
    exact fin J rv q
  | next =>
    obtain ⟨σ', H', J, q⟩ := hs
    exact fin (v := V.non) (u := Value.none) J rfl q
  | brk =>
    obtain ⟨_, _, _, q⟩ := hs
    exact False.elim q
  | cont =>
    obtain ⟨_, _, _, q⟩ := hs
    exact False.elim q
structure ClS (P : Program) (w : World) (K : PySem.W.Frag) (mg : Str → Option Value) (base : Heap) (k : Nat) (x : Str) (ps : List Str) (sp : Addr → Value → Option Addr → Sp) : Prop where
  ex : ∃ (f : Addr) (fd : FuncData), mg x = some (.ref f) ∧ PySem.W.keepIn K (.ref f) = true ∧ (∀ us : List Value, us.length = ps.length → bindArgs fd ⟨us, []⟩ = pure (ps.zip us)) ∧ FnS P w K mg base CX0 k f fd ps sp
theorem pe_clS {X : Cx} {x : Str} {q pos : Pos} {e : Expr} {es : List Expr} {t : TA} {k : Nat} {ps : List Str} {sp : Addr → Value → Option Addr → Sp} {a : Addr} {oe : Obj} {c : Value} {d : Option Addr} (C : ClS X.prog X.w X.K X.mg X.base k x ps sp) (hr : RoomH k X.A) (hp : (a, oe) ∈ X.pn) (hz : Zc c d oe) (hf : ∃ fv, oe.data = .fields fv) (ha : PA X (e :: es) t) (hg : Gl X x := by rfl) (hdb : (x == ("__debug__" : Str)) = false := by decide)
    (he : starEach (e :: es) X.env = (false, eval e X.env) :: starEach es X.env := by rfl) (hpl : (backTo pos (starEach es X.env)).any (·.1) = false := by rfl) :
    PE X (.Call (.Name x q) (e :: es) [] pos) (tCall (sp a c d) [] E0 t) := by
  obtain ⟨f, fd, hm, hk, hb, F⟩ := C.ex
  refine ⟨fun pins s σ H Q I h => ?_⟩
  refine wpAny_Call_Name_kw (ld_glob I hg hm ?_ hdb)
  refine PySem.W.callWith_K (h₀ := X.base) I.ok.mod.kin hk (thn (ha.run pos pins s σ H _ I h) fun us s1 ⟨vs, H1, I1, r, hq⟩ => ⟨I1.kIn, ?_⟩) he hpl
  have hq : sp a c d (vs ++ []) H1 Q E0 := hq
  rw [List.append_nil] at hq
  have hl : us.length = ps.length := by rw [← r.length]; exact F.len _ _ _ _ _ _ _ hq
  have P1 := I1.pin (a, oe) (List.mem_append_left _ hp)
  have hpin : PinOk X.stack H1 s1 (a, oe) := ⟨P1.1, P1.2.1, fun hm => (List.mem_cons.mp (I1.stkSub a hm)).elim P1.2.2.1 P1.2.2.2.1, P1.2.2.2.2⟩
  show wpAny _ _ (call (.ref f) us) _ _ _
  refine wpAny_call (codeAny_mono (F.run X.A X.stack s1 H1 ⟨us, []⟩ us vs Q E0 a oe c d hr hpin hz hf I1.env0 (.of_eq (hb us hl)) r hq) fun r s' hq => ?_)
  cases r with
  | error e => exact (pass0 : Passes CX0 X E0) pins σ H1 s1 e s' I1 hq
  | ok fl =>
    cases fl with
    | ret u => exact I1.after hq
    | next => exact False.elim hq
    | brk => exact False.elim hq
    | cont => exact False.elim hq
/-! what is asked of a caught exception (at a, its class c, its dict d) -/
def rIsS (K : PySem.W.Frag) (a : Addr) (c : Value) (d : Option Addr) : List V → Hp → VK → Prop := fun xs H Q => ∃ (D dd : Addr) (fs : List (Str × V)) (t : V) (tv : Value) (b : Bool), xs = [.ref a, t] ∧ c = .ref D ∧ d = some dd ∧ ExcC K D ∧ (∀ u, RelV t u → u = tv) ∧ PySem.W.kitOne K (.ref D) tv = some b ∧ H dd = some (.xd fs) ∧ Q (.bl b) H
theorem call_isS {X : Cx} {a : Addr} {oe : Obj} {c : Value} {d : Option Addr} (hp : (a, oe) ∈ X.pn) (hz : Zc c d oe) (hf : ∃ vs, oe.data = .fields vs) : CallR X (.builtin "isinstance") (rIsS X.K a c d) := by
  intro pins s σ H xs us Q I r h
  obtain ⟨D, dd, fs, c', cv, b, rfl, rfl, rfl, C, hcv, e, hx, q⟩ := h
  cases r with
  | cons rx rr =>
    cases rr with
    | cons rt rr =>
      cases rr
      cases rx
      have ec := hcv _ rt
      subst ec
      obtain ⟨hget, _⟩ := I.pin (a, oe) (List.mem_append.mpr (.inl hp))
      obtain ⟨vs, hv⟩ := hf
      have hx : ObjOk X.prog X.w H s.heap dd (.xd fs) := I.hok dd _ hx
      obtain ⟨mA, hns, hr⟩ := hx
      obtain ⟨od, ho, hl⟩ := lookIn_ns hns
      have J : PySem.W.InstAt s.heap a oe D (some od) := ⟨hget, hz.1, by unfold PySem.W.notCls; rw [hv] <;> rfl, by rw [hz.2]; exact ho⟩
      obtain ⟨cd0, hc0, _⟩ := PySem.W.any_some C.hd
      exact PySem.W.kia_one (PySem.W.kitx_exc (od := some od) (by rw [hc0]; rfl) C.hg C.hk C.hs C.ha C.hn C.ht C.hm) I.kIn J e (fun z => nomatch z) fun tk => ⟨.bl b, H, I.kept (t' := tk) fun _ _ z => z, rfl, q⟩
/-- e.n, e the caught exception -/
def tXs (K : PySem.W.Frag) (a : Addr) (c : Value) (d : Option Addr) (n : Str) (te : TE) : TE := fun σ H Q => te σ H fun x H1 => x = .ref a ∧ ∃ (C dd : Addr) (fs : List (Str × V)) (v : V), c = .ref C ∧ d = some dd ∧ XfC K C ∧ PySem.W.findIn K (.ref C) n = some none ∧ H1 dd = some (.xd fs) ∧ fs.lookup n = some v ∧ Q v H1
theorem pe_xs {X : Cx} {a : Addr} {oe : Obj} {c : Value} {d : Option Addr} {e : Expr} {te : TE} {pos : Pos} {n : Str} (hp : (a, oe) ∈ X.pn) (hz : Zc c d oe) (hf : ∃ vs, oe.data = .fields vs) (he : PE X e te) (hb : attributeBase e n X.env (eval e X.env) = eval e X.env := by rfl) :
    PE X (.Attribute e n pos) (tXs X.K a c d n te) := by
  refine ⟨fun pins s σ H Q I h => ?_⟩
  refine attr_of hb (thn (he.run pins s σ H _ I h) fun u s1 hh => ?_)
  obtain ⟨x, H1, I1, rx, ex, C, dd, fs, v, ec, ed, T, hno, ea, l, q⟩ := hh
  subst ex
  obtain rfl : u = Value.ref a := rx
  subst ec
  subst ed
  obtain ⟨ha, _⟩ := I1.pin (a, oe) (List.mem_append_left _ hp)
  obtain ⟨vs, hd⟩ := hf
  have hx : ObjOk X.prog X.w H1 s1.heap dd (.xd fs) := I1.hok dd _ ea
  obtain ⟨mA, hns, hr⟩ := hx
  obtain ⟨od, ho, hl⟩ := lookIn_ns hns
  obtain ⟨u, hu, ru⟩ := RelO.some_of (v := v) (o := mA n) (by rw [← l]; exact hr n)
  have J : PySem.W.InstAt s1.heap a oe C (some od) := ⟨ha, hz.1, by unfold PySem.W.notCls; rw [hd] <;> rfl, by rw [hz.2]; exact ho⟩
  exact HandSPX.exc_get I1.kIn J T.ga T.gg T.exC (PySem.W.findObj_own T.hdC hno rfl (by rw [hl, hu])) (handed_of ru) ⟨v, H1, I1.tok _, ru, q⟩
theorem call_isSK {X : Cx} {K : PySem.W.Frag} (h : X.K = K) {a : Addr} {oe : Obj} {c : Value} {d : Option Addr} (hp : (a, oe) ∈ X.pn) (hz : Zc c d oe) (hf : ∃ vs, oe.data = .fields vs) : CallR X (.builtin "isinstance") (rIsS K a c d) := h ▸ call_isS hp hz hf
theorem pe_xsK {X : Cx} {K : PySem.W.Frag} (h : X.K = K) {a : Addr} {oe : Obj} {c : Value} {d : Option Addr} {e : Expr} {te : TE} {pos : Pos} {n : Str} (hp : (a, oe) ∈ X.pn) (hz : Zc c d oe) (hf : ∃ vs, oe.data = .fields vs) (he : PE X e te) (hb : attributeBase e n X.env (eval e X.env) = eval e X.env := by rfl) :
    PE X (.Attribute e n pos) (tXs K a c d n te) := h ▸ pe_xs hp hz hf he hb
/-! the body of such an __init__ -/
def Shorty (t : TE) (σ : L2.St) (H : Hp) : Prop := ∀ Q' : VK, (∀ y : Str, y.length ≤ 2000 → Q' (.str y) H) → t σ H Q'
theorem shorty_c {z : Str} {σ : L2.St} {H : Hp} (h : z.length ≤ 2000) : Shorty (tC (.str z)) σ H := fun Q' q => q z h
theorem shorty_f {i : Nat} {v : V} {σ : L2.St} {H : Hp} (hs : σ[i]? = some (some v)) (hv : FmtV v) : Shorty (tFmt (tVar i)) σ H := fun Q' q => by
  refine ⟨v, hs, ?_⟩
  rcases hv with ⟨y, rfl, hy⟩ | ⟨i, rfl, h1, h2⟩
  · exact .inl ⟨y, rfl, by rw [sizeLine_eq]; omega, q y (by omega)⟩
  · have h3 : i.natAbs.log2 < 1920 := Nat.lt_of_lt_of_le (PySem.Flt.log2_lt_of (k := 200) (by decide) (by omega)) (by decide)
    exact .inr ⟨i, rfl, h3, q _ (Nat.le_trans (PyProof.Rows.int_text_len_1921 h3) (by decide))⟩
theorem str_app_len (a b : Str) : (a ++ b).length = a.length + b.length := by
  show (a.cps ++ b.cps).size = _
  rw [Array.size_append]
  rfl
theorem js_any {σ : L2.St} {H : Hp} {Q : Str → Hp → Prop} (q : ∀ out, Q out H) : ∀ (ts : List TE) (acc : Str), (∀ t ∈ ts, Shorty t σ H) → acc.length + 2000 * ts.length ≤ 1000000 → tJs ts acc σ H Q
  | [], acc, _, _ => q acc
  | t :: ts, acc, h, hz => by
    simp only [List.length_cons] at hz
    exact h t (List.mem_cons_self ..) _ fun y hy => ⟨y, rfl, by rw [str_app_len, sizeLine_eq]; omega, js_any q ts (acc ++ y) (fun u hu => h u (List.mem_cons_of_mem _ hu)) (by rw [str_app_len]; omega)⟩
theorem g_ost {K : PySem.W.Frag} {C a : Addr} {n : Str} {v : V} {D : Ends} {σ : L2.St} {H : Hp} (ha : H a = some (exo a C none)) (T : OexC K C) (hn : PySem.W.findIn K (.ref C) n = some none) (h0 : σ[0]? = some (some (.ref a))) (h1 : σ[1]? = some (some v))
    (q : ∀ d H', H d = none → d ≠ a → (∀ b o, b ≠ a → H b = some o → H' b = some o) → (∀ b, H' b = none → H b = none) → H' a = some (exo a C (some d)) → H' d = some (exd d [(n, v)]) → D.nx σ H') : tOst K n (tVar 0) (tVar 1) D σ H := by
  refine ⟨v, h1, .ref a, h0, a, C, rfl, T, hn, .inl ⟨ha, fun dx hd hda => q dx _ hd hda (fun b o hb ho => ?_) (fun b hb => ?_) upd_same ?_⟩⟩
  · rw [upd_ne hb, upd_ne (ne_of_none ho hd)]
    exact ho
  · by_cases z : b = a
    · rw [z, upd_same] at hb; cases hb
    · rw [upd_ne z] at hb
      by_cases y : b = dx
      · rw [y]; exact hd
      · rw [upd_ne y] at hb; exact hb
  · rw [upd_ne hda, upd_same]
/-! defs with defaults, in any mode -/
section
variable {X : Cx} {CX : CXT} {k n : Nat} {f : Addr} {fd : FuncData} {ps ks : List Str} {sp : Sp} {E : L2.St → XK} {x : Str} {p pos : Pos} {e : Expr} {es : List Expr} {kws : List Keyword} {t tk : TA} {g : List Value → List Value → List Value} {gV : List V → List V → List V} {ds : List Value} {dvs : List V}
def tCallSD (sp : Sp) (dvs : List V) (E : L2.St → XK) (t : TA) : TE := fun σ H Q => t σ H fun vs H1 => sp (vs ++ dvs) H1 Q (E σ)
def tCallNS (n m : Nat) (sp : Sp) (gV : List V → List V → List V) (E : L2.St → XK) (t tk : TA) : TE := fun σ H Q => t σ H fun vs H1 => tk σ H1 fun zs H2 => vs.length = n ∧ zs.length = m ∧ sp (gV vs zs) H2 Q (E σ)
theorem run_fnSD {pins : List (Addr × Obj)} {σ : L2.St} {H : Hp} {s : Shared} {Q : VK} {us : List Value} {vs : List V} (F : FnOk X.prog X.w X.K X.mg X.base CX k f fd ps sp) (hr : Room k X.A) (hb : Binds X.K fd ps ds) (hd : Vals dvs ds) (hx : PassesAt CX X σ (E σ))
    (I : Inv X pins σ H s) (r : Vals vs us) (h : sp (vs ++ dvs) H Q (E σ)) : wpAny (model X.prog X.w) X.A (call (.ref f) us) (EP X pins σ Q) X.xe s := by
  have r2 := r.append hd
  have hl : (us ++ ds).length = ps.length := by rw [← r2.length]; exact F.len _ _ _ _ h
  refine wpAny_call (codeAny_mono (F.run X.A X.stack s H ⟨us, []⟩ (us ++ ds) (vs ++ dvs) Q (E σ) hr I.env0 (hb s us I.kIn hl) r2 h) fun r s' hq => ?_)
  cases r with
  | error e => exact hx pins H s e s' I hq
  | ok fl =>
    cases fl with
    | ret u => exact I.after hq
    | next => exact False.elim hq
    | brk => exact False.elim hq
    | cont => exact False.elim hq
theorem pe_callSD (F : FnOk X.prog X.w X.K X.mg X.base CX k f fd ps sp) (hr : Room k X.A) (hg : Gl X x) (hm : X.mg x = some (.ref f)) (hk : PySem.W.keepIn X.K (.ref f) = true) (hb : Binds X.K fd ps ds) (hd : Vals dvs ds) (hx : ∀ σ, PassesAt CX X σ (E σ))
    (ha : PA X (e :: es) t) (hdb : (x == ("__debug__" : Str)) = false := by decide) (he : starEach (e :: es) X.env = (false, eval e X.env) :: starEach es X.env := by rfl) (hpl : (backTo pos (starEach es X.env)).any (·.1) = false := by rfl) :
    PE X (.Call (.Name x p) (e :: es) [] pos) (tCallSD sp dvs E t) := by
  refine ⟨fun pins s σ H Q I h => ?_⟩
  refine wpAny_Call_Name_kw (ld_glob I hg hm ?_ hdb)
  refine PySem.W.callWith_K (h₀ := X.base) I.ok.mod.kin hk (thn (ha.run pos pins s σ H _ I h) fun us s1 ⟨vs, H1, I1, r, q⟩ => ⟨I1.kIn, ?_⟩) he hpl
  exact run_fnSD F hr hb hd (hx σ) I1 r q
theorem run_fnNS {pins : List (Addr × Obj)} {σ : L2.St} {H : Hp} {s : Shared} {Q : VK} {us ws : List Value} {vs zs : List V} (F : FnOk X.prog X.w X.K X.mg X.base CX k f fd ps sp) (hr : Room k X.A) (hb : KBn X.K fd ps n ks g gV) (hx : PassesAt CX X σ (E σ))
    (I : Inv X pins σ H s) (r : Vals vs us) (rz : Vals zs ws) (l1 : vs.length = n) (l2 : zs.length = ks.length) (h : sp (gV vs zs) H Q (E σ)) : wpAny (model X.prog X.w) X.A (call (.ref f) us (ks.zip ws)) (EP X pins σ Q) X.xe s := by
  have r2 := hb.rel r rz
  refine wpAny_call (codeAny_mono (F.run X.A X.stack s H ⟨us, ks.zip ws⟩ (g us ws) (gV vs zs) Q (E σ) hr I.env0 (hb.to s us ws I.kIn (r.length.symm.trans l1) (rz.length.symm.trans l2)) r2 h) fun r s' hq => ?_)
  cases r with
  | error e => exact hx pins H s e s' I hq
  | ok fl =>
    cases fl with
    | ret u => exact I.after hq
    | next => exact False.elim hq
    | brk => exact False.elim hq
    | cont => exact False.elim hq
theorem pe_callNS (F : FnOk X.prog X.w X.K X.mg X.base CX k f fd ps sp) (hr : Room k X.A) (hg : Gl X x) (hm : X.mg x = some (.ref f)) (hk : PySem.W.keepIn X.K (.ref f) = true) (hb : KBn X.K fd ps n ks g gV) (hx : ∀ σ, PassesAt CX X σ (E σ))
    (ha : PA X (e :: es) t) (hkw : PK X kws tk) (hall : (backToKw pos (keywordEach kws X.env)).all (·.1.isSome) = true := by rfl) (hks : (backToKw pos (keywordEach kws X.env)).filterMap (·.1) = ks := by rfl)
    (hdb : (x == ("__debug__" : Str)) = false := by decide) (he : starEach (e :: es) X.env = (false, eval e X.env) :: starEach es X.env := by rfl)
    (hpl : ((backTo pos (starEach (e :: es) X.env)).any (·.1) || (backToKw pos (keywordEach kws X.env)).any (·.1.isNone)) = false := by rfl) :
    PE X (.Call (.Name x p) (e :: es) kws pos) (tCallNS n ks.length sp gV E t tk) := by
  refine ⟨fun pins s σ H Q I h => ?_⟩
  refine wpAny_Call_Name_kw (ld_glob I hg hm ?_ hdb)
  refine PySem.W.callWith_KW (h₀ := X.base) I.ok.mod.kin hk hall (thn (ha.run pos pins s σ H _ I h) fun us s1 ⟨vs, H1, I1, r, q⟩ => ?_) hpl he
  refine thn (hkw.run pos pins s1 σ H1 _ I1 q) fun ws s2 ⟨zs, H2, I2, rz, l1, l2, q2⟩ => ⟨I2.kIn, ?_⟩
  rw [hks]
  exact run_fnNS F hr hb (hx σ) I2 r rz l1 l2 q2
variable {σ : L2.St} {H : Hp} {Q : VK}
instance : Step (tCallSD sp dvs E t σ H Q) (t σ H fun vs H1 => sp (vs ++ dvs) H1 Q (E σ)) := ⟨fun q => q⟩
instance {m : Nat} : Step (tCallNS n m sp gV E t tk σ H Q) (t σ H fun vs H1 => tk σ H1 fun zs H2 => vs.length = n ∧ zs.length = m ∧ sp (gV vs zs) H2 Q (E σ)) := ⟨fun q => q⟩
end
/-- the def x as the top left it, with its defaults -/
structure DfG (K : PySem.W.Frag) (mg : Str → Option Value) (x : Str) (st : Stmt) (dvs : List V) (kws : List (Str × V)) : Prop where
  ex : ∃ (f : Addr) (fd : FuncData), mg x = some (.ref f) ∧ FunD K x x (defArgs st) (defBody st) (defScope st) dvs kws f fd
/-- .. may be called (CX: what it may let out) -/
structure ClG (CX : CXT) (P : Program) (w : World) (K : PySem.W.Frag) (mg : Str → Option Value) (base : Heap) (k : Nat) (x : Str) (st : Stmt) (ps : List Str) (dvs : List V) (kws : List (Str × V)) (sp : Sp) : Prop where
  ex : ∃ (f : Addr) (fd : FuncData), mg x = some (.ref f) ∧ FunD K x x (defArgs st) (defBody st) (defScope st) dvs kws f fd ∧ FnOk P w K mg base CX k f fd ps sp
theorem DfG.ok {P : Program} {w : World} {K : PySem.W.Frag} {mg : Str → Option Value} {base : Heap} {CX : CXT} {x : Str} {st : Stmt} {N ps : List Str} {dvs : List V} {kws : List (Str × V)} {k : Nat} {sp : Sp} (D : DfG K mg x st dvs kws) (S : FnScope N ps (defScope st)) (len : ∀ vs H Q E, sp vs H Q E → vs.length = ps.length)
    (hbody : ∀ (f : Addr) (cdv : Value) (A : Around) (outer : List Env) (s : Shared) (H : Hp) (vs : List V) (Q : VK) (E : XK), Room k (A.deeper (envOfC x (defScope st) s.heap.objs.size f cdv)) → sp vs H Q E →
      ∃ t, PSs (cxOf CX P w K mg base N x (defScope st) f cdv A outer s H E) (defBody st) t ∧ t { nx := fun _ H' => Q .non H', rt := Q } (start N vs) H) : ClG CX P w K mg base (k + 1) x st ps dvs kws sp := by
  obtain ⟨f, fd, h1, h2⟩ := D.ex
  exact ⟨f, fd, h1, h2, h2.ok S len fun cdv A outer s H vs Q E hr h => hbody f cdv A outer s H vs Q E hr h⟩
theorem passC {X : Cx} {W : WX} (tk : Takes X W) (σ : L2.St) : PassesAt (L2.CX X.prog X.w) X σ (WE W σ) := passAt tk σ
section
variable {X : Cx} {CX : CXT} {k n : Nat} {ps ks : List Str} {sp : Sp} {E : L2.St → XK} {x : Str} {p pos : Pos} {e : Expr} {es : List Expr} {kw : List Keyword} {t tk : TA} {st : Stmt} {dvs : List V} {kws : List (Str × V)}
/-- every parameter given by place -/
theorem pe_g (C : ClG CX X.prog X.w X.K X.mg X.base k x st ps [] kws sp) (hr : Room k X.A) (hx : ∀ σ, PassesAt CX X σ (E σ))
    (h : ∀ (kV doc pm : Value) (an : Option Addr) (cdv ct : Value) (us : List Value), us.length = ps.length → bindArgs (PySem.W.fnOf x x (defArgs st) (defBody st) (defScope st) .none kV doc pm an cdv ct) ⟨us, []⟩ = pure (ps.zip us))
    (ha : PA X (e :: es) t) (hg : Gl X x := by rfl) (hdb : (x == ("__debug__" : Str)) = false := by decide)
    (he : starEach (e :: es) X.env = (false, eval e X.env) :: starEach es X.env := by rfl) (hpl : (backTo pos (starEach es X.env)).any (·.1) = false := by rfl) :
    PE X (.Call (.Name x p) (e :: es) [] pos) (tCallSD sp [] E t) := by
  obtain ⟨f, fd, h1, h2, h4⟩ := C.ex
  exact pe_callSD h4 hr hg h1 h2.kp (h2.bindsN h) .nil hx ha hdb he hpl
/-- the keyword-only ones lack -/
theorem pe_g0 (C : ClG CX X.prog X.w X.K X.mg X.base k x st ps [] kws sp) (hr : Room k X.A) (hx : ∀ σ, PassesAt CX X σ (E σ)) (n : Nat) (hk : kws ≠ []) (hn : n + kws.length = ps.length)
    (h : ∀ (D : Addr) (doc pm : Value) (an : Option Addr) (cdv ct : Value) (us ks : List Value), us.length = n → ks.length = kws.length →
      KwChain D ((kws.map (·.1)).zip ks) (bindArgs (PySem.W.fnOf x x (defArgs st) (defBody st) (defScope st) .none (.ref D) doc pm an cdv ct) ⟨us, []⟩) (ps.zip (us ++ ks)))
    (ha : PA X (e :: es) t) (hg : Gl X x := by rfl) (hdb : (x == ("__debug__" : Str)) = false := by decide)
    (he : starEach (e :: es) X.env = (false, eval e X.env) :: starEach es X.env := by rfl) (hpl : (backTo pos (starEach es X.env)).any (·.1) = false := by rfl) :
    PE X (.Call (.Name x p) (e :: es) [] pos) (tCallSD sp (kws.map (·.2)) E t) := by
  obtain ⟨f, fd, h1, h2, h4⟩ := C.ex
  obtain ⟨ds, r, b⟩ := h2.binds0 n hk hn h
  exact pe_callSD h4 hr hg h1 h2.kp b r hx ha hdb he hpl
/-- the last ones lack (places with defaults; no keyword-only parameters) -/
theorem pe_g1 (C : ClG CX X.prog X.w X.K X.mg X.base k x st ps dvs kws sp) (hr : Room k X.A) (hx : ∀ σ, PassesAt CX X σ (E σ)) (n j : Nat) (hd : dvs ≠ []) (hn : n + (dvs.length - j) = ps.length)
    (h : ∀ (T : Addr) (kV doc pm : Value) (an : Option Addr) (cdv ct : Value) (us its : List Value), us.length = n → its.length = dvs.length →
      ∃ k, bindArgs (PySem.W.fnOf x x (defArgs st) (defBody st) (defScope st) (.ref T) kV doc pm an cdv ct) ⟨us, []⟩ = seqItems? (.ref T) >>= k ∧ k (some its.toArray) = pure (ps.zip (us ++ its.drop j)))
    (ha : PA X (e :: es) t) (hg : Gl X x := by rfl) (hdb : (x == ("__debug__" : Str)) = false := by decide)
    (he : starEach (e :: es) X.env = (false, eval e X.env) :: starEach es X.env := by rfl) (hpl : (backTo pos (starEach es X.env)).any (·.1) = false := by rfl) :
    PE X (.Call (.Name x p) (e :: es) [] pos) (tCallSD sp (dvs.drop j) E t) := by
  obtain ⟨f, fd, h1, h2, h4⟩ := C.ex
  obtain ⟨ds, r, b⟩ := h2.binds1 n j hd hn h
  exact pe_callSD h4 hr hg h1 h2.kp b r hx ha hdb he hpl
theorem pe_gk (C : ClG CX X.prog X.w X.K X.mg X.base k x st ps [] kws sp) (hr : Room k X.A) (hx : ∀ σ, PassesAt CX X σ (E σ)) (n : Nat) (ks : List Str) (ms : List (Str × V)) (g : {α : Type} → List α → List α → List α → List α) (hk : kws ≠ []) (hms : ∀ q ∈ ms, q ∈ kws)
    (hrel : ∀ {vs mz zs : List V} {us mv ws : List Value}, Vals vs us → Vals mz mv → Vals zs ws → Vals (g vs mz zs) (g us mv ws))
    (h : ∀ (D : Addr) (doc pm : Value) (an : Option Addr) (cdv ct : Value) (us mv ws : List Value), us.length = n → mv.length = ms.length → ws.length = ks.length →
      KwChain D ((ms.map (·.1)).zip mv) (bindArgs (PySem.W.fnOf x x (defArgs st) (defBody st) (defScope st) .none (.ref D) doc pm an cdv ct) ⟨us, ks.zip ws⟩) (ps.zip (g us mv ws)))
    (ha : PA X (e :: es) t) (hkw : PK X kw tk) (hg : Gl X x := by rfl) (hall : (backToKw pos (keywordEach kw X.env)).all (·.1.isSome) = true := by rfl) (hks : (backToKw pos (keywordEach kw X.env)).filterMap (·.1) = ks := by rfl)
    (hdb : (x == ("__debug__" : Str)) = false := by decide) (he : starEach (e :: es) X.env = (false, eval e X.env) :: starEach es X.env := by rfl)
    (hpl : ((backTo pos (starEach (e :: es) X.env)).any (·.1) || (backToKw pos (keywordEach kw X.env)).any (·.1.isNone)) = false := by rfl) :
    PE X (.Call (.Name x p) (e :: es) kw pos) (tCallNS n ks.length sp (fun vs zs => g vs (ms.map (·.2)) zs) E t tk) := by
  obtain ⟨f, fd, h1, h2, h4⟩ := C.ex
  obtain ⟨mv, b⟩ := h2.kbinds0 n ks ms g hk hms hrel h
  exact pe_callNS h4 hr hg h1 h2.kp b hx ha hkw hall hks hdb he hpl
end
theorem passC0 {X : Cx} (σ : L2.St) : PassesAt CX0 X σ E0 := fun _ _ _ _ _ _ h => h.elim
theorem DfG.okP {P : Program} {w : World} {K : PySem.W.Frag} {mg : Str → Option Value} {base : Heap} {x : Str} {st : Stmt} {N ps : List Str} {dvs : List V} {kws : List (Str × V)} {k : Nat} {sp : Sp} (D : DfG K mg x st dvs kws) (S : FnScope N ps (defScope st)) (len : ∀ vs H Q E, sp vs H Q E → vs.length = ps.length)
    (hbody : ∀ (f : Addr) (cdv : Value) (A : Around) (outer : List Env) (s : Shared) (H : Hp) (vs : List V) (Q : VK) (E : XK), Room k (A.deeper (envOfC x (defScope st) s.heap.objs.size f cdv)) → sp vs H Q E →
      ∃ t, PSs (cxOf CX0 P w K mg base N x (defScope st) f cdv A outer s H E).nox (defBody st) t ∧ t { nx := fun _ H' => Q .non H', rt := Q } (start N vs) H) : ClG CX0 P w K mg base (k + 1) x st ps dvs kws sp :=
  D.ok S len fun f cdv A outer s H vs Q E hr h => by
    obtain ⟨t, a, b⟩ := hbody f cdv A outer s H vs Q E hr h
    exact ⟨t, a.nox, b⟩
theorem DfG.okS {P : Program} {w : World} {K : PySem.W.Frag} {mg : Str → Option Value} {base : Heap} {x : Str} {st : Stmt} {N ps : List Str} {k : Nat} {sp : Addr → Value → Option Addr → Sp} (D : DfG K mg x st [] []) (S : FnScope N ps (defScope st)) (len : ∀ a c d vs H Q E, sp a c d vs H Q E → vs.length = ps.length)
    (hb : ∀ (kV doc pm : Value) (an : Option Addr) (cdv ct : Value) (us : List Value), us.length = ps.length → bindArgs (PySem.W.fnOf x x (defArgs st) (defBody st) (defScope st) .none kV doc pm an cdv ct) ⟨us, []⟩ = pure (ps.zip us))
    (hbody : ∀ (f : Addr) (cdv : Value) (A : Around) (outer : List Env) (s : Shared) (H : Hp) (vs : List V) (Q : VK) (E : XK) (a : Addr) (oe : Obj) (c : Value) (d : Option Addr), RoomH k (A.deeper (envOfC x (defScope st) s.heap.objs.size f cdv)) → Zc c d oe → (∃ fv, oe.data = .fields fv) → sp a c d vs H Q E →
      ∃ t, PSs (cxH CX0 P w K mg base N x (defScope st) f cdv A outer s H E (a, oe)) (defBody st) t ∧ t { nx := fun _ H' => Q .non H', rt := Q } (start N vs) H) : ClS P w K mg base (k + 1) x ps sp := by
  obtain ⟨f, fd, h1, h2⟩ := D.ex
  obtain ⟨oc, od, dV, kV, doc, pm, an, cdv, ct, osl, rfl, lk, hcd, hD, _⟩ := h2.ex
  have hd : dV = .none := by
    rcases hD with ⟨_, e⟩ | ⟨e, _⟩
    · exact e
    · exact absurd rfl e
  subst hd
  exact ⟨f, _, h1, h2.kp, hb kV doc pm an cdv ct, fn_ofS lk hcd S len fun A outer s H vs Q E a oe c d hr hz hf h => hbody f cdv A outer s H vs Q E a oe c d hr hz hf h⟩
theorem ex_nox {X : Cx} {body : List Stmt} {R : TS → Prop} (h : ∃ t, PSs X.nox body t ∧ R t) : ∃ t, PSs X body t ∧ R t := by
  obtain ⟨t, a, b⟩ := h
  exact ⟨t, a.nox, b⟩
theorem hu64H {k : Nat} {A : Around} (hr : RoomH k A) : A.units + 64 < cLine := by
  have := hr.un
  omega
theorem dfg_mk {K : PySem.W.Frag} {mg : Str → Option Value} {h : Heap} {x : Str} {st : Stmt} {f : Addr} {oc dV kV : Value} {od an : Option Addr} {osl : Array (Option Value)} {doc pm cdv ct : Value} {dvs : List V} {kws : List (Str × V)} (X : K.In h) (G : h.Ns mainGlobals mg)
    (a : PySem.W.nsIn K mainGlobals x = some (some (.ref f))) (l : K.lookup f = some ⟨oc, od, .func (PySem.W.fnOf x x (defArgs st) (defBody st) (defScope st) dV kV doc pm an cdv ct), osl⟩)
    (c : PySem.W.codeIn K cdv x = true) (k : PySem.W.keepIn K (.ref f) = true) (d : DflV K dV dvs) (q : KwdV K kV kws) : DfG K mg x st dvs kws :=
  ⟨f, _, PySem.W.mg_of X G a, ⟨⟨oc, od, dV, kV, doc, pm, an, cdv, ct, osl, rfl, l, c, d, q⟩, k⟩⟩
instance {C : Addr} {n : Str} {ta : TA} {σ : L2.St} {H : Hp} {Q : XK} : Step (tMk1 C n ta σ H Q) (ta σ H fun vs H1 => rMk1 C n vs H1 Q) := ⟨fun q => q⟩

/-! ### a try's wish, a caught exception: steps -/
section
variable {K : PySem.W.Frag} {c cls : Value} {i : Nat} {ts : Addr → Value → Option Addr → TS} {Wout : WX} {D : Ends} {d : Option Addr} {σ τ : L2.St} {H H1 : Hp} {Q : VK} {a C dd : Addr} {fs : List (Str × V)} {n : Str} {v : V} {te : TE}
def rUnset (i : Nat) (R : L2.St → Hp → Prop) (σ : L2.St) (H : Hp) : Prop := R (σ.set i none) H
instance {R : L2.St → Hp → Prop} [h : SetL σ i none τ] : Step (rUnset i R σ H) (R τ H) := ⟨fun q => by show R _ H; rw [h.eq]; exact q⟩
theorem g_wasT (hb : PySem.W.exmOne K cls c = some true) (q : ∀ a, Nw H a → gName i (.ref a) σ H fun σ' H' => ts a cls d (Ends.mk (fun σ' H' => rUnset i D.nx σ' H') D.rt (fun σ' H' => rUnset i D.bk σ' H') (fun σ' H' => rUnset i D.ct σ' H')) σ' H') :
    wAs K c i ts Wout D cls d σ H := ⟨true, hb, fun _ a ha => q a ⟨ha⟩, fun h => nomatch h⟩
theorem g_wasF (hb : PySem.W.exmOne K cls c = some false) (q : Wout cls d σ H) : wAs K c i ts Wout D cls d σ H := ⟨false, hb, fun h => (nomatch h), fun _ => q⟩
theorem g_wonT (hb : PySem.W.exmOne K cls c = some true) (q : ∀ a, Nw H a → ts a cls d D σ H) : wOnly K c ts Wout D cls d σ H := ⟨true, hb, fun _ a ha => q a ⟨ha⟩, fun h => nomatch h⟩
theorem g_wonF (hb : PySem.W.exmOne K cls c = some false) (q : Wout cls d σ H) : wOnly K c ts Wout D cls d σ H := ⟨false, hb, fun h => (nomatch h), fun _ => q⟩
theorem g_isS {t : V} {tv : Value} {b : Bool} [h : At H dd (.xd fs)] (xc : ExcC K C) (hv : ∀ u, RelV t u → u = tv) (kt : PySem.W.kitOne K (.ref C) tv = some b) (q : Q (.bl b) H) : rIsS K a (.ref C) (some dd) [.ref a, t] H Q :=
  ⟨C, dd, fs, t, tv, b, rfl, rfl, rfl, xc, hv, kt, h.eq, q⟩
def rXs (K : PySem.W.Frag) (a : Addr) (c : Value) (d : Option Addr) (n : Str) (x : V) (H1 : Hp) (Q : VK) : Prop := x = .ref a ∧ ∃ (C dd : Addr) (fs : List (Str × V)) (v : V), c = .ref C ∧ d = some dd ∧ XfC K C ∧ PySem.W.findIn K (.ref C) n = some none ∧ H1 dd = some (.xd fs) ∧ fs.lookup n = some v ∧ Q v H1
instance : Step (tXs K a c d n te σ H Q) (te σ H fun x H1 => rXs K a c d n x H1 Q) := ⟨fun q => q⟩
theorem g_xs [h : At H dd (.xd fs)] (T : XfC K C) (hf : PySem.W.findIn K (.ref C) n = some none) (hl : fs.lookup n = some v) (q : Q v H) : rXs K a (.ref C) (some dd) n (.ref a) H Q :=
  ⟨rfl, C, dd, fs, v, rfl, rfl, T, hf, h.eq, hl, q⟩
end
/-! ### the end: what the written part says of the classes -/
section
open PySem.W
variable {P : Program} {K : Frag} {S T : Addr} {b : Bool}
theorem kitc_of (h2 : isClsIn K T = true) (h3 : typeIn K (.ref T) = some (.type "type")) (h4 : subIn K (.ref S) (.ref T) = some b) : kitCls K (.ref S) (.ref T) = some b := by
  have h2' : (clsIn K T).isSome = true := h2
  show (if ((clsIn K T).isSome && typeIn K (.ref T) == some (.type "type")) = true then subIn K (.ref S) (.ref T) else none) = some b
  rw [h2', h3, if_pos (by decide)]
  exact h4
theorem exm_of (h1 : subIn K (.ref T) (.type "BaseException") = some true) (h2 : isClsIn K T = true) (h3 : typeIn K (.ref T) = some (.type "type")) (h4 : subIn K (.ref S) (.ref T) = some b) : exmOne K (.ref S) (.ref T) = some b := by
  unfold exmOne
  rw [h1, if_pos (by decide)]
  exact kitc_of h2 h3 h4
theorem kit_same : kitOne K (.ref S) (.ref S) = some true := by
  unfold kitOne
  rw [if_pos (by simp)]
theorem kit_ne (h : (Value.ref S == Value.ref T) = false) (h2 : isClsIn K T = true) (h3 : typeIn K (.ref T) = some (.type "type")) (h4 : subIn K (.ref S) (.ref T) = some b) : kitOne K (.ref S) (.ref T) = some b := by
  unfold kitOne
  rw [h, if_neg Bool.false_ne_true]
  exact kitc_of h2 h3 h4
theorem kit_tyB {x : String} (h1 : kitMeta x = true) (h4 : subIn K (.ref S) (.type x) = some b) : kitOne K (.ref S) (.type x) = some b := by
  unfold kitOne
  rw [if_neg (by intro h; cases (beq_iff_eq.mp h))]
  show (if kitMeta x = true then subIn K (.ref S) (.type x) else none) = some b
  rw [if_pos h1]
  exact h4
theorem exm_tyB {x : String} (h1 : kitMeta x = true) (h2 : subIn K (.type x) (.type "BaseException") = some true) (h4 : subIn K (.ref S) (.type x) = some b) : exmOne K (.ref S) (.type x) = some b := by
  unfold exmOne
  rw [h2, if_pos (by decide)]
  show (if kitMeta x = true then subIn K (.ref S) (.type x) else none) = some b
  rw [if_pos h1]
  exact h4
theorem find_mro {C : Addr} {cd : ClassData} {n : Str} (h : clsIn K C = some cd) : findIn K (.ref C) n = alongIn K n cd.mro := by
  unfold clsIn at h
  unfold findIn
  split at h
  · rename_i e
    cases h
    simp only [e]
  · cases h
theorem drop_head {v : Value} {r : List Value} : ((v :: r).dropWhile (· != v)).drop 1 = r := by
  rw [List.dropWhile_cons_of_neg]
  · rfl
  · simp
theorem sup_of {C : Addr} {cd cdS : ClassData} {n : Str} {r : Option Value} (h1 : clsIn K C = some cd) (h2 : clsIn K S = some cdS) (hm : cd.mro = .ref C :: cdS.mro) (hf : findIn K (.ref S) n = some r) : ks_superIn K C C n = some r := by
  unfold ks_superIn
  rw [h1, Option.bind_some, hm, drop_head, ← find_mro h2]
  exact hf
theorem dfl1 {A : Addr} {v : V} {u oc : Value} {od : Option Addr} {n : Nat} {sl : Array (Option Value)} (l : K.lookup A = some ⟨oc, od, .seq #[u] n, sl⟩) (r : RelV v u) : DflV K (.ref A) [v] := .inr ⟨by simp, A, _, [u], n, rfl, l, rfl, .cons r .nil⟩
theorem dfl2 {A : Addr} {v v2 : V} {u u2 oc : Value} {od : Option Addr} {n : Nat} {sl : Array (Option Value)} (l : K.lookup A = some ⟨oc, od, .seq #[u, u2] n, sl⟩) (r : RelV v u) (r2 : RelV v2 u2) : DflV K (.ref A) [v, v2] := .inr ⟨by simp, A, _, [u, u2], n, rfl, l, rfl, .cons r (.cons r2 .nil)⟩
theorem exd_mk {mg : Str → Option Value} {sx : Str} {h : Heap} {x qual : Str} {st : Stmt} {ps : List Str} {C f c cc N : Addr} {nm q n : Str} {bs bm : List Value} {sn : List Str} {sub : List Value} {ab : Bool} {col : Option Bool} {dd : Option Addr} {k0 k1 k2 k3 k5 : Option Value}
    {cd cdS : ClassData} {oc doc pm ct cl ccl : Value} {od cld cdd : Option Addr} {osl csl ccs : Array (Option Value)} {vs : Array Value} {file : Str} {tf : Tok} (X : K.In h) (G : h.Ns mainGlobals mg) (aS : nsIn K mainGlobals sx = some (some (.ref S)))
    (a : nsIn K mainGlobals x = some (some (.ref C))) (xL : K.lookup C = some (excClassObj nm q C N bs bm true sn sub ab col dd k0 k1 k2 k3 k5 "ValueError.__new__")) (hbm : PySem.HandSPX.refsVE bm = true)
    (sa : findIn K (.ref C) "__setattr__" = some (some (.builtin "object.__setattr__"))) (exC : subIn K (.ref C) (.type "BaseException") = some true) (tyC : typeIn K (.ref C) = some (.type "type")) (kC : keepIn K (.ref C) = true)
    (mro : mroIn K C (.ref C) = some true) (h1 : clsIn K C = some cd) (h2 : clsIn K S = some cdS) (hm : cd.mro = .ref C :: cdS.mro) (hf : findIn K (.ref S) "__init__" = some (some (.builtin "ValueError.__init__"))) (sub' : subIn K (.ref C) (.type "ValueError") = some true)
    (hn : ps[1]? = some n) (fl : findIn K (.ref C) n = some none) (i1 : findIn K (.ref C) "__init__" = some (some (.ref f))) (i2 : typeIn K (.ref f) = some (.type "function"))
    (lf : K.lookup f = some ⟨oc, od, .func (fnX "__init__" qual (defArgs st) (defBody st) (defScope st) [("__class__", cc)] .none .none doc pm none (.ref c) ct), osl⟩) (cf : codeIn K (.ref c) qual = true)
    (lc : K.lookup c = some ⟨ccl, cdd, .fields vs, ccs⟩) (hv : vs[2]? = some (.str file tf)) (hfile : ((P.main.file : Str) == file) = true) (lcc : K.lookup cc = some ⟨cl, cld, .cell (some (.ref C)), csl⟩)
    (ns : nsIn K mainGlobals "super" = some none) (top : (P.main.scope.names.lookup ("super" : Str)).isSome = false) (op : nsIn K cStatics "thirdparty.any" = some none) : ExD P K mg x qual st ps C :=
  ⟨mg_of X G a, ⟨⟨⟨nm, q, N, bs, bm, sn, sub, ab, col, dd, k0, k1, k2, k3, k5, xL, hbm⟩, sa, exC, tyC, kC⟩, mro, sup_of h1 h2 hm hf, sub'⟩, fun m hm => by rw [hn] at hm; cases hm; exact fl,
    f, _, i1, i2, ⟨c, cc, oc, doc, pm, ct, cl, ccl, od, cld, cdd, osl, csl, ccs, vs, file, tf, cd, rfl, lf, cf, lc, hv, hfile, lcc, h1⟩, mg_none_of X G ns, top, op⟩
end
end Gx

set_option linter.all false
set_option maxRecDepth 100000
set_option maxHeartbeats 2000000
/-! Gr: methods of an own class, Rounds, tuples. -/
namespace Gx
open PySem PySem.Spec PyProof.Rows L2 _root_.ClX StX
/-! ### sums of tuples, tuples joined, cut, asked by a place -/
section
variable {X : Cx} {K : PySem.W.Frag} {H : Hp} {Q : VK} {a b p : Addr} {xs ys : List V} {ns ms : List Int}
def rSumT (K : PySem.W.Frag) : List V → Hp → VK → Prop := fun vs H Q => ∃ (a : Addr) (ns : List Int), vs = [V.ref a] ∧ SqT K H a (ns.map V.int) ∧ Q (.int ns.sum) H
theorem cr_sumT (hc : X.calm = true) : CallR X (.builtin "sum") (rSumT X.K) := by
  intro pins s σ H vs us Q I r h
  obtain ⟨a, ns, rfl, hs, q⟩ := h
  obtain ⟨its, rv, hl, _⟩ := I.tuple hs
  rw [Vals.ref1 r]
  have hi : IntsAre its ns := rv.ints
  obtain ⟨xs, e⟩ := hi.allInts.items
  have hn : numsOf (intItems xs).toList = ns := by rw [← e]; exact hi.numsOf
  rw [nums_intItems] at hn
  rw [e] at hl
  refine PySem.W.ktm_sumG (I.ok.hd hc) hl fun h' tk t' hk => ?_
  rw [preSum_eq, List.take_of_length_le (by simp), hn]
  exact ⟨.int _, H, I.kept hk, ⟨_, rfl⟩, q⟩
def rSumX (K : PySem.W.Frag) : List V → Hp → VK → Prop := fun vs H Q => rSum K vs H Q ∨ rSumT K vs H Q
theorem callSumXK (h : X.K = K) (hc : X.calm = true) : CallR X (.builtin "sum") (rSumX K) := by
  subst h
  intro pins s σ H vs us Q I r h
  rcases h with h | h
  · exact cr_sum hc pins s σ H vs us Q I r h
  · exact cr_sumT hc pins s σ H vs us Q I r h
instance [h : SqC K H a (ns.map V.int)] : Step (rSumX K [V.ref a] H Q) (Q (.int ns.sum) H) := ⟨fun q => .inl ⟨a, ns, rfl, h.sq, q⟩⟩
instance [h : StC K H a (ns.map V.int)] : Step (rSumX K [V.ref a] H Q) (Q (.int ns.sum) H) := ⟨fun q => .inr ⟨a, ns, rfl, h.st, q⟩⟩
/-- a tuple of these ints at a: fresh or not -/
theorem g_catT [h1 : StC K H a (ns.map V.int)] [h2 : StC K H b (ms.map V.int)] [k1 : At H a (.tup (ns.map V.int))] [k2 : At H b (.tup (ms.map V.int))] (hz : ns.length + ms.length ≤ 100000) (q : ∀ p H2, Ex H H2 → At H2 p (.tup ((ns ++ ms).map V.int)) → Q (.ref p) H2) : rAdd K (.ref a) (.ref b) H Q := by
  refine .inr (.inr (.inr ⟨a, b, _, _, rfl, rfl, h1.st, h2.st, by rw [List.length_map, List.length_map]; exact Nat.le_trans hz (by decide), fun e => ?_, fun _ e => ?_, fun _ _ p hp => ?_⟩))
  · have e' : ns = [] := List.map_eq_nil_iff.mp e
    subst e'
    exact q b H (Ex.refl H) k2
  · have e' : ms = [] := List.map_eq_nil_iff.mp e
    subst e'
    exact q a H (Ex.refl H) ⟨by rw [List.append_nil]; exact k1.eq⟩
  · exact q p _ (Ex.mk hp) ⟨by rw [List.map_append]; exact upd_same⟩
/-- the places a cut takes -/
def cutI (ns : List Int) (lo hi : Option Int) : List Int := (ns.drop (HT.sIx ns.length 0 lo)).take (HT.sIx ns.length ns.length hi - HT.sIx ns.length 0 lo)
theorem cutV_int {lo hi : Option Int} : cutV (ns.map V.int) lo hi = (cutI ns lo hi).map V.int := by
  unfold cutV cutI
  rw [List.length_map, List.map_take, List.map_drop]
theorem g_slTup {lo hi : Option Int} [h : StC K H a (ns.map V.int)] [k : At H a (.tup (ns.map V.int))] (q : ∀ p H2, Ex H H2 → At H2 p (.tup ((cutI ns lo hi).map V.int)) → Q (.ref p) H2) : rSlX K (.ref a) lo hi H Q := by
  refine .inr (.inr ⟨a, _, rfl, h.st, fun e => ?_, fun _ p hp => ?_⟩)
  · refine q a H (Ex.refl H) ⟨?_⟩
    rw [List.length_map] at e
    rw [k.eq, ← cutV_int]
    unfold cutV
    rw [List.length_map, e.1, e.2, List.drop_zero, Nat.sub_zero, List.take_of_length_le (by simp)]
  · exact q p _ (Ex.mk hp) ⟨by rw [← cutV_int]; exact upd_same⟩
theorem g_ixTI {i : Int} [h : StC K H a (ns.map V.int)] (h0 : 0 ≤ i) (h1 : i < (ns.length : Int)) (q : Q (.int (ns.getD i.toNat 0)) H) : rIx K (.ref a) (.int i) H Q := by
  obtain ⟨j, rfl⟩ : ∃ j : Nat, i = (j : Int) := ⟨i.toNat, by omega⟩
  refine g_ixT (atI_nat ?_) q
  have h2 : j < ns.length := by omega
  rw [List.getElem?_map, List.getElem?_eq_getElem h2, Option.map_some, Int.toNat_natCast, List.getD_eq_getElem?_getD, List.getElem?_eq_getElem h2, Option.getD_some]
instance (priority := high) [h : StC K H p (ns.map V.int)] : Step (rLen K [.ref p] H Q) (Q (.int (ns.length : Nat)) H) := ⟨fun q => g_len len_t (by rw [List.length_map]; exact q)⟩
/-! lists and tuples made of a list or a tuple -/
theorem g_listOfT [h : StC K H p xs] (q : ∀ p H2, Nw H p → Ex H H2 → At H2 p (.lst xs) → Q (.ref p) H2) : rListOf K [V.ref p] H Q := ⟨p, xs, rfl, .inr h.st, g_new q⟩
def rTupOf (K : PySem.W.Frag) : List V → Hp → VK → Prop := fun xs H Q => ∃ p ys, xs = [.ref p] ∧ ((SqL K H p ys ∧ ∀ l, H l = none → Q (.ref l) (upd H l (.tup ys))) ∨ (SqT K H p ys ∧ Q (.ref p) H))
theorem callTupOfK (h : X.K = K) : CallR X (.type "tuple") (rTupOf K) := h ▸ call_tuple_of
instance [h : StC K H p xs] : Step (rTupOf K [.ref p] H Q) (Q (.ref p) H) := ⟨fun q => ⟨p, xs, rfl, .inr ⟨h.st, q⟩⟩⟩
theorem g_tupOfL [h : SqC K H p xs] (q : ∀ p H2, Nw H p → Ex H H2 → At H2 p (.tup xs) → Q (.ref p) H2) : rTupOf K [V.ref p] H Q := ⟨p, xs, rfl, .inl ⟨h.sq, g_new q⟩⟩
theorem cdivP {i j : Int} (h : 0 < j ∧ j < 2 ^ 200) (h2 : -(2 ^ 300) < i ∧ i < 2 ^ 300) : CDivP i j := by
  refine divp_ok h.1 ?_
  have b : ∀ x : Int, Builtin.Int.intBits x ≤ x.natAbs.log2 + 1 := fun x => by
    unfold Builtin.Int.intBits
    split
    · omega
    · omega
  have h3 := b i
  have h4 : i.natAbs.log2 < 300 := PySem.Flt.log2_lt_of (k := 300) (by decide) (by omega)
  omega
def rDivmod : List V → Hp → VK → Prop := fun xs H Q => ∃ i j, xs = [.int i, .int j] ∧ CDivP i j ∧ ∀ p, H p = none → Q (.ref p) (upd H p (.tup [.int (i / j), .int (i % j)]))
theorem callDivmod : CallR X (.builtin "divmod") rDivmod := call_divmodW
theorem g_divmod {H : Hp} {Q : VK} {i j : Int} (h : CDivP i j) (q : ∀ p H2, Nw H p → Ex H H2 → At H2 p (.tup [.int (i / j), .int (i % j)]) → Q (.ref p) H2) : rDivmod [.int i, .int j] H Q := ⟨i, j, rfl, h, g_new q⟩
end
/-! ### methods -/
structure DfM (K : PySem.W.Frag) (C : Addr) (m qual : Str) (st : Stmt) (dvs : List V) (kws : List (Str × V)) : Prop where
  ex : ∃ (f : Addr) (fd : FuncData), Meth K C m f ∧ FunD K m qual (defArgs st) (defBody st) (defScope st) dvs kws f fd
structure ClM (CX : CXT) (P : Program) (w : World) (K : PySem.W.Frag) (mg : Str → Option Value) (base : Heap) (k : Nat) (C : Addr) (m qual : Str) (st : Stmt) (ps : List Str) (dvs : List V) (kws : List (Str × V)) (sp : Sp) : Prop where
  ex : ∃ (f : Addr) (fd : FuncData), Meth K C m f ∧ FunD K m qual (defArgs st) (defBody st) (defScope st) dvs kws f fd ∧ FnOk P w K mg base CX k f fd ps sp
section
variable {P : Program} {w : World} {K : PySem.W.Frag} {mg : Str → Option Value} {base : Heap}
theorem DfM.ok {CX : CXT} {C : Addr} {m qual : Str} {st : Stmt} {N ps : List Str} {dvs : List V} {kws : List (Str × V)} {k : Nat} {sp : Sp} (D : DfM K C m qual st dvs kws) (S : FnScope N ps (defScope st)) (len : ∀ vs H Q E, sp vs H Q E → vs.length = ps.length)
    (hbody : ∀ (f : Addr) (cdv : Value) (A : Around) (outer : List Env) (s : Shared) (H : Hp) (vs : List V) (Q : VK) (E : XK), Room k (A.deeper (envOfC qual (defScope st) s.heap.objs.size f cdv)) → sp vs H Q E →
      ∃ t, PSs (cxOf CX P w K mg base N qual (defScope st) f cdv A outer s H E) (defBody st) t ∧ t { nx := fun _ H' => Q .non H', rt := Q } (start N vs) H) : ClM CX P w K mg base (k + 1) C m qual st ps dvs kws sp := by
  obtain ⟨f, fd, h1, h2⟩ := D.ex
  exact ⟨f, fd, h1, h2, h2.ok S len fun cdv A outer s H vs Q E hr h => hbody f cdv A outer s H vs Q E hr h⟩
theorem DfM.okP {C : Addr} {m qual : Str} {st : Stmt} {N ps : List Str} {dvs : List V} {kws : List (Str × V)} {k : Nat} {sp : Sp} (D : DfM K C m qual st dvs kws) (S : FnScope N ps (defScope st)) (len : ∀ vs H Q E, sp vs H Q E → vs.length = ps.length)
    (hbody : ∀ (f : Addr) (cdv : Value) (A : Around) (outer : List Env) (s : Shared) (H : Hp) (vs : List V) (Q : VK) (E : XK), Room k (A.deeper (envOfC qual (defScope st) s.heap.objs.size f cdv)) → sp vs H Q E →
      ∃ t, PSs (cxOf CX0 P w K mg base N qual (defScope st) f cdv A outer s H E).nox (defBody st) t ∧ t { nx := fun _ H' => Q .non H', rt := Q } (start N vs) H) : ClM CX0 P w K mg base (k + 1) C m qual st ps dvs kws sp :=
  D.ok S len fun f cdv A outer s H vs Q E hr h => by
    obtain ⟨t, a, b⟩ := hbody f cdv A outer s H vs Q E hr h
    exact ⟨t, a.nox, b⟩
end
section
variable {X : Cx} {CX : CXT} {k : Nat} {C : Addr} {m qual : Str} {st : Stmt} {ps : List Str} {sp : Sp} {E : XK} {o e : Expr} {es : List Expr} {ta : TE} {t : TA} {apos pos : Pos} {pl : Sem Bool}
theorem pe_m (M : ClM CX X.prog X.w X.K X.mg X.base k C m qual st ps [] [] sp) (c : Cls X.K C) (hr : Room k X.A) (hx : Passes CX X E)
    (h : ∀ (kV doc pm : Value) (an : Option Addr) (cdv ct : Value) (us : List Value), us.length = ps.length → bindArgs (PySem.W.fnOf m qual (defArgs st) (defBody st) (defScope st) .none kV doc pm an cdv ct) ⟨us, []⟩ = pure (ps.zip us))
    (he : PE X o ta) (ha : PA X (e :: es) t)
    (hst : starEach (e :: es) X.env = (false, eval e X.env) :: starEach es X.env := by rfl) (hpl : (backTo pos (starEach es X.env)).any (·.1) = false := by rfl)
    (ht : eval (.Call (.Attribute o m apos) (e :: es) [] pos) X.env = (do
      let ov ← eval o X.env
      standAt apos.atName
      let (f, first) ← holding [ov] (getMethod ov m pl)
      callWith pos f first (backTo pos (starEach (e :: es) X.env)) (backToKw pos (keywordEach [] X.env))) := by rfl) :
    PE X (.Call (.Attribute o m apos) (e :: es) [] pos) (tMeth C m sp [] E ta t) := by
  obtain ⟨f, fd, h1, h2, h4⟩ := M.ex
  exact pe_meth he c h1 h4 hr (h2.bindsN h) .nil hx ha hst hpl ht
theorem pe_m0 (M : ClM CX X.prog X.w X.K X.mg X.base k C m qual st ps [] [] sp) (c : Cls X.K C) (hr : Room k X.A) (hx : Passes CX X E)
    (h : ∀ (kV doc pm : Value) (an : Option Addr) (cdv ct : Value) (us : List Value), us.length = ps.length → bindArgs (PySem.W.fnOf m qual (defArgs st) (defBody st) (defScope st) .none kV doc pm an cdv ct) ⟨us, []⟩ = pure (ps.zip us))
    (he : PE X o ta)
    (ht : eval (.Call (.Attribute o m apos) [] [] pos) X.env = (do
      let ov ← eval o X.env
      standAt apos.atName
      let (f, first) ← holding [ov] (getMethod ov m pl)
      callWith pos f first (backTo pos (starEach [] X.env)) (backToKw pos (keywordEach [] X.env))) := by rfl) :
    PE X (.Call (.Attribute o m apos) [] [] pos) (tMeth C m sp [] E ta tNil) := by
  obtain ⟨f, fd, h1, h2, h4⟩ := M.ex
  exact pe_meth0 he c h1 h4 hr (h2.bindsN h) .nil hx ht
end
section
variable {K : PySem.W.Frag} {σ : L2.St} {H H1 : Hp} {Q : VK} {C a : Addr} {m f : Str} {sp : Sp} {dvs : List V} {E : XK} {ta tv : TE} {t : TA} {x y : V} {bs : List Int} {D : Ends}
def rMeth (C : Addr) (m : Str) (sp : Sp) (dvs : List V) (E : XK) (t : TA) (σ : L2.St) (x : V) (H1 : Hp) (Q : VK) : Prop := ∃ a dx fs, x = .ref a ∧ H1 a = some (.ins C dx fs) ∧ fs.lookup m = none ∧ t σ H1 fun vs H2 => sp (x :: (vs ++ dvs)) H2 Q E
instance : Step (tMeth C m sp dvs E ta t σ H Q) (ta σ H fun x H1 => rMeth C m sp dvs E t σ x H1 Q) := ⟨fun q => q⟩
theorem g_rmeth [h : RdC C H1 a bs] (hm : (m == ("_budgets" : Str)) = false) (q : t σ H1 fun vs H2 => sp (.ref a :: (vs ++ dvs)) H2 Q E) : rMeth C m sp dvs E t σ (.ref a) H1 Q := by
  obtain ⟨dx, p, h1, h2⟩ := h.ex
  refine ⟨a, dx, _, rfl, h1, ?_, q⟩
  rw [List.lookup_cons, hm]
  rfl
def rFld (K : PySem.W.Frag) (f : Str) (x : V) (H1 : Hp) (Q : VK) : Prop := ∃ a C dx fs v, x = .ref a ∧ H1 a = some (.ins C dx fs) ∧ Cls K C ∧ NoAttr K C f ∧ fs.lookup f = some v ∧ Q v H1
instance : Step (tFld K ta f σ H Q) (ta σ H fun x H1 => rFld K f x H1 Q) := ⟨fun q => q⟩
theorem g_fldB [h : RdC C H1 a bs] (c : Cls K C) (n : NoAttr K C "_budgets") (q : ∀ p, At H1 p (.tup (bs.map V.int)) → Q (.ref p) H1) : rFld K "_budgets" (.ref a) H1 Q := by
  obtain ⟨dx, p, h1, h2⟩ := h.ex
  exact ⟨a, C, dx, _, _, rfl, h1, c, n, rfl, q p ⟨h2⟩⟩
def rProp (C : Addr) (sp : Sp) (dvs : List V) (E : XK) (x : V) (H1 : Hp) (Q : VK) : Prop := ∃ a dx fs, x = .ref a ∧ H1 a = some (.ins C dx fs) ∧ sp (.ref a :: dvs) H1 Q E
instance : Step (tProp C sp dvs E ta σ H Q) (ta σ H fun x H1 => rProp C sp dvs E x H1 Q) := ⟨fun q => q⟩
instance [h : RdC C H1 a bs] : Step (rProp C sp dvs E (.ref a) H1 Q) (sp (.ref a :: dvs) H1 Q E) := ⟨fun q => by
  obtain ⟨dx, p, h1, h2⟩ := h.ex
  exact ⟨a, dx, _, rfl, h1, q⟩⟩
end
/-! ### a Round made -/
/-- __init__(self, *budgets): what it is given, at its own frame -/
def spIni (C : Addr) : Sp := fun vs H Q E => ∃ (a dx t : Addr) (bs : List Int), vs = [.ref a, .ref t] ∧ (H a = some (.ins C dx []) ∧ At H t (.tup (bs.map V.int)) ∧ 1 ≤ bs.length ∧ bs.length ≤ 12 ∧ ∀ b ∈ bs, 0 ≤ b) ∧
  ∀ H', (∀ b o, b ≠ a → H b = some o → H' b = some o) → (∀ b, H' b = none → H b = none) → H' a = some (.ins C dx [("_budgets", .ref t)]) → Q .non H'
structure DfI (K : PySem.W.Frag) (C : Addr) (qual : Str) (st : Stmt) : Prop where
  ex : ∃ (f : Addr) (oc doc pm cdv ct : Value) (an od : Option Addr) (osl : Array (Option Value)), Mk K C f ∧ K.lookup f = some ⟨oc, od, .func (PySem.W.fnOf "__init__" qual (defArgs st) (defBody st) (defScope st) .none .none doc pm an cdv ct), osl⟩ ∧ PySem.W.codeIn K cdv qual = true
structure ClI (CX : CXT) (P : Program) (w : World) (K : PySem.W.Frag) (mg : Str → Option Value) (base : Heap) (k : Nat) (C : Addr) : Prop where
  ex : ∃ f, Mk K C f ∧ FnR P w K mg base CX k f (fun vs H Q E => ∃ ws rest, vs = ws ++ rest ∧ ws.length = 1 ∧ rest.length ≤ sizeLine ∧ ∀ p, H p = Option.none → spIni C (ws ++ [V.ref p]) (upd H p (.tup rest)) Q E)
theorem DfI.ok {CX : CXT} {P : Program} {w : World} {K : PySem.W.Frag} {mg : Str → Option Value} {base : Heap} {C : Addr} {qual : Str} {st : Stmt} {N : List Str} {k : Nat} (D : DfI K C qual st) (S : FnScope N ["self", "budgets"] (defScope st)) (hCX : CXUp CX)
    (hb : ∀ (doc pm cdv ct : Value) (an : Option Addr) (us rest : List Value), us.length = 1 → bindArgs (PySem.W.fnOf "__init__" qual (defArgs st) (defBody st) (defScope st) .none .none doc pm an cdv ct) ⟨us ++ rest, []⟩ = (newTuple rest >>= fun t => pure ((["self"] : List Str).zip us ++ [(("budgets" : Str), t)])))
    (hbody : ∀ (f : Addr) (cdv : Value) (A : Around) (outer : List Env) (s : Shared) (H : Hp) (vs : List V) (Q : VK) (E : XK), Room k (A.deeper (envOfC qual (defScope st) s.heap.objs.size f cdv)) → spIni C vs H Q E →
      ∃ t, PSs (cxOf CX P w K mg base N qual (defScope st) f cdv A outer s H E) (defBody st) t ∧ t { nx := fun _ H' => Q .non H', rt := Q } (start N vs) H) : ClI CX P w K mg base (k + 1) C := by
  obtain ⟨f, oc, doc, pm, cdv, ct, an, od, osl, h1, lk, hcd⟩ := D.ex
  exact ⟨f, h1, fn_star (ps := ["self"]) (pv := "budgets") lk hcd S hCX (hb doc pm cdv ct an) fun A outer s H vs Q E hr h => hbody f cdv A outer s H vs Q E hr h⟩
section
variable {X : Cx} {CX : CXT} {k : Nat} {C : Addr} {x : Str} {e : Expr} {es : List Expr} {t : TA} {E : XK} {p pos : Pos}
def rMkR (C : Addr) (E : XK) (vs : List V) (H1 : Hp) (Q : VK) : Prop := ∀ x dx, H1 x = none → H1 dx = none → dx ≠ x → (∃ ws rest, V.ref x :: vs = ws ++ rest ∧ ws.length = 1 ∧ rest.length ≤ sizeLine ∧ ∀ p, (upd (upd H1 dx (.own x)) x (.ins C dx [])) p = Option.none → spIni C (ws ++ [V.ref p]) (upd (upd (upd H1 dx (.own x)) x (.ins C dx [])) p (.tup rest)) (fun v H2 => v = .non ∧ Q (.ref x) H2) E)
def tMkR (C : Addr) (E : XK) (t : TA) : TE := fun σ H Q => t σ H fun vs H1 => rMkR C E vs H1 Q
theorem pe_mkR (M : ClI CX X.prog X.w X.K X.mg X.base k C) (hr : Room (k + 1) X.A) (hg : Gl X x) (hm : X.mg x = some (.ref C)) (hx : Passes CX X E) (ha : PA X (e :: es) t) (hdb : (x == ("__debug__" : Str)) = false := by decide)
    (he : starEach (e :: es) X.env = (false, eval e X.env) :: starEach es X.env := by rfl) (hpl : (backTo pos (starEach es X.env)).any (·.1) = false := by rfl) :
    PE X (.Call (.Name x p) (e :: es) [] pos) (tMkR C E t) := by
  obtain ⟨f, h1, F⟩ := M.ex
  exact pe_makeR h1 F hr hg hm hx ha hdb he hpl
/-- C(*y) -/
def tMkS (K : PySem.W.Frag) (C : Addr) (E : XK) (te : TE) : TE := fun σ H Q => te σ H fun y H1 => ∃ a xs, y = V.ref a ∧ (SqT K H1 a xs ∨ SqL K H1 a xs) ∧ rMkR C E xs H1 Q
theorem pe_mkS {K : PySem.W.Frag} {te : TE} {sp_ : Pos} (hK : X.K = K) (M : ClI CX X.prog X.w X.K X.mg X.base k C) (hr : Room (k + 1) X.A) (hg : Gl X x) (hm : X.mg x = some (.ref C)) (hx : Passes CX X E) (he : PE X e te) (hd : (x == ("__debug__" : Str)) = false := by decide)
    (hst : starEach [.Starred e sp_] X.env = [(true, eval e X.env)] := by rfl) :
    PE X (.Call (.Name x p) [.Starred e sp_] [] pos) (tMkS K C E te) := by
  subst hK
  obtain ⟨f, h1, F⟩ := M.ex
  refine ⟨fun pins s σ H Q I h => ?_⟩
  refine wpAny_Call_Name_kw (ld_glob I hg hm ?_ hd)
  refine PySem.W.callWith_S (h₀ := X.base) I.ok.mod.kin h1.kp (thn (he.run pins s σ H _ I h) fun v s1 ⟨y, H1, I1, ry, a, xs, ey, hxs, q⟩ => ?_) hst
  subst ey
  obtain rfl : v = Value.ref a := ry
  exact star_any I1 hxs fun us s2 I2 rv => ⟨I2.kIn, run_makeR h1 F hr hx I2 rv q⟩
theorem g_mkR {bs : List Int} {H1 : Hp} {Q : VK} (h : 1 ≤ bs.length ∧ bs.length ≤ 12) (h0 : ∀ b ∈ bs, 0 ≤ b) (q : ∀ a H', Nw H1 a → Ex H1 H' → RdC C H' a bs → Q (.ref a) H') : rMkR C E (bs.map V.int) H1 Q := by
  intro x dx hx hdx hne
  refine ⟨[.ref x], bs.map V.int, rfl, rfl, by rw [List.length_map, sizeLine_eq]; omega, fun p hp => ?_⟩
  have hxp : x ≠ p := fun e => by rw [← e, upd_same] at hp; cases hp
  have hdp : dx ≠ p := fun e => by rw [← e, upd_ne hne, upd_same] at hp; cases hp
  have hp1 : H1 p = none := by rw [upd_ne hxp.symm, upd_ne hdp.symm] at hp; exact hp
  refine ⟨x, dx, p, bs, rfl, ⟨by rw [upd_ne hxp, upd_same], ⟨upd_same⟩, h.1, h.2, h0⟩, fun H' keep live hx' => ⟨rfl, q x H' ⟨hx⟩ ?_ ⟨dx, p, hx', ?_⟩⟩⟩
  · have K1 : ∀ b o, H1 b = some o → H' b = some o := fun b o hb => by
      have hbx : b ≠ x := ne_of_none hb hx
      refine keep b o hbx ?_
      rw [upd_ne (ne_of_none hb hp1), upd_ne hbx, upd_ne (ne_of_none hb hdx)]
      exact hb
    refine ⟨fun b o _ => K1 b o, fun b hb => ?_, fun b o _ => K1 b o⟩
    have h2 := live b hb
    by_cases z : b = p
    · rw [z]; exact hp1
    · rw [upd_ne z] at h2
      by_cases y : b = x
      · rw [y]; exact hx
      · rw [upd_ne y] at h2
        by_cases u : b = dx
        · rw [u]; exact hdx
        · rw [upd_ne u] at h2; exact h2
  · exact keep p _ hxp.symm upd_same
instance {σ : L2.St} {H : Hp} {Q : VK} : Step (tMkR C E t σ H Q) (t σ H fun vs H1 => rMkR C E vs H1 Q) := ⟨fun q => q⟩
def rMkS (K : PySem.W.Frag) (C : Addr) (E : XK) (y : V) (H1 : Hp) (Q : VK) : Prop := ∃ a xs, y = V.ref a ∧ (SqT K H1 a xs ∨ SqL K H1 a xs) ∧ rMkR C E xs H1 Q
instance {K : PySem.W.Frag} {σ : L2.St} {te : TE} {H : Hp} {Q : VK} : Step (tMkS K C E te σ H Q) (te σ H fun y H1 => rMkS K C E y H1 Q) := ⟨fun q => q⟩
instance {K : PySem.W.Frag} {a : Addr} {xs : List V} {H : Hp} {Q : VK} [h : StC K H a xs] : Step (rMkS K C E (.ref a) H Q) (rMkR C E xs H Q) := ⟨fun q => ⟨a, xs, rfl, .inl h.st, q⟩⟩
instance {K : PySem.W.Frag} {a : Addr} {xs : List V} {H : Hp} {Q : VK} [h : SqC K H a xs] : Step (rMkS K C E (.ref a) H Q) (rMkR C E xs H Q) := ⟨fun q => ⟨a, xs, rfl, .inr h.sq, q⟩⟩
end
/-! ### chains, loops over tuples -/
section
variable {σ : L2.St} {H H1 : Hp} {Q : VK} {r r' : R2} {ta tb tc : TE} {x y : V} {b : Bool}
def rChain (r r' : R2) (tc : TE) (σ : L2.St) (x y : V) (H2 : Hp) (Q : VK) : Prop := r x y H2 fun z H3 => ∃ k, z = .bl k ∧ (if k = true then tc σ H3 fun w' H4 => r' y w' H4 Q else Q (.bl false) H3)
instance : Step (tChain r r' ta tb tc σ H Q) (ta σ H fun x H1 => tb σ H1 fun y H2 => r x y H2 fun z H3 => ∃ k, z = .bl k ∧ (if k = true then tc σ H3 fun w' H4 => r' y w' H4 Q else Q (.bl false) H3)) := ⟨fun q => q⟩
theorem pi_tupK {X : Cx} {K : PySem.W.Frag} {tg l : Expr} {tl : TE} (h : X.K = K) (hl : PE X l tl) : PI X tg l (iTup K tl) := h ▸ pi_tup hl
end
/-! ### while -/
section
variable {σ : L2.St} {H : Hp} {D : Ends} {tt : TT} {tb : TS}
def rTurn (W : Nat → L2.St → Hp → Prop) (m : Nat) (tb : TS) (D : Ends) (σ : L2.St) (H1 : Hp) : Prop := ∃ N : L2.St → Hp → Prop, (∀ σ' H', N σ' H' → ∃ m', m' < m ∧ W m' σ' H') ∧ tb { D with nx := N, ct := N, bk := D.nx } σ H1
instance {W : Nat → L2.St → Hp → Prop} {m : Nat} : Step (rTurn W m tb D σ H) (tb { D with nx := fun σ' H' => ∃ m', m' < m ∧ W m' σ' H', ct := fun σ' H' => ∃ m', m' < m ∧ W m' σ' H', bk := D.nx } σ H) := ⟨fun q => ⟨_, fun _ _ z => z, q⟩⟩
/-- m falls at each turn -/
theorem whileX (bs : List Addr) (Pv : Nat → L2.St → Hp → Prop) (m : Nat) (h0 : Pv m σ H)
    (hs : ∀ (m : Nat) σ' H', Chg bs H H' → Pv m σ' H' → tt σ' H' fun b H1 => if b = true then rTurn (fun k σ2 H2 => LI bs H (Pv k) σ2 H2) m tb D σ' H1 else D.nx σ' H1) : tWhile tt tb D σ H :=
  ⟨fun k σ' H' => LI bs H (Pv k) σ' H', ⟨m, Chg.refl _ _, h0⟩, fun k σ' H' z => hs k σ' H' z.1 z.2⟩
end
/-! ### what the top says of the class Round -/
structure RdF (K : PySem.W.Frag) (mg : Str → Option Value) (C : Addr) : Prop where
  g : mg "Round" = some (.ref C)
  c : Cls K C
  nb : NoAttr K C "_budgets"
  most : CRead K C (.type "type") ∧ ∃ u : Value, CVal K C (.type "type") "MOST" (.int 12) u
  sf : PySem.W.selfFirst K C = true
  ty : PySem.W.findIn K (.ref C) "__class__" = some (some (.builtin "object.__class__")) ∧ PySem.W.specialIn K (.builtin "object.__class__") "__get__" = some (some (.builtin "getset_descriptor.__get__")) ∧ PySem.W.takesIn K (.builtin "object.__class__") = some true ∧ PySem.W.mroIn K C (.type "object") = some true
theorem rdf_mk {K : PySem.W.Frag} {h : Heap} {mg : Str → Option Value} {C : Addr} {t : Tok} (X : K.In h) (G : h.Ns mainGlobals mg) (a : PySem.W.nsIn K mainGlobals "Round" = some (some (.ref C))) (pg : PySem.W.plainGet K C Str.empty = true) (hd : PySem.W.hasDictIn K C = true) (po : PySem.W.plainOver K C = true)
    (sa : PySem.W.findIn K (.ref C) "__setattr__" = some (some (.builtin "object.__setattr__"))) (nb : PySem.W.findIn K (.ref C) "_budgets" = some none) (rd : PySem.W.readsIn K C (.type "type") = true) (ga : PySem.W.specialIn K (.ref C) "__getattribute__" = some (some (.builtin "type.__getattribute__")))
    (mo : PySem.W.findCls K (.ref C) (.type "type") "MOST" = some (.val (.int 12 t)))
    (sf : PySem.W.selfFirst K C = true) (t1 : PySem.W.findIn K (.ref C) "__class__" = some (some (.builtin "object.__class__"))) (t2 : PySem.W.specialIn K (.builtin "object.__class__") "__get__" = some (some (.builtin "getset_descriptor.__get__"))) (t3 : PySem.W.takesIn K (.builtin "object.__class__") = some true) (t4 : PySem.W.mroIn K C (.type "object") = some true) : RdF K mg C :=
  ⟨PySem.W.mg_of X G a, ⟨pg, hd, po, sa⟩, nb, ⟨⟨rd, ga⟩, _, mo, ⟨_, rfl⟩⟩, sf, t1, t2, t3, t4⟩
theorem dfm_mk {K : PySem.W.Frag} {C : Addr} {m qual : Str} {st : Stmt} {f : Addr} {oc dV kV : Value} {od an : Option Addr} {osl : Array (Option Value)} {doc pm cdv ct : Value} {dvs : List V} {kws : List (Str × V)}
    (a : PySem.W.findIn K (.ref C) m = some (some (.ref f))) (b : PySem.W.isFn K (.ref f) = true) (k : PySem.W.keepIn K (.ref f) = true) (l : K.lookup f = some ⟨oc, od, .func (PySem.W.fnOf m qual (defArgs st) (defBody st) (defScope st) dV kV doc pm an cdv ct), osl⟩)
    (c : PySem.W.codeIn K cdv qual = true) (d : DflV K dV dvs) (q : KwdV K kV kws) : DfM K C m qual st dvs kws :=
  ⟨f, _, ⟨a, b, k⟩, ⟨⟨oc, od, dV, kV, doc, pm, an, cdv, ct, osl, rfl, l, c, d, q⟩, k⟩⟩
theorem dfi_mk {K : PySem.W.Frag} {C : Addr} {qual : Str} {st : Stmt} {f : Addr} {oc : Value} {od an : Option Addr} {osl : Array (Option Value)} {doc pm cdv ct : Value}
    (mk : PySem.W.makesIn K C = true) (a : PySem.W.findIn K (.ref C) "__init__" = some (some (.ref f))) (b : PySem.W.isFn K (.ref f) = true) (k : PySem.W.keepIn K (.ref C) = true) (l : K.lookup f = some ⟨oc, od, .func (PySem.W.fnOf "__init__" qual (defArgs st) (defBody st) (defScope st) .none .none doc pm an cdv ct), osl⟩)
    (c : PySem.W.codeIn K cdv qual = true) : DfI K C qual st := ⟨f, oc, doc, pm, cdv, ct, an, od, osl, ⟨mk, a, b, k⟩, l, c⟩
/-! properties -/
structure DfP (K : PySem.W.Frag) (C : Addr) (m qual : Str) (st : Stmt) : Prop where
  ex : ∃ (p g : Addr) (fd : FuncData), PropOf K C m p g ∧ FunD K m qual (defArgs st) (defBody st) (defScope st) [] [] g fd
structure ClP (CX : CXT) (P : Program) (w : World) (K : PySem.W.Frag) (mg : Str → Option Value) (base : Heap) (k : Nat) (C : Addr) (m qual : Str) (st : Stmt) (sp : Sp) : Prop where
  ex : ∃ (p g : Addr) (fd : FuncData), PropOf K C m p g ∧ FunD K m qual (defArgs st) (defBody st) (defScope st) [] [] g fd ∧ FnOk P w K mg base CX k g fd ["self"] sp
theorem dfp_mk {K : PySem.W.Frag} {C : Addr} {m qual : Str} {st : Stmt} {p g : Addr} {rest : List Value} {oc : Value} {od an : Option Addr} {osl : Array (Option Value)} {doc pm cdv ct : Value}
    (a : PySem.W.findIn K (.ref C) m = some (some (.ref p))) (b : PySem.W.specialIn K (.ref p) "__get__" = some (some (.builtin "property.__get__"))) (t : PySem.W.takesIn K (.ref p) = some true) (r : PySem.W.recIn K p "property" = some (.ref g :: rest))
    (l : K.lookup g = some ⟨oc, od, .func (PySem.W.fnOf m qual (defArgs st) (defBody st) (defScope st) .none .none doc pm an cdv ct), osl⟩) (c : PySem.W.codeIn K cdv qual = true) (k : PySem.W.keepIn K (.ref g) = true) : DfP K C m qual st :=
  ⟨p, g, _, ⟨a, b, t, rest, r⟩, ⟨⟨oc, od, .none, .none, doc, pm, an, cdv, ct, osl, rfl, l, c, .inl ⟨rfl, rfl⟩, .inl rfl⟩, k⟩⟩
theorem DfP.okP {P : Program} {w : World} {K : PySem.W.Frag} {mg : Str → Option Value} {base : Heap} {C : Addr} {m qual : Str} {st : Stmt} {N : List Str} {k : Nat} {sp : Sp} (D : DfP K C m qual st) (S : FnScope N ["self"] (defScope st)) (len : ∀ vs H Q E, sp vs H Q E → vs.length = 1)
    (hbody : ∀ (f : Addr) (cdv : Value) (A : Around) (outer : List Env) (s : Shared) (H : Hp) (vs : List V) (Q : VK) (E : XK), Room k (A.deeper (envOfC qual (defScope st) s.heap.objs.size f cdv)) → sp vs H Q E →
      ∃ t, PSs (cxOf CX0 P w K mg base N qual (defScope st) f cdv A outer s H E).nox (defBody st) t ∧ t { nx := fun _ H' => Q .non H', rt := Q } (start N vs) H) : ClP CX0 P w K mg base (k + 1) C m qual st sp := by
  obtain ⟨p, g, fd, h1, h2⟩ := D.ex
  exact ⟨p, g, fd, h1, h2, h2.ok S len fun cdv A outer s H vs Q E hr h => by
    obtain ⟨t, a, b⟩ := hbody g cdv A outer s H vs Q E hr h
    exact ⟨t, a.nox, b⟩⟩
theorem pe_p {X : Cx} {CX : CXT} {k : Nat} {C : Addr} {m qual : Str} {st : Stmt} {sp : Sp} {E : XK} {e : Expr} {pos : Pos} {ta : TE} (M : ClP CX X.prog X.w X.K X.mg X.base k C m qual st sp) (c : Cls X.K C) (hr : Room (k + 1) X.A) (hx : Passes CX X.nox E)
    (h : ∀ (kV doc pm : Value) (an : Option Addr) (cdv ct : Value) (us : List Value), us.length = (["self"] : List Str).length → bindArgs (PySem.W.fnOf m qual (defArgs st) (defBody st) (defScope st) .none kV doc pm an cdv ct) ⟨us, []⟩ = pure ((["self"] : List Str).zip us))
    (he : PE X e ta) (hab : attributeBase e m X.env (eval e X.env) = eval e X.env := by rfl) : PE X (.Attribute e m pos) (tProp C sp [] E ta) := by
  obtain ⟨p, g, fd, h1, h2, h4⟩ := M.ex
  exact pe_prop he c h1 h4 hr (h2.bindsN h) .nil hx hab
/-! the class's constant -/
section
variable {K : PySem.W.Frag} {σ : L2.St} {H : Hp} {Q : VK} {ta : TE} {f : Str} {C : Addr} {mg : Str → Option Value}
def rCVal (K : PySem.W.Frag) (f : Str) (x : V) (H1 : Hp) (Q : VK) : Prop := ∃ C mc v u, x = .ref C ∧ CRead K C mc ∧ CVal K C mc f v u ∧ Q v H1
instance : Step (tCVal K ta f σ H Q) (ta σ H fun x H1 => rCVal K f x H1 Q) := ⟨fun q => q⟩
theorem g_most (R : RdF K mg C) (q : Q (.int 12) H) : rCVal K "MOST" (.ref C) H Q := by
  obtain ⟨h1, u, h2⟩ := R.most
  exact ⟨C, _, _, u, rfl, h1, h2, q⟩
/-- self._budgets = the tuple at t -/
def rFldS (K : PySem.W.Frag) (f : Str) (D : Ends) (σ : L2.St) (y : V) (x : V) (H2 : Hp) : Prop := ∃ a C dx fs, x = .ref a ∧ H2 a = some (.ins C dx fs) ∧ Cls K C ∧ NoAttr K C f ∧ fs.length < 1000 ∧ D.nx σ (upd H2 a (.ins C dx (putF f y fs)))
instance {tv : TE} {D : Ends} : Step (sFld K ta tv f D σ H) (tv σ H fun y H1 => ta σ H1 fun x H2 => rFldS K f D σ y x H2) := ⟨fun q => q⟩
theorem g_fldS {a dx : Addr} {y : V} {D : Ends} (h : H a = some (.ins C dx [])) (R : RdF K mg C) (q : D.nx σ (upd H a (.ins C dx [("_budgets", y)]))) : rFldS K "_budgets" D σ y (.ref a) H := ⟨a, C, dx, [], rfl, h, R.c, R.nb, by decide, q⟩
end
/-! ### own operators of two of one class -/
section
variable {X : Cx} {CX : CXT} {k : Nat} {C : Addr} {m qual : Str} {st : Stmt} {ps : List Str} {sp : Sp} {E : XK}
/-- own two-place operator: the answer is an object -/
def rOwn2 (C : Addr) (sp : Sp) (E : XK) : R2 := fun x y H Q => ∃ a b dx dy fs gs, x = .ref a ∧ y = .ref b ∧ H a = some (.ins C dx fs) ∧ H b = some (.ins C dy gs) ∧ sp [.ref a, .ref b] H (fun v H' => (∃ q, v = .ref q) ∧ Q v H') E
/-- own ==: the answer is a bool -/
def rOwnEq (C : Addr) (sp : Sp) (E : XK) : R2 := fun x y H Q => ∃ a b dx dy fs gs, x = .ref a ∧ y = .ref b ∧ H a = some (.ins C dx fs) ∧ H b = some (.ins C dy gs) ∧ sp [.ref a, .ref b] H (fun v H' => (∃ q, v = .bl q) ∧ Q v H') E
theorem opOwnAdd (M : ClM CX X.prog X.w X.K X.mg X.base k C "__add__" qual st ps [] [] sp) (c : PySem.W.selfFirst X.K C = true) (hr : Room k X.A) (hx : Passes CX X E)
    (h : ∀ (kV doc pm : Value) (an : Option Addr) (cdv ct : Value) (us : List Value), us.length = ps.length → bindArgs (PySem.W.fnOf "__add__" qual (defArgs st) (defBody st) (defScope st) .none kV doc pm an cdv ct) ⟨us, []⟩ = pure (ps.zip us)) :
    OpR X (binaryOp .Add) (rOwn2 C sp E) := by
  obtain ⟨f, fd, h1, h2, h4⟩ := M.ex
  intro pins s σ H x y v u Q I rx ry d
  obtain ⟨a, b, dx, dy, fs, gs, rfl, rfl, ha, hb', hsp⟩ := d
  cases rx
  cases ry
  obtain ⟨mA, J, _⟩ := ins_get I.hok ha
  obtain ⟨mB, J', _⟩ := ins_get I.hok hb'
  obtain ⟨od, J, _⟩ := J.look
  obtain ⟨od', J', _⟩ := J'.look
  obtain ⟨m', hF⟩ := I.fr
  refine PySem.W.binop_K (op := .Add) hF I.ok.mod.kin J J'.type c h1.at_ h1.fn ?_
  refine wpAny_mono (run_fn (us := [.ref a, .ref b]) (vs := [.ref a, .ref b]) h4 hr (h2.bindsN h) .nil hx I (.cons rfl (.cons rfl .nil)) hsp) (fun r s' z => ?_) fun _ _ e => e
  obtain ⟨z, H', I', rz, ⟨q, ez⟩, hq⟩ := z
  subst ez
  cases rz
  exact ⟨.ref q, H', I', rfl, hq⟩
theorem opOwnEq (M : ClM CX X.prog X.w X.K X.mg X.base k C "__eq__" qual st ps [] [] sp) (hr : Room k X.A) (hx : Passes CX X E)
    (h : ∀ (kV doc pm : Value) (an : Option Addr) (cdv ct : Value) (us : List Value), us.length = ps.length → bindArgs (PySem.W.fnOf "__eq__" qual (defArgs st) (defBody st) (defScope st) .none kV doc pm an cdv ct) ⟨us, []⟩ = pure (ps.zip us)) :
    OpR X (compareOp .Eq) (rOwnEq C sp E) := by
  obtain ⟨f, fd, h1, h2, h4⟩ := M.ex
  intro pins s σ H x y v u Q I rx ry d
  obtain ⟨a, b, dx, dy, fs, gs, rfl, rfl, ha, hb', hsp⟩ := d
  cases rx
  cases ry
  obtain ⟨mA, J, _⟩ := ins_get I.hok ha
  obtain ⟨mB, J', _⟩ := ins_get I.hok hb'
  obtain ⟨od, J, _⟩ := J.look
  obtain ⟨od', J', _⟩ := J'.look
  obtain ⟨m', hF⟩ := I.fr
  show wpAny (model X.prog X.w) X.A (richCompare .Eq (.ref a) (.ref b)) (EP X pins σ Q) X.xe s
  refine PySem.W.cmp_K (op := .Eq) (tb := .ref C) hr.units0 hF I.ok.mod.kin J J'.type (by simp [PySem.W.notFirst]) h1.at_ h1.fn ?_
  refine wpAny_mono (run_fn (us := [.ref a, .ref b]) (vs := [.ref a, .ref b]) h4 hr (h2.bindsN h) .nil hx I (.cons rfl (.cons rfl .nil)) hsp) (fun r s' z => ?_) fun _ _ e => e
  obtain ⟨z, H', I', rz, ⟨q, ez⟩, hq⟩ := z
  subst ez
  cases rz
  exact ⟨.bl q, H', I', rfl, hq⟩
theorem opOr2 {f : Value → Value → Sem Value} {r r' : R2} (a : OpR X f r) (b : OpR X f r') : OpR X f (fun x y H Q => r x y H Q ∨ r' x y H Q) := fun pins s σ H x y v u Q I rx ry d => d.elim (fun d => a pins s σ H x y v u Q I rx ry d) fun d => b pins s σ H x y v u Q I rx ry d
/-- own len -/
def rOwnLen (C : Addr) (sp : Sp) (E : XK) : List V → Hp → VK → Prop := fun vs H Q => ∃ a dx fs, vs = [.ref a] ∧ H a = some (.ins C dx fs) ∧ sp [.ref a] H (fun v H' => (∃ n : Nat, v = .int n ∧ n < 2 ^ 60) ∧ Q v H') E
theorem callOwnLen (M : ClM CX X.prog X.w X.K X.mg X.base k C "__len__" qual st ps [] [] sp) (hr : Room (k + 1) X.A) (hx : Passes CX X E)
    (h : ∀ (kV doc pm : Value) (an : Option Addr) (cdv ct : Value) (us : List Value), us.length = ps.length → bindArgs (PySem.W.fnOf "__len__" qual (defArgs st) (defBody st) (defScope st) .none kV doc pm an cdv ct) ⟨us, []⟩ = pure (ps.zip us)) :
    CallR X (.builtin "len") (rOwnLen C sp E) := by
  obtain ⟨f, fd, h1, h2, h4⟩ := M.ex
  intro pins s σ H xs us Q I r d
  obtain ⟨a, dx, fs, rfl, ha, hsp⟩ := d
  rw [Vals.ref1 r]
  obtain ⟨mA, J, _⟩ := ins_get I.hok ha
  obtain ⟨od, J, _⟩ := J.look
  obtain ⟨m', hF⟩ := I.fr
  refine PySem.W.len_K hF I.ok.mod.kin J h1.at_ h1.fn ?_
  have hb := h2.bindsN h
  have hl := h4.len _ _ _ _ hsp
  have r2 : Vals [V.ref a] [Value.ref a] := .cons rfl .nil
  have e0 : Env0 X.prog X.w X.K X.mg X.base X.A.in1 X.stack s H := by
    have e := I.env0
    exact ⟨e.frames, e.mod, e.bs, e.bsz, e.funs, e.frf, e.hok, e.bare⟩
  refine wpAny_call (codeAny_mono (h4.run X.A.in1 X.stack s H ⟨[.ref a], []⟩ [.ref a] [.ref a] _ E hr.in1 e0 (by
    have := hb s [.ref a] I.kIn (by simpa using hl)
    simpa using this) r2 hsp) fun r s' hq => ?_)
  cases r with
  | error e => exact hx pins σ H s e s' I hq
  | ok fl =>
    cases fl with
    | ret w =>
      obtain ⟨z, H', I', rz, ⟨n, ez, hn⟩, hq2⟩ := I.after hq
      subst ez
      obtain ⟨t, rfl⟩ : ∃ t, w = .int (n : Int) t := rz
      exact ⟨⟨by omega, by omega⟩, .int n, H', I'.tok _, ⟨_, rfl⟩, hq2⟩
    | next => exact False.elim hq
    | brk => exact False.elim hq
    | cont => exact False.elim hq
end
section
variable {K : PySem.W.Frag} {H : Hp} {Q : VK} {a b C : Addr} {bs cs : List Int} {sp : Sp} {E : XK} {mg : Str → Option Value}
instance [h1 : RdC C H a bs] [h2 : RdC C H b cs] : Step (rOwn2 C sp E (.ref a) (.ref b) H Q) (sp [.ref a, .ref b] H (fun v H' => (∃ q, v = .ref q) ∧ Q v H') E) := ⟨fun q => by
  obtain ⟨dx, p, h1, _⟩ := h1.ex
  obtain ⟨dy, p', h2, _⟩ := h2.ex
  exact ⟨a, b, dx, dy, _, _, rfl, rfl, h1, h2, q⟩⟩
instance [h1 : RdC C H a bs] [h2 : RdC C H b cs] : Step (rOwnEq C sp E (.ref a) (.ref b) H Q) (sp [.ref a, .ref b] H (fun v H' => (∃ q, v = .bl q) ∧ Q v H') E) := ⟨fun q => by
  obtain ⟨dx, p, h1, _⟩ := h1.ex
  obtain ⟨dy, p', h2, _⟩ := h2.ex
  exact ⟨a, b, dx, dy, _, _, rfl, rfl, h1, h2, q⟩⟩
instance {p : Addr} : Step ((∃ q, V.ref p = V.ref q) ∧ Q (.ref p) H) (Q (.ref p) H) := ⟨fun q => ⟨⟨p, rfl⟩, q⟩⟩
instance {p : Bool} : Step ((∃ q, V.bl p = V.bl q) ∧ Q (.bl p) H) (Q (.bl p) H) := ⟨fun q => ⟨⟨p, rfl⟩, q⟩⟩
/-- isinstance(a, Round) -/
theorem g_isR [h : RdC C H a bs] (R : RdF K mg C) (q : Q (.bl true) H) : rIsi K [.ref a, .ref C] H Q := by
  obtain ⟨dx, p, h1, _⟩ := h.ex
  refine g_isi (.own C) (.base (.ins h1 R.c R.ty.1 R.ty.2.1 R.ty.2.2.1 R.ty.2.2.2)) ?_ q
  unfold PySem.W.kitOne
  rw [if_pos (beq_self_eq_true _)]
end
/-! ### a staticmethod -/
structure SMet (K : PySem.W.Frag) (C : Addr) (m : Str) (p f : Addr) : Prop where
  at_ : PySem.W.findCls K (.ref C) (.type "type") m = some (.get (.builtin "staticmethod.__get__") (.ref p) .none (.ref C))
  rc : ∃ rest, PySem.W.recIn K p "staticmethod" = some (.ref f :: rest)
  kp : PySem.W.keepIn K (.ref f) = true
structure DfT (K : PySem.W.Frag) (C : Addr) (m qual : Str) (st : Stmt) : Prop where
  ex : ∃ (p f : Addr) (fd : FuncData), SMet K C m p f ∧ FunD K m qual (defArgs st) (defBody st) (defScope st) [] [] f fd
structure ClT (CX : CXT) (P : Program) (w : World) (K : PySem.W.Frag) (mg : Str → Option Value) (base : Heap) (k : Nat) (C : Addr) (m qual : Str) (st : Stmt) (ps : List Str) (sp : Sp) : Prop where
  ex : ∃ (p f : Addr) (fd : FuncData), SMet K C m p f ∧ FunD K m qual (defArgs st) (defBody st) (defScope st) [] [] f fd ∧ FnOk P w K mg base CX k f fd ps sp
theorem dft_mk {K : PySem.W.Frag} {C : Addr} {m qual : Str} {st : Stmt} {p f : Addr} {rest : List Value} {oc : Value} {od an : Option Addr} {osl : Array (Option Value)} {doc pm cdv ct : Value}
    (a : PySem.W.findCls K (.ref C) (.type "type") m = some (.get (.builtin "staticmethod.__get__") (.ref p) .none (.ref C))) (r : PySem.W.recIn K p "staticmethod" = some (.ref f :: rest))
    (l : K.lookup f = some ⟨oc, od, .func (PySem.W.fnOf m qual (defArgs st) (defBody st) (defScope st) .none .none doc pm an cdv ct), osl⟩) (c : PySem.W.codeIn K cdv qual = true) (k : PySem.W.keepIn K (.ref f) = true) : DfT K C m qual st :=
  ⟨p, f, _, ⟨a, ⟨rest, r⟩, k⟩, ⟨⟨oc, od, .none, .none, doc, pm, an, cdv, ct, osl, rfl, l, c, .inl ⟨rfl, rfl⟩, .inl rfl⟩, k⟩⟩
theorem DfT.okP {P : Program} {w : World} {K : PySem.W.Frag} {mg : Str → Option Value} {base : Heap} {C : Addr} {m qual : Str} {st : Stmt} {N ps : List Str} {k : Nat} {sp : Sp} (D : DfT K C m qual st) (S : FnScope N ps (defScope st)) (len : ∀ vs H Q E, sp vs H Q E → vs.length = ps.length)
    (hbody : ∀ (f : Addr) (cdv : Value) (A : Around) (outer : List Env) (s : Shared) (H : Hp) (vs : List V) (Q : VK) (E : XK), Room k (A.deeper (envOfC qual (defScope st) s.heap.objs.size f cdv)) → sp vs H Q E →
      ∃ t, PSs (cxOf CX0 P w K mg base N qual (defScope st) f cdv A outer s H E).nox (defBody st) t ∧ t { nx := fun _ H' => Q .non H', rt := Q } (start N vs) H) : ClT CX0 P w K mg base (k + 1) C m qual st ps sp := by
  obtain ⟨p, f, fd, h1, h2⟩ := D.ex
  exact ⟨p, f, fd, h1, h2, h2.ok S len fun cdv A outer s H vs Q E hr h => by
    obtain ⟨t, a, b⟩ := hbody f cdv A outer s H vs Q E hr h
    exact ⟨t, a.nox, b⟩⟩
section
variable {X : Cx} {CX : CXT} {k : Nat} {C : Addr} {m qual : Str} {st : Stmt} {ps : List Str} {sp : Sp} {E : XK} {o e : Expr} {es : List Expr} {ta : TE} {t : TA} {apos pos : Pos} {pl : Sem Bool}
def tSm (C : Addr) (sp : Sp) (E : XK) (ta : TE) (t : TA) : TE := fun σ H Q => ta σ H fun x H1 => x = .ref C ∧ t σ H1 fun vs H2 => sp vs H2 Q E
theorem pe_sm (M : ClT CX X.prog X.w X.K X.mg X.base k C m qual st ps sp) (r : CRead X.K C (.type "type")) (hr : Room k X.A) (hx : Passes CX X E)
    (h : ∀ (kV doc pm : Value) (an : Option Addr) (cdv ct : Value) (us : List Value), us.length = ps.length → bindArgs (PySem.W.fnOf m qual (defArgs st) (defBody st) (defScope st) .none kV doc pm an cdv ct) ⟨us, []⟩ = pure (ps.zip us))
    (he : PE X o ta) (ha : PA X (e :: es) t)
    (hst : starEach (e :: es) X.env = (false, eval e X.env) :: starEach es X.env := by rfl) (hpl : (backTo pos (starEach es X.env)).any (·.1) = false := by rfl)
    (ht : eval (.Call (.Attribute o m apos) (e :: es) [] pos) X.env = (do
      let ov ← eval o X.env
      standAt apos.atName
      let (f, first) ← holding [ov] (getMethod ov m pl)
      callWith pos f first (backTo pos (starEach (e :: es) X.env)) (backToKw pos (keywordEach [] X.env))) := by rfl) :
    PE X (.Call (.Attribute o m apos) (e :: es) [] pos) (tSm C sp E ta t) := by
  obtain ⟨p, f, fd, c, h2, F⟩ := M.ex
  refine ⟨fun pins s σ H Q I h3 => ?_⟩
  refine PySem.W.methodCall_KW (pl := pl) (thn (he.run pins s σ H _ I h3) fun u s1 ⟨x, H1, I1, rx, ex, q⟩ => ?_) ht
  subst ex
  obtain rfl : u = Value.ref C := rx
  obtain ⟨rest, hp⟩ := c.rc
  refine PySem.W.method_cls I1.kIn r.ga (PySem.W.cls_bind I1.kIn r.rd c.at_ (wpAny_call (PySem.W.sm_get (s := { s1 with toks := s1.toks + 1 }) I1.kIn hp (PySem.W.handed_on rfl ?_))))
  refine PySem.W.callWith_K (first := []) (h₀ := X.base) I.ok.mod.kin c.kp (thn (ha.run pos pins _ σ H1 _ (I1.tok _) q) fun us s2 ⟨vs, H2, I2, rv, q2⟩ => ⟨I2.kIn, ?_⟩) hst hpl
  exact run_fn F hr (h2.bindsN h) .nil hx I2 rv (by rw [List.append_nil]; exact q2)
instance {σ : L2.St} {H : Hp} {Q : VK} : Step (tSm C sp E ta t σ H Q) (ta σ H fun x H1 => x = .ref C ∧ t σ H1 fun vs H2 => sp vs H2 Q E) := ⟨fun q => q⟩
instance {σ : L2.St} {H : Hp} {Q : VK} : Step (V.ref C = V.ref C ∧ t σ H fun vs H2 => sp vs H2 Q E) (t σ H fun vs H2 => sp vs H2 Q E) := ⟨fun q => ⟨rfl, q⟩⟩
end
end Gx

set_option linter.all false
set_option maxRecDepth 100000
set_option maxHeartbeats 2000000
/-! Gs: reversed lists in comprehensions, isqrt, lists of bools compared, the greatest of a list. -/
namespace Gx
open PySem PySem.Spec PyProof.Rows L2 _root_.ClX StX
/-! ### isqrt -/
section
variable {X : Cx} {K : PySem.W.Frag} {H : Hp} {Q : VK}
def rIsqrt : List V → Hp → VK → Prop := fun vs H Q => ∃ a : Int, vs = [.int a] ∧ 0 ≤ a ∧ a < 2 ^ 64 ∧ ∀ r : Int, 0 ≤ r → r * r ≤ a → a < (r + 1) * (r + 1) → Q (.int r) H
theorem callIsqrt : CallR X (.builtin "math.isqrt") rIsqrt := by
  intro pins s σ H vs us Q I r h
  obtain ⟨a, rfl, h0, h1, q⟩ := h
  obtain ⟨u, rfl, t, rfl⟩ := vals1 r
  obtain ⟨h2, h3⟩ := Float64.isqrt_spec a.toNat
  refine PySem.W.mg_isqrt h0 h1 ⟨.int _, H, I.tok _, ⟨_, rfl⟩, q _ (by omega) ?_ ?_⟩
  · have : ((Float64.isqrt a.toNat * Float64.isqrt a.toNat : Nat) : Int) ≤ (a.toNat : Int) := by exact_mod_cast h2
    rw [Int.natCast_mul] at this
    omega
  · have : (a.toNat : Int) < (((Float64.isqrt a.toNat + 1) * (Float64.isqrt a.toNat + 1) : Nat) : Int) := by exact_mod_cast h3
    rw [Int.natCast_mul] at this
    have e : ((Float64.isqrt a.toNat + 1 : Nat) : Int) = (Float64.isqrt a.toNat : Int) + 1 := rfl
    rw [e] at this
    omega
theorem g_isqrt {a : Int} (h : 0 ≤ a ∧ a < 2 ^ 64) (q : ∀ r : Int, 0 ≤ r → r * r ≤ a → a < (r + 1) * (r + 1) → Q (.int r) H) : rIsqrt [.int a] H Q := ⟨a, rfl, h.1, h.2, q⟩
end
/-! ### reversed -/
section
variable {K : PySem.W.Frag} {σ τ : L2.St} {H : Hp} {Q : VK} {ta : TA} {te : TE} {tt : TT} {g : TG}
theorem fd_rev {a : Addr} {xs : List V} : Feeds (Itv K a xs.length) xs.length (fun H => SqL K H a xs) (fun i H x H' => H' = H ∧ xs.reverse[i]? = some x) := by
  refine ⟨fun i H s h => ⟨h, xs, xs[xs.length - 1 - i], s, List.getElem?_eq_getElem (by omega)⟩, fun i H x H' s h y => ⟨y.1, ?_⟩, fun H s => Nat.le_refl _⟩
  rw [List.getElem?_reverse h]
  exact y.2 xs s
def rLcV (K : PySem.W.Frag) (us : List V) (g : TG) (tt : TT) (te : TE) (vs : List Nat) (σ : L2.St) (H : Hp) (Q : VK) : Prop := tLc (iRev K fun _ H R => R us H) g tt te vs σ H Q
instance {vs : List Nat} : Step (tLc (iRev K ta) g tt te vs σ H Q) (ta σ H fun us H1 => rLcV K us g tt te vs σ H1 Q) := ⟨fun q => q⟩
theorem lcV_F {vs : List Nat} {a : Addr} {xs : List V} (F : Nat → List V) [hx : SqC K H a xs] [hw : Wipe σ vs τ] (hF : F 0 = []) (hz : ∀ i, i < xs.length → (F i).length < 100000)
    (hs : ∀ D (i : Nat) x H', xs.reverse[i]? = some x → Nw H D → Ex H H' → At H' D (.lst (F i)) → (F i).length < 100000 → g x τ H' fun σ2 H2 => wipe σ2 vs = τ ∧ tt σ2 H2 fun b H3 =>
      if b = true then te σ2 H3 (rApp D (rW D fun ac H5 => Ex H H5 ∧ ac = F (i + 1))) else rW D (fun ac H5 => Ex H H5 ∧ ac = F (i + 1)) H3)
    (hd : ∀ D H', Nw H D → Ex H H' → At H' D (.lst (F xs.length)) → Q (.ref D) H') : rLcV K [.ref a] g tt te vs σ H Q :=
  ⟨a, xs, rfl, hx.sq, lc_F fd_rev F hF (fun _ e => e.l hx.sq) hz (fun D i H' x H'' hi hD e hp z y => by
    obtain ⟨rfl, y⟩ := y
    exact hs D i x _ y hD e hp z) hd⟩
theorem pi_revK {X : Cx} {K : PySem.W.Frag} {tg : Expr} {e : Expr} {ta : TA} {p pos : Pos} (h : X.K = K) (hg : Gl X "reversed") (hm : X.mg "reversed" = none) (ha : PA X [e] ta) (hs : starEach [e] X.env = [(false, eval e X.env)] := by rfl) : PI X tg (.Call (.Name "reversed" p) [e] [] pos) (iRev K ta) := h ▸ pi_reversed hg hm ha hs
/-- a comprehension that keeps some and turns them: what comes out -/
def fm (p : Int → Bool) (f : Int → Int) (ns : List Int) : List Int := (ns.filter p).map f
theorem fm_take {p : Int → Bool} {f : Int → Int} {ns : List Int} {i : Nat} {x : Int} (h : ns[i]? = some x) : fm p f (ns.take (i + 1)) = if p x = true then fm p f (ns.take i) ++ [f x] else fm p f (ns.take i) := by
  unfold fm
  rw [List.take_succ, h, List.filter_append, List.map_append]
  by_cases z : p x = true
  · simp [z]
  · simp [z]
theorem fm_len {p : Int → Bool} {f : Int → Int} {ns : List Int} {i : Nat} : (fm p f (ns.take i)).length ≤ ns.length := by
  unfold fm
  rw [List.length_map]
  exact Nat.le_trans (List.length_filter_le ..) (by rw [List.length_take]; omega)
end
/-! ### the greatest of a list -/
def IsMax (ns : List Int) (m : Int) : Prop := m ∈ ns ∧ ∀ y ∈ ns, y ≤ m
theorem g_max {K : PySem.W.Frag} {H : Hp} {Q : VK} {p : Addr} {ns : List Int} [h : SqC K H p (ns.map V.int)] (h0 : 0 < ns.length) (q : ∀ m, IsMax ns m → Q (.int m) H) : rMax K [.ref p] H Q := ⟨p, ns, rfl, h.sq, h0, fun m h1 h2 => q m ⟨h1, h2⟩⟩
/-! ### calls with keywords where places have defaults -/
section
variable {X : Cx} {CX : CXT} {k n : Nat} {ps ks : List Str} {sp : Sp} {E : L2.St → XK} {x : Str} {p pos : Pos} {e : Expr} {es : List Expr} {kw : List Keyword} {t tk : TA} {st : Stmt} {dvs : List V} {kws : List (Str × V)}
theorem pe_gkd (C : ClG CX X.prog X.w X.K X.mg X.base k x st ps dvs kws sp) (hr : Room k X.A) (hx : ∀ σ, PassesAt CX X σ (E σ)) (n : Nat) (ks : List Str) (ms : List (Str × V)) (g : {α : Type} → List α → List α → List α → List α → List α) (hd : dvs ≠ []) (hk : kws ≠ []) (hms : ∀ q ∈ ms, q ∈ kws)
    (hrel : ∀ {vs ds mz zs : List V} {us its mv ws : List Value}, Vals vs us → Vals ds its → Vals mz mv → Vals zs ws → Vals (g vs ds mz zs) (g us its mv ws))
    (h : ∀ (T D : Addr) (doc pm : Value) (an : Option Addr) (cdv ct : Value) (us its mv ws : List Value), us.length = n → its.length = dvs.length → mv.length = ms.length → ws.length = ks.length →
      ∃ k, bindArgs (PySem.W.fnOf x x (defArgs st) (defBody st) (defScope st) (.ref T) (.ref D) doc pm an cdv ct) ⟨us, ks.zip ws⟩ = seqItems? (.ref T) >>= k ∧ KwChain D ((ms.map (·.1)).zip mv) (k (some its.toArray)) (ps.zip (g us its mv ws)))
    (ha : PA X (e :: es) t) (hkw : PK X kw tk) (hg : Gl X x := by rfl) (hall : (backToKw pos (keywordEach kw X.env)).all (·.1.isSome) = true := by rfl) (hks : (backToKw pos (keywordEach kw X.env)).filterMap (·.1) = ks := by rfl)
    (hdb : (x == ("__debug__" : Str)) = false := by decide) (he : starEach (e :: es) X.env = (false, eval e X.env) :: starEach es X.env := by rfl)
    (hpl : ((backTo pos (starEach (e :: es) X.env)).any (·.1) || (backToKw pos (keywordEach kw X.env)).any (·.1.isNone)) = false := by rfl) :
    PE X (.Call (.Name x p) (e :: es) kw pos) (tCallNS n ks.length sp (fun vs zs => g vs dvs (ms.map (·.2)) zs) E t tk) := by
  obtain ⟨f, fd, h1, h2, h4⟩ := C.ex
  obtain ⟨its, mv, b⟩ := h2.kbinds n ks ms g hd hk hms hrel h
  exact pe_callNS h4 hr hg h1 h2.kp b hx ha hkw hall hks hdb he hpl
end
/-! ### len of a Round -/
section
variable {K : PySem.W.Frag} {H : Hp} {Q : VK} {C a : Addr} {bs : List Int} {sp : Sp} {E : XK}
instance [h : RdC C H a bs] : Step (rOwnLen C sp E [.ref a] H Q) (sp [.ref a] H (fun v H' => (∃ n : Nat, v = .int n ∧ n < 2 ^ 60) ∧ Q v H') E) := ⟨fun q => by
  obtain ⟨dx, p, h1, _⟩ := h.ex
  exact ⟨a, dx, _, rfl, h1, q⟩⟩
/-- __len__'s spec -/
def spLen (C : Addr) : Sp := fun vs H Q _ => ∃ (a : Addr) (bs : List Int), vs = [.ref a] ∧ RdC C H a bs ∧ Q (.int (bs.length : Nat)) H
theorem use_len [h : RdC C H a bs] (hl : bs.length ≤ 1000) (q : Q (.int (bs.length : Nat)) H) : spLen C [.ref a] H (fun v H' => (∃ n : Nat, v = .int n ∧ n < 2 ^ 60) ∧ Q v H') E := ⟨a, bs, rfl, h, ⟨_, rfl, by omega⟩, q⟩
end
/-! ### lists of bools compared -/
section
variable {K : PySem.W.Frag} {H : Hp} {Q : VK}
theorem ev3 {a b c d e f : Bool} : PyData.eqv (.list [.bool a, .bool b, .bool c]) (.list [.bool d, .bool e, .bool f]) = ((a == d) && ((b == e) && (c == f))) := by
  cases a <;> cases b <;> cases c <;> cases d <;> cases e <;> cases f <;> rfl
end
end Gx

set_option linter.all false
set_option maxRecDepth 100000
set_option maxHeartbeats 2000000
/-! Gf: promises of defs that are asked with no guard on the stack (they may ask for repr of a list). -/
namespace Gx
open PySem PySem.Spec PyProof.Rows L2
/-- as FnOk, asked for stacks without a guard alone -/
structure FnG (P : Program) (w : World) (K : PySem.W.Frag) (mg : Str → Option Value) (base : Heap) (CX : CXT) (k : Nat) (f : Addr) (fd : FuncData) (ps : List Str) (sp : Sp) : Prop where
  many : ∀ vs H Q E, sp vs H Q E → vs.length = ps.length
  goes : ∀ (A : Around) (out : List Env) (st : Shared) (H : Hp) (ar : Args) (us : List Value) (vs : List V) (Q : VK) (E : XK), A.guards = some [] → Room k A → Env0 P w K mg base A out st H → BindsTo st fd ar (ps.zip us) → Vals vs us →
    sp vs H Q E → codeAny (model P w) A (.call (.ref f) ar) (CR CX out P w H st Q E) st
section
variable {P : Program} {w : World} {K : PySem.W.Frag} {mg : Str → Option Value} {base : Heap} {CX : CXT} {k : Nat} {ps : List Str} {sp : Sp}
theorem FnG.of {f : Addr} {fd : FuncData} (F : FnOk P w K mg base CX k f fd ps sp) : FnG P w K mg base CX k f fd ps sp := ⟨F.len, fun A out st H ar us vs Q E _ => F.run A out st H ar us vs Q E⟩
/-- a function's end, from the body's -/
theorem ce_of {X : Cx} {out : List Env} {H H' : Hp} {st st' : Shared} {Q : VK} {σ' : L2.St} {v : V} {u : Value} {P : Program} {w : World} (e1 : X.outer = out) (e2 : X.s_0 = st) (e3 : X.H_0 = H) (e4 : X.prog = P) (e5 : X.w = w) (e6 : X.ex = []) (J : Inv X [] σ' H' st') (rv : RelV v u) (q : Q v H') : CE out P w H st Q u st' := by
  subst e1 e2 e3 e4 e5
  refine ⟨v, H', J.os, J.bare, ?_, J.hok, rv, q⟩
  have b := J.base
  rw [e6] at b
  exact b
theorem fnG_of {f : Addr} {nm qn : Str} {pr : Arguments} {bd : List Stmt} {sc : Scope} {dV kV doc pm cdv ct oc : Value} {an od : Option Addr} {osl : Array (Option Value)} {N : List Str}
    (lk : K.lookup f = some ⟨oc, od, .func (PySem.W.fnOf nm qn pr bd sc dV kV doc pm an cdv ct), osl⟩) (hcd : PySem.W.codeIn K cdv qn = true) (S : FnScope N ps sc) (many : ∀ vs H Q E, sp vs H Q E → vs.length = ps.length)
    (inside : ∀ (A : Around) (out : List Env) (st : Shared) (H : Hp) (vs : List V) (Q : VK) (E : XK), A.guards = some [] → Room k (A.deeper (envOfC qn sc st.heap.objs.size f cdv)) → sp vs H Q E →
      ∃ t, PSs (cxOf CX P w K mg base N qn sc f cdv A out st H E) bd t ∧ t { nx := fun _ H' => Q .non H', rt := Q } (start N vs) H) :
    FnG P w K mg base CX (k + 1) f (PySem.W.fnOf nm qn pr bd sc dV kV doc pm an cdv ct) ps sp := by
  constructor
  · exact many
  intro A out st H ar us vs Q E noG room env binds rel asked
  have same : ∀ b o, base.get? b = some o → st.heap.get? b = some o := fun b o q => (env.bs b o q).1
  have kin : K.In st.heap := env.mod.kin.keeps same
  have free : st.heap.NoLimit := env.mod.nolimit.keeps same
  refine codeAny_call_function room.depth (kin _ _ lk) rfl S.co S.gen rfl (PySem.W.codeRec_of kin hcd) (binds _ _ _ _ (wpAny_newFunctionEnv_cells S.kind ?slots fun e he st1 x => ?run))
  case slots =>
    rintro ⟨y, u⟩ hy
    exact (S.par y (List.of_mem_zip hy).1).imp id fun q => ⟨q, PySem.W.cellsFrom_some _ _ _ (.inl q)⟩
  case run =>
    subst he
    obtain ⟨t, reads, told⟩ := inside A out st H vs Q E noG (room.deeper _) asked
    refine ⟨free.keeps x.toInCall.keep, codeAny_func (wpAny_mono (reads.run [] st1 (start N vs) H _ (inv_start S room.hd env (many _ _ _ _ asked) rel x) told) (fun fl st2 hs => ?_) fun e st2 hs => hs)⟩
    match fl, hs with
    | .ret u, ⟨v, σ', H', J, rv, q⟩ => exact ce_of rfl rfl rfl rfl rfl rfl J rv q
    | .next, ⟨σ', H', J, q⟩ => exact ce_of (v := V.non) (u := Value.none) rfl rfl rfl rfl rfl rfl J rfl q
    | .brk, ⟨_, _, _, q⟩ => exact q.elim
    | .cont, ⟨_, _, _, q⟩ => exact q.elim
end
/-- .. may be called where no guard is on the stack -/
structure ClGG (CX : CXT) (P : Program) (w : World) (K : PySem.W.Frag) (mg : Str → Option Value) (base : Heap) (k : Nat) (x : Str) (st : Stmt) (ps : List Str) (dvs : List V) (kws : List (Str × V)) (sp : Sp) : Prop where
  ex : ∃ (f : Addr) (fd : FuncData), mg x = some (.ref f) ∧ FunD K x x (defArgs st) (defBody st) (defScope st) dvs kws f fd ∧ FnG P w K mg base CX k f fd ps sp
section
variable {P : Program} {w : World} {K : PySem.W.Frag} {mg : Str → Option Value} {base : Heap} {k : Nat} {x : Str} {st : Stmt} {ps N : List Str} {dvs : List V} {kws : List (Str × V)} {sp : Sp}
theorem FunD.okG {f : Addr} {fd : FuncData} (F : FunD K x x (defArgs st) (defBody st) (defScope st) dvs kws f fd) (S : FnScope N ps (defScope st)) (many : ∀ vs H Q E, sp vs H Q E → vs.length = ps.length)
    (inside : ∀ (cdv : Value) (A : Around) (out : List Env) (s : Shared) (H : Hp) (vs : List V) (Q : VK) (E : XK), A.guards = some [] → Room k (A.deeper (envOfC x (defScope st) s.heap.objs.size f cdv)) → sp vs H Q E →
      ∃ t, PSs (cxOf CX0 P w K mg base N x (defScope st) f cdv A out s H E).nox (defBody st) t ∧ t { nx := fun _ H' => Q .non H', rt := Q } (start N vs) H) : FnG P w K mg base CX0 (k + 1) f fd ps sp := by
  obtain ⟨oc, od, dV, kV, doc, pm, an, cdv, ct, osl, rfl, lk, hcd, _, _⟩ := F.ex
  refine fnG_of lk hcd S many fun A out s H vs Q E g r h => ?_
  obtain ⟨t, a, b⟩ := inside cdv A out s H vs Q E g r h
  exact ⟨t, a.nox, b⟩
theorem DfG.okG (D : DfG K mg x st dvs kws) (S : FnScope N ps (defScope st)) (many : ∀ vs H Q E, sp vs H Q E → vs.length = ps.length)
    (inside : ∀ (f : Addr) (cdv : Value) (A : Around) (out : List Env) (s : Shared) (H : Hp) (vs : List V) (Q : VK) (E : XK), A.guards = some [] → Room k (A.deeper (envOfC x (defScope st) s.heap.objs.size f cdv)) → sp vs H Q E →
      ∃ t, PSs (cxOf CX0 P w K mg base N x (defScope st) f cdv A out s H E).nox (defBody st) t ∧ t { nx := fun _ H' => Q .non H', rt := Q } (start N vs) H) : ClGG CX0 P w K mg base (k + 1) x st ps dvs kws sp := by
  obtain ⟨f, fd, h1, h2⟩ := D.ex
  exact ⟨f, fd, h1, h2, FunD.okG h2 S many fun cdv A out s H vs Q E => inside f cdv A out s H vs Q E⟩
end
section
variable {X : Cx} {CX : CXT} {k : Nat} {ps : List Str} {sp : Sp} {E : L2.St → XK} {x : Str} {p pos : Pos} {e : Expr} {es : List Expr} {t : TA} {st : Stmt} {kws : List (Str × V)}
/-- every parameter given by place -/
theorem pe_gG (C : ClGG CX X.prog X.w X.K X.mg X.base k x st ps [] kws sp) (hr : Room k X.A) (hgd : X.A.guards = some []) (hx : ∀ σ, PassesAt CX X σ (E σ))
    (h : ∀ (kV doc pm : Value) (an : Option Addr) (cdv ct : Value) (us : List Value), us.length = ps.length → bindArgs (PySem.W.fnOf x x (defArgs st) (defBody st) (defScope st) .none kV doc pm an cdv ct) ⟨us, []⟩ = pure (ps.zip us))
    (ha : PA X (e :: es) t) (hg : Gl X x := by rfl) (hdb : (x == ("__debug__" : Str)) = false := by decide)
    (he : starEach (e :: es) X.env = (false, eval e X.env) :: starEach es X.env := by rfl) (hpl : (backTo pos (starEach es X.env)).any (·.1) = false := by rfl) :
    PE X (.Call (.Name x p) (e :: es) [] pos) (tCallSD sp [] E t) := by
  obtain ⟨f, fd, h1, h2, F⟩ := C.ex
  refine ⟨fun pins s σ H Q I hh => wpAny_Call_Name_kw (ld_glob I hg h1 ?_ hdb)⟩
  refine PySem.W.callWith_K (h₀ := X.base) I.ok.mod.kin h2.kp (thn (ha.run pos pins s σ H _ I hh) fun us s1 ⟨vs, H1, J, r, q⟩ => ⟨J.kIn, ?_⟩) he hpl
  have q : sp vs H1 Q (E σ) := by rw [← List.append_nil vs]; exact q
  have hl : us.length = ps.length := r.length.symm.trans (F.many _ _ _ _ q)
  have b := (h2.bindsN h) s1 us J.kIn (by rw [List.append_nil]; exact hl)
  rw [List.append_nil] at b
  refine wpAny_call (codeAny_mono (F.goes X.A X.stack s1 H1 ⟨us, []⟩ us vs Q (E σ) hgd hr J.env0 b r q) fun z s2 hz => ?_)
  match z, hz with
  | .error y, hz => exact hx σ pins H1 s1 y s2 J hz
  | .ok (.ret u), hz => exact J.after hz
  | .ok .next, hz => exact hz.elim
  | .ok .brk, hz => exact hz.elim
  | .ok .cont, hz => exact hz.elim
end

/-! ### repr -/
theorem textFrom_le : ∀ (ts : List Str) (k : Nat) (acc : Str), (textFrom k acc ts).length ≤ acc.length + piled ts
  | [], _, _ => Nat.le_add_right _ _
  | t :: r, k, acc => by
    refine Nat.le_trans (textFrom_le r (k + 1) _) ?_
    rw [piled_cons, Str.length_append, Str.length_append]
    have h2 : (if k > 0 then ", " else "" : String).length ≤ 2 := by split <;> decide
    have h3 : ((if k > 0 then ", " else "" : String) : Str).length ≤ 2 := by split <;> decide
    omega
theorem listText_le (ts : List Str) : (listText ts).length ≤ piled ts + 2 := by
  unfold listText
  have h := textFrom_le ts 0 "["
  rw [Str.length_append]
  have e1 : ("[" : Str).length = 1 := by decide
  have e2 : ("]" : Str).length = 1 := by decide
  omega
theorem piled_le {m : Nat} : ∀ (ts : List Str), (∀ t ∈ ts, t.length ≤ m) → piled ts ≤ ts.length * (m + 2)
  | [], _ => by simp [piled]
  | t :: r, h => by
    have h1 := h t (List.mem_cons_self ..)
    have h2 := piled_le r fun u hu => h u (List.mem_cons_of_mem _ hu)
    rw [piled_cons, List.length_cons, Nat.succ_mul]
    omega
/-- what repr shows of this data fits -/
structure ShowOk (d : PyData) : Prop where
  ok : d.showable = true
  nd : d.hasDict = false
  dp : d.depth ≤ 60
  sz : d.shown.length ≤ sizeLine
def rRepr (K : PySem.W.Frag) (xs : List V) (H : Hp) (Q : VK) : Prop := ∃ v d, xs = [v] ∧ Dp K H v d ∧ ShowOk d ∧ Q (.str d.shown) H
theorem callRepr {X : Cx} {K : PySem.W.Frag} (hK : X.K = K) (noG : X.A.guards = some []) (room : X.A.units + 64 < cLine) : CallR X (.builtin "repr") (rRepr K) := by
  subst hK
  intro pins s σ H xs us Q I r h
  obtain ⟨v, d, rfl, hd, ⟨o1, o2, o3, o4⟩, q⟩ := h
  obtain ⟨u, rfl, rv⟩ := vals1 r
  cases hd with
  | non =>
    cases rv
    exact PySem.P.repr_of_none ⟨.str _, H, I.tok _, ⟨_, rfl⟩, q⟩
  | bl b =>
    cases rv
    exact PySem.P.repr_of_bool ⟨.str _, H, I.tok _, ⟨_, rfl⟩, q⟩
  | int i =>
    obtain ⟨t, rfl⟩ := rv
    exact PySem.P.repr_of_int (by simpa [PyData.showable] using o1) ⟨.str _, H, I.tok _, ⟨_, rfl⟩, q⟩
  | str z =>
    obtain ⟨t, rfl⟩ := rv
    exact PySem.P.repr_of_str (hsz := o4) ⟨.str _, H, I.tok _, ⟨_, rfl⟩, q⟩
  | lst h1 h2 =>
    obtain rfl : u = Value.ref _ := rv
    obtain ⟨as, rd⟩ := Dp.reads I _ _ _ (.lst h1 h2) (rfl : RelV (.ref _) (.ref _))
    exact repr_of_reads' rd o1 (fun z => by rw [o2] at z; cases z) noG (by omega) (fun _ _ e => e) (fun h' t tk hk => ⟨.str _, H, I.kept (t' := tk) hk, ⟨t, rfl⟩, q⟩) o4
  | tup h1 h2 =>
    obtain rfl : u = Value.ref _ := rv
    obtain ⟨as, rd⟩ := Dp.reads I _ _ _ (.tup h1 h2) (rfl : RelV (.ref _) (.ref _))
    exact repr_of_reads' rd o1 (fun z => by rw [o2] at z; cases z) noG (by omega) (fun _ _ e => e) (fun h' t tk hk => ⟨.str _, H, I.kept (t' := tk) hk, ⟨t, rfl⟩, q⟩) o4
theorem g_repr {K : PySem.W.Frag} {H : Hp} {Q : VK} {x : V} {d : PyData} [h : DatC K H x d] (ok : ShowOk d) (q : Q (.str d.shown) H) : rRepr K [x] H Q := ⟨x, d, rfl, h.dp, ok, q⟩
theorem shownAll_map (xs : List PyData) : PyData.shownAll xs = xs.map PyData.shown := by
  induction xs with
  | nil => rfl
  | cons x r ih => show x.shown :: PyData.shownAll r = _; rw [ih]; rfl
theorem showInts {ns : List Int} (h : ∀ n ∈ ns, n.natAbs.log2 < 1920) (hl : ns.length ≤ 1000) : ShowOk (.list (ns.map PyData.int)) := by
  refine ⟨?_, ?_, ?_, ?_⟩
  · show PyData.showableAll _ = true
    clear hl
    induction ns with
    | nil => rfl
    | cons n r ih =>
      show (PyData.showable (.int n) && PyData.showableAll (r.map PyData.int)) = true
      rw [ih fun m hm => h m (List.mem_cons_of_mem _ hm), Bool.and_true]
      simpa [PyData.showable] using h n (List.mem_cons_self ..)
  · show PyData.hasDictAll _ = false
    clear hl h
    induction ns with
    | nil => rfl
    | cons n r ih => show (PyData.hasDict (.int n) || PyData.hasDictAll (r.map PyData.int)) = false; rw [ih]; rfl
  · show PyData.depthAll _ + 1 ≤ 60
    have e : PyData.depthAll (ns.map PyData.int) ≤ 1 := by
      clear hl h
      induction ns with
      | nil => exact Nat.zero_le _
      | cons n r ih => show max (PyData.depth (.int n)) (PyData.depthAll (r.map PyData.int)) ≤ 1; exact Nat.max_le.mpr ⟨by simp [PyData.depth], ih⟩
    omega
  · show (listText (PyData.shownAll (ns.map PyData.int))).length ≤ sizeLine
    refine Nat.le_trans (listText_le _) ?_
    have hp := piled_le (m := 1921) (PyData.shownAll (ns.map PyData.int)) (fun t ht => by
      rw [shownAll_map, List.map_map] at ht
      obtain ⟨n, hn, rfl⟩ := List.mem_map.mp ht
      exact PyProof.Rows.int_text_len_1921 (h n hn))
    rw [shownAll_map, List.length_map, List.length_map] at hp
    rw [shownAll_map]
    have : ns.length * (1921 + 2) ≤ 1000 * 1923 := Nat.mul_le_mul_right _ hl
    exact Nat.le_trans (Nat.add_le_add_right (Nat.le_trans hp this) 2) (by decide)
/-! ### the law's call -/
section
variable {P : Program} {w : World} {K : PySem.W.Frag} {mg mb : Str → Option Value} {st : Shared} {a : Addr} {vs : List Value}
/-- at the head of a law nothing is tracked but perhaps the script, at a -/
theorem env_top {H : Hp} (kin : K.In st.heap) (gns : st.heap.Ns mainGlobals mg) (bns : st.heap.Ns builtinsNs mb) (boot : ∀ x : Str, x ≠ "__name__" → mb x = bootBuiltins x) (free : st.heap.NoLimit) (still : st.gens = #[])
    (at_a : st.heap.get? a = some { cls := .type "list", data := .seq vs.toArray }) (ok : HOk P w H st.heap) (only : ∀ b, b ≠ a → H b = none) (own : H a ≠ none → K.lookup a = none) :
    K.In (hidT st.heap H) ∧ (hidT st.heap H).Ns mainGlobals mg ∧ Env0 P w K mg (hidT st.heap H) callerA [] st H := by
  have ns_stays : ∀ {b : Addr} {m : Str → Option Value}, st.heap.Ns b m → (hidT st.heap H).Ns b m := by
    rintro b m ⟨o, es, ep, e, d, r⟩
    refine ⟨o, es, ep, hidT_get e (only b ?_), d, r⟩
    rintro rfl
    cases at_a.symm.trans e
    cases d
  have kin2 : K.In (hidT st.heap H) := by
    intro b o e
    by_cases hb : b = a
    · subst hb
      refine hidT_get (kin b o e) (Classical.byContradiction fun z => ?_)
      rw [own z] at e
      cases e
    · exact hidT_get (kin b o e) (only b hb)
  obtain ⟨mc, c1, c2⟩ := free
  exact ⟨kin2, ns_stays gns, rfl, ⟨kin2, ns_stays gns, ⟨mb, ns_stays bns, boot⟩, mc, ns_stays c1, c2⟩, fun _ _ => of_hidT, Nat.le_of_eq (hidT_size _ _), trivial, fun b hb => (List.not_mem_nil hb).elim, ok, .of_eq still⟩
theorem law_goes {CX : CXT} {k : Nat} {fa : Addr} {fd : FuncData} {x : Str} {sp : Sp} {ns : List Int} (kin : K.In st.heap) (gns : st.heap.Ns mainGlobals mg) (bns : st.heap.Ns builtinsNs mb) (boot : ∀ x : Str, x ≠ "__name__" → mb x = bootBuiltins x) (free : st.heap.NoLimit) (still : st.gens = #[])
    (at_a : st.heap.get? a = some { cls := .type "list", data := .seq vs.toArray }) (hi : IntsAre vs ns) (short : ns.length ≤ sizeLine) (room : Room k callerA)
    (F : ∀ base : Heap, K.In base → base.Ns mainGlobals mg → FnG P w K mg base CX k fa fd [x] sp) (binds : ∀ (s : Shared) (u : Value), BindsTo s fd ⟨[u], []⟩ [(x, u)])
    (asked : ∀ H : Hp, Only H → SqL K H a (ns.map V.int) → sp [.ref a] H (fun v _ => v = .bl true) fun _ _ _ => False) (noX : ∀ H e s', CX [] H st (fun _ _ _ => False) e s' → False) :
    codeAny (model P w) callerA (.call (.ref fa) ⟨[.ref a], []⟩) (fun r s' => r = .ok (.ret (.bool true)) ∧ OldK st.heap s'.heap ∧ s'.os = st.os ∧ AllBare s'.gens) st := by
  suffices run : ∀ H : Hp, Only H → SqL K H a (ns.map V.int) → HOk P w H st.heap → (∀ b, b ≠ a → H b = none) → (H a ≠ none → K.lookup a = none) →
      codeAny (model P w) callerA (.call (.ref fa) ⟨[.ref a], []⟩) (fun r s' => r = .ok (.ret (.bool true)) ∧ OldK st.heap s'.heap ∧ s'.os = st.os ∧ AllBare s'.gens) st by
    have rel := vals_ints hi
    cases hk : K.lookup a with
    | some o =>
      cases at_a.symm.trans (kin a o hk)
      exact run (fun _ => none) (fun _ => .inl rfl) (.inr ⟨_, vs.toArray, _, hk, rfl, rfl, rfl, by simpa [hi.length] using short, by simpa using rel⟩) (fun b u z => nomatch (z : (none : Option HO) = some u)) (fun _ _ => rfl) fun z => (z rfl).elim
    | none =>
      let H : Hp := fun b => if b = a then some (.frz { cls := .type "list", data := .seq vs.toArray } (.lst (ns.map V.int))) else none
      have here : H a = some (.frz { cls := .type "list", data := .seq vs.toArray } (.lst (ns.map V.int))) := if_pos rfl
      have else_ : ∀ b, b ≠ a → H b = none := fun b hb => if_neg hb
      refine run H (fun b => ?_) (.inl (.inr ⟨_, here⟩)) (fun b u z => ?_) else_ fun _ => hk
      · rcases Decidable.em (b = a) with rfl | hb
        · exact .inr ⟨_, _, here⟩
        · exact .inl (else_ b hb)
      · rcases Decidable.em (b = a) with rfl | hb
        · cases here.symm.trans z
          exact ⟨at_a, by simpa using short, vs, _, rel, at_a⟩
        · cases (else_ b hb).symm.trans z
  intro H frozen seen ok only own
  obtain ⟨k1, k2, env⟩ := env_top kin gns bns boot free still at_a ok only own
  refine codeAny_mono ((F _ k1 k2).goes callerA [] st H ⟨[.ref a], []⟩ [.ref a] [.ref a] _ _ rfl room env (binds st (.ref a)) (.cons rfl .nil) (asked H frozen seen)) fun r s' h => ?_
  match r, h with
  | .error e, h => exact (noX H e s' h).elim
  | .ok .next, h => exact h.elim
  | .ok .brk, h => exact h.elim
  | .ok .cont, h => exact h.elim
  | .ok (.ret u), ⟨v, H', os, bare, un, ok', rv, q⟩ =>
    obtain rfl : v = .bl true := q
    obtain rfl : u = Value.bool true := rv
    refine ⟨rfl, OldK.of_keep fun b o e => ?_, os, bare⟩
    rcases frozen b with z | ⟨ob, xs, z⟩
    · exact un.keep b o e z (fun y => (List.not_mem_nil y).elim) (fun y => (List.not_mem_nil y).elim)
    · have e1 := (ok b _ z).1
      cases e.symm.trans e1
      exact (ok' b _ (un.frzs b _ _ z)).1
end
theorem walk_ofG {l : PySem.W.OpenLaw} {n k : Nat} {q : Program} {loose : List Str} {XP : (Str → Option Value) → Heap → Prop} {YP : World → Heap → Prop} {d : DefRec} {K : Params → PySem.W.Frag} {CX : World → CXT} {sp : World → Sp} {x : Str}
    (most : l.most = some n) (small : n ≤ sizeLine) (hdf : d.params.defaults = []) (room : Room k callerA) (hY : ∀ (w : World) (h : Heap), YP w h → (K w.params).In h)
    (F : ∀ (w : World) (mg : Str → Option Value) (fa : Addr) (h : Heap), (K w.params).In h → h.Ns mainGlobals mg → mg d.name = some (.ref fa) →
      ∃ fd : FuncData, (∀ (s : Shared) (u : Value), BindsTo s fd ⟨[u], []⟩ [(x, u)]) ∧ ∀ base : Heap, (K w.params).In base → base.Ns mainGlobals mg → FnG l.prog w (K w.params) mg base (CX w) k fa fd [x] (sp w))
    (asked : ∀ (w : World) (H : Hp) (a : Addr) (ns : List Int), ns.length ≤ n → (∀ z ∈ ns, Builtin.Int.intBits z ≤ 1048576) → Only H → SqL (K w.params) H a (ns.map V.int) → sp w [.ref a] H (fun v _ => v = .bl true) fun _ _ _ => False)
    (noX : ∀ (w : World) (H : Hp) (s : Shared) (e : Value) (s' : Shared), CX w [] H s (fun _ _ _ => False) e s' → False) :
    PySem.W.WalkO q loose XP YP l.row.toRowW d [] (fun f vs => PySem.call f vs) := by
  refine Att.attach_callB most hdf fun w s0 st mg mb fa o pm cd doc a vs ns G Y _ _ _ hmg at_a hi len bits still => ?_
  have kin := hY w _ Y
  obtain ⟨fd, hb, hF⟩ := F w mg fa _ kin G.T.g hmg
  exact law_goes kin G.T.g G.T.b G.T.builtins G.T.nolimit still at_a hi (Nat.le_trans len small) room hF hb (fun H => asked w H a ns len bits) fun H e s' => noX w H st e s'
end Gx


set_option Elab.async false
set_option linter.all false
set_option maxRecDepth 100000
set_option maxHeartbeats 4000000
set_option pp.deepTerms false
set_option pp.maxSteps 300
namespace Toy
open PySem PySem.Spec PyProof.Rows L2 Gx
open L2H (RoomH roomH_mark cxH)
def top (i : Nat) : Stmt := PySem.Challenge.pw_carrylog_k00_round_sums.main.body.getD i (.Pass ⟨0, 0, 0, 0⟩)
section
variable {P : Program} {w : World} {K : PySem.W.Frag} {mg : Str → Option Value} {base : Heap}

set_option synthInstance.maxHeartbeats 400000
set_option synthInstance.maxSize 4000
local macro_rules | `(tactic| walk_at "szt") => `(tactic| first | assumption | exact Nat.le_of_ble_eq_true rfl | omega | (simp only [List.length_append, List.length_cons, List.length_nil, List.length_map, List.length_replicate, List.length_take, List.length_drop]; omega))
local macro_rules | `(tactic| walk_at "call") => `(tactic| fail)
local macro_rules | `(tactic| walk_at "go1") => `(tactic| first
  | refine Gx.Step.run ?_
  | ((with_reducible show Gx.rAdd _ _ _ _ _); first
    | with_reducible refine Gx.g_addT (by walk_at "szt") ?_
    | (with_reducible refine Gx.g_cat (by walk_at "szt") ?_; intro p_ H_ np_ e_ hp_))
  | ((with_reducible show Gx.rMul _ _ _ _ _); first
    | with_reducible refine Gx.g_mulT (by omega) ?_
    | with_reducible refine Gx.g_mulR (by omega) ?_
    | with_reducible refine Gx.g_mulL (by omega) ?_
    | with_reducible refine Gx.g_mulS (by omega) ?_
    | with_reducible refine Gx.g_mulX (Gx.mulx128 (by omega) (by omega)) ?_)
  | ((with_reducible show Gx.rMod _ _ _ _); with_reducible refine Gx.g_mod (by omega) ?_)
  | ((with_reducible show Gx.rDiv _ _ _ _); with_reducible refine Gx.g_div (Gx.cdivW (by omega) (by omega)) ?_)
  | ((with_reducible show L2.rIx _ _ _ _ _); first
    | with_reducible refine Gx.g_ixL (by with_unfolding_all rfl) ?_
    | with_reducible refine Gx.g_ixIN (by omega) ?_
    | with_reducible refine Gx.g_ixI (by omega) (by omega) ?_
    | with_reducible refine Gx.g_ixTx (by walk_at "szt") (by with_unfolding_all rfl) ?_
    | with_reducible refine Gx.g_ixT (by with_unfolding_all rfl) ?_)
  | ((with_reducible show Gx.rLen _ _ _ _); first
    | with_reducible refine Gx.g_lenT (by walk_at "szt") ?_
    | with_reducible refine Gx.g_len (Gx.len_s (by omega)) ?_)
  | ((with_reducible show Gx.rLstripC _ _ _ _); with_reducible refine Gx.g_lstrip0 (by walk_at "szt") ?_)
  | ((with_reducible show Gx.rStripC _ _ _ _); with_reducible refine Gx.g_strip01 (by walk_at "szt") ?_)
  | ((with_reducible show Gx.rNewL _ _ _); (with_reducible refine Gx.g_newL (by walk_at "szt") ?_; intro p_ H_ np_ e_ hp_))
  | ((with_reducible show Gx.rNewT _ _ _); (with_reducible refine Gx.g_newT (by walk_at "szt") ?_; intro p_ H_ np_ e_ hp_))
  | ((with_reducible show Gx.rSlX _ _ _ _ _ _); first
    | with_reducible refine Gx.g_slT (by walk_at "szt") ?_
    | (with_reducible refine Gx.g_slL ?_; intro p_ H_ np_ e_ hp_))
  | ((with_reducible show Gx.rListOf _ _ _ _); (with_reducible refine Gx.g_listOf ?_; intro p_ H_ np_ e_ hp_))
  | ((with_reducible show Gx.rRevL _ _ _ _); (with_reducible refine Gx.g_revL ?_; intro p_ H_ np_ e_ hp_))
  | ((with_reducible show L2.rSetL _ _ _ _ _); (with_reducible refine Gx.g_setI (by omega) (by omega) ?_; intro H_ e_ hp_))
  | ((with_reducible show L2.rSetL _ _ _ _ _); (with_reducible refine Gx.g_set (by with_unfolding_all rfl) ?_; intro H_ e_ hp_; try simp only [Int.reduceToNat, List.set_cons_zero, List.set_cons_succ] at hp_))
  | ((with_reducible show L2.rAppend _ _ _ _); (with_reducible refine Gx.g_app (by walk_at "szt") ?_; intro H_ e_ hp_))
  | ((with_reducible show Gx.rPow _ _ _ _); with_reducible refine Gx.g_pow (Gx.cpow_ok (by decide) (by decide) (by decide)) (by simp only [Int.reduceToNat, Int.reducePow]; exact rfl) ?_)
  | ((with_reducible show Gx.rApp _ _ _ _); (with_reducible refine Gx.g_rapp (by walk_at "szt") ?_; intro H_ e_ hp_))
  | ((with_reducible show L2.rSum _ _ _ _); (with_reducible refine Gx.g_sum ?_))
  | ((with_reducible show Gx.rStr _ _ _); (with_reducible refine Gx.g_str (by omega) ?_; intro hz_))
  | ((with_reducible show (L2.wipe _ _ = _ ∧ _)); refine ⟨rfl, ?_⟩)
  | ((with_reducible show L2.rAll _ _ _ _); first | refine Gx.g_allT ?_ | refine Gx.g_all ?_)
  | ((with_reducible show (List.length _ = _ ∧ List.length _ = _ ∧ _)); refine ⟨rfl, rfl, ?_⟩)
  | ((with_reducible show L2.gTup _ _ _ _ _ _ _); first
    | (refine Gx.g_pair (by assumption) ?_; intro T_ np_ e_ hp_)
    | refine Gx.g_gtup (by rfl) ?_)
  | walk_at "call")
local macro_rules | `(tactic| walk_at "go") => `(tactic| repeat walk_at "go1")
local macro_rules | `(tactic| walk_at "if1") => `(tactic| first
  | with_reducible refine Gx.g_ite (fun hI => ?_) (fun hI => ?_)
  | with_reducible refine Gx.g_iteN (fun hI => ?_) (fun hI => ?_)
  | with_reducible refine Gx.g_itB (fun hI => ?_) (fun hI => ?_)
  | with_reducible refine Gx.g_itNB (fun hI => ?_) (fun hI => ?_))
local macro_rules | `(tactic| walk_at "dead") => `(tactic| first | (exfalso; omega) | contradiction)
local macro_rules | `(tactic| walk_at "gos") => `(tactic| (walk_at "go"; first | (walk_at "if1" <;> first | walk_at "dead" | walk_at "gos") | skip))


variable {c_Round : Addr}
local macro_rules | `(tactic| walk_at "call") => `(tactic| first
  | ((with_reducible show Gx.rMeth _ _ _ _ _ _ _ _ _ _); refine Gx.g_rmeth (by decide) ?_)
  | ((with_reducible show Gx.rFld _ _ _ _ _); refine Gx.g_fldB (Gx.RdF.c (by assumption)) (Gx.RdF.nb (by assumption)) ?_; intro t_ ht_)
  | ((with_reducible show Gx.rCVal _ _ _ _ _); refine Gx.g_most (by assumption) ?_)
  | ((with_reducible show Gx.rMkR _ _ _ _ _); refine Gx.g_mkR (by omega) (by assumption) ?_; intro a_ H_ np_ e_ hR_)
  | ((with_reducible show Gx.rAdd _ _ _ _ _); refine Gx.g_catT (by omega) ?_; intro p_ H_ e_ hp_)
  | ((with_reducible show Gx.rSlX _ _ _ _ _ _); refine Gx.g_slTup ?_; intro p_ H_ e_ hp_)
  | ((with_reducible show L2.rIx _ _ _ _ _); refine Gx.g_ixTI (by omega) (by omega) ?_)
  | ((with_reducible show Gx.rListOf _ _ _ _); refine Gx.g_listOfT ?_; intro p_ H_ np_ e_ hp_)
  | ((with_reducible show Gx.rTupOf _ _ _ _); refine Gx.g_tupOfL ?_; intro p_ H_ np_ e_ hp_)
  | ((with_reducible show Gx.rDivmod _ _ _); refine Gx.g_divmod (by walk_at "divp") ?_; intro p_ H_ np_ e_ hp_))
local macro_rules | `(tactic| walk_at "call") => `(tactic| ((with_reducible show L2.rIsi _ _ _ _); refine Gx.g_isR (by assumption) ?_))
local macro_rules | `(tactic| walk_at "divp") => `(tactic| exact Gx.cdivP (by omega) (by omega))

def spAtl : Sp := fun vs H Q _ => ∃ (v m : Int) (z : Str), vs = [.int v, .int m, .str z] ∧ m ≤ v ∧ Q .non H
def spWhole : Sp := fun vs H Q _ => ∃ (v : Int) (z : Str), vs = [.int v, .str z] ∧ Q .non H
abbrev s_at_least : Stmt := (top 5)
abbrev N_at_least : List Str := ["value", "least", "field"]
theorem sc_at_least : FnScope N_at_least ["value", "least", "field"] (defScope s_at_least) := ⟨rfl, rfl, rfl, by decide +kernel, rfl, by decide +kernel, by decide +kernel⟩
theorem cl_at_least (T : Bl mg) (R : RdF K mg c_Round) (D : DfG K mg "at_least" s_at_least [] [])  : ClG CX0 P w K mg base 3 "at_least" s_at_least ["value", "least", "field"] [] [] spAtl := by
  have nd := sc_at_least.nd
  refine D.okP sc_at_least (fun vs H Q E h => ?_) (fun f cdv A outer s H vs Q E hr h => ?_)
  · obtain ⟨v, m, z, rfl, _⟩ := h
    rfl
  · obtain ⟨v, m, z, rfl, h, k⟩ := h
    have hu := hu64 hr
    refine ⟨_, (pss_one (ps_if (pt_cmpR opLt (pv 0) (pv 1) (nomark _))
      (pss_one ps_never)
      pss_nil)), ?_⟩
    try dsimp only [L2.cxOf, L2.Cx.nox]
    simp only [L2.start, N_at_least, List.map_cons, List.map_nil, List.length_cons, List.length_nil, Nat.reduceAdd, Nat.reduceSub, List.replicate_succ, List.replicate_zero, List.cons_append, List.nil_append]

    walk_at "gos"
    exact k
abbrev s_whole_number : Stmt := (top 6)
abbrev N_whole_number : List Str := ["value", "field"]
theorem sc_whole_number : FnScope N_whole_number ["value", "field"] (defScope s_whole_number) := ⟨rfl, rfl, rfl, by decide +kernel, rfl, by decide +kernel, by decide +kernel⟩
theorem cl_whole_number (T : Bl mg) (R : RdF K mg c_Round) (D : DfG K mg "whole_number" s_whole_number [] [])  : ClG CX0 P w K mg base 3 "whole_number" s_whole_number ["value", "field"] [] [] spWhole := by
  have nd := sc_whole_number.nd
  refine D.okP sc_whole_number (fun vs H Q E h => ?_) (fun f cdv A outer s H vs Q E hr h => ?_)
  · obtain ⟨v, z, rfl, _⟩ := h
    rfl
  · obtain ⟨v, z, rfl, k⟩ := h
    have hu := hu64 hr
    refine ⟨_, (pss_one (ps_if (PW.pt (pw_or (pt_val (pe_callB (callIsiK (K := K) (by rfl)) (by rfl) T.isinstance (by decide +kernel) (pa_cons (pv 0) (pa_cons (pe_bltn (v := .ty "bool") (by rfl) T.bool (by decide +kernel) rfl) pa_nil)))) (pw_or1 (pt_not (pt_val (pe_callB (callIsiK (K := K) (by rfl)) (by rfl) T.isinstance (by decide +kernel) (pa_cons (pv 0) (pa_cons (pe_bltn (v := .ty "int") (by rfl) T.int (by decide +kernel) rfl) pa_nil))))))))
      (pss_one ps_never)
      pss_nil)), ?_⟩
    try dsimp only [L2.cxOf, L2.Cx.nox]
    simp only [L2.start, N_whole_number, List.map_cons, List.map_nil, List.length_cons, List.length_nil, Nat.reduceAdd, Nat.reduceSub, List.replicate_succ, List.replicate_zero, List.cons_append, List.nil_append]

    walk_at "gos"
    exact k
local macro_rules | `(tactic| walk_at "call") => `(tactic| first
  | ((with_reducible show spAtl _ _ _ _); refine ⟨_, _, _, rfl, by omega, ?_⟩)
  | ((with_reducible show spWhole _ _ _ _); refine ⟨_, _, rfl, ?_⟩))
abbrev s_Round___init__ : Stmt := (inClass (top 8) 1)
abbrev N_Round___init__ : List Str := ["self", "budgets", "budget"]
theorem sc_Round___init__ : FnScope N_Round___init__ ["self", "budgets"] (defScope s_Round___init__) := ⟨rfl, rfl, rfl, by decide +kernel, rfl, by decide +kernel, by decide +kernel⟩
theorem cl_Round___init__ (T : Bl mg) (R : RdF K mg c_Round) (D : DfI K c_Round "Round.__init__" s_Round___init__) (C_at_least : ClG CX0 P w K mg base 3 "at_least" s_at_least ["value", "least", "field"] [] [] spAtl) (C_whole_number : ClG CX0 P w K mg base 3 "whole_number" s_whole_number ["value", "field"] [] [] spWhole) : ClI CX0 P w K mg base 5 c_Round := by
  have nd := sc_Round___init__.nd
  refine D.ok sc_Round___init__ StX.cxUp_none (fun doc pm cdv ct an us rest hl => StX.bind_star1 (B := fun l => bindArgs (PySem.W.fnOf "__init__" "Round.__init__" (defArgs s_Round___init__) (defBody s_Round___init__) (defScope s_Round___init__) .none .none doc pm an cdv ct) ⟨l, []⟩) (fun _ => rfl) (fun _ _ _ => rfl) us rest hl) (fun f cdv A outer s H vs Q E hr h => ?_)
  · obtain ⟨a, dx, t, bs, rfl, ⟨ha, ht, h1, h2, h0⟩, k⟩ := h
    have hu := hu64 hr
    refine Gx.ex_nox ⟨_, (pss_cons (ps_if (pt_not (pt_chain opLe opLe pe_int (pe_callB (callLenK (K := K) (by rfl)) (by rfl) T.len (by decide +kernel) (pa_cons (pv 1) pa_nil)) (_root_.ClX.pe_cval (pe_glob (v := .ref c_Round) (u := .ref c_Round) (by rfl) R.g rfl))))
      (pss_one ps_never)
      pss_nil)
    (pss_cons (ps_for PassesOwn.never rfl (pi_tupK (K := K) (by rfl) (pv 1)) (pg_name (i := 2) nd rfl (Or.inl rfl))
      (pss_cons (ps_expr (pe_g C_whole_number (by exact hr.mono (by decide)) (E := fun _ => E0) (fun σ => passC0 σ) (fun _ _ _ _ _ _ us hl => match us, hl with | [_, _], _ => rfl) (pa_cons (pv 2) (pa_cons pe_str pa_nil))))
    (pss_one (ps_expr (pe_g C_at_least (by exact hr.mono (by decide)) (E := fun _ => E0) (fun σ => passC0 σ) (fun _ _ _ _ _ _ us hl => match us, hl with | [_, _, _], _ => rfl) (pa_cons (pv 2) (pa_cons pe_int (pa_cons pe_str pa_nil))))))))
    (pss_one (ps_fld (pv 0) (pe_callTy (callTupOfK (K := K) (by rfl)) (by rfl) T.tuple (by decide +kernel) (pa_cons (pv 1) pa_nil)) rfl)))), ?_⟩
    try dsimp only [L2.cxOf, L2.Cx.nox]
    simp only [L2.start, N_Round___init__, List.map_cons, List.map_nil, List.length_cons, List.length_nil, Nat.reduceAdd, Nat.reduceSub, List.replicate_succ, List.replicate_zero, List.cons_append, List.nil_append]

    walk_at "gos"
    refine Gx.forT [] (fun i σ' H' => ∃ s2, σ' = [some (.ref a), some (.ref t), s2]) ⟨_, rfl⟩ ?_ ?_
    · rintro i x σ' H' hx e ⟨s2, rfl⟩
      obtain ⟨m, hm, rfl⟩ := Gx.map_at hx
      have h3 := h0 m (List.mem_of_getElem? hm)
      walk_at "gos"
      exact Gx.li ⟨_, rfl⟩
    · rintro σ' H' e ⟨s2, rfl⟩
      have ha' := e.keep a _ (by simp) ha
      walk_at "go"
      refine Gx.g_fldS ha' R ?_
      refine k _ (fun b o hb h => ?_) (fun b hb => ?_) upd_same
      · rw [upd_ne hb]; exact e.keep b o (by simp) h
      · refine e.live b ?_
        by_cases z : b = a
        · rw [z, upd_same] at hb; cases hb
        · rw [upd_ne z] at hb; exact hb
/-! ### rounds, plainly -/
/-- the sum of c budgets from s on -/
def win (bs : List Int) (s c : Int) : Int := c / (bs.length : Int) * bs.sum + (((bs ++ bs).drop (s % (bs.length : Int)).toNat).take (c % (bs.length : Int)).toNat).sum
structure RB (bs : List Int) : Prop where
  l1 : 1 ≤ bs.length
  l2 : bs.length ≤ 12
  h0 : ∀ b ∈ bs, 0 ≤ b
  h1 : ∀ b ∈ bs, b < 2 ^ 110
def spWin (C : Addr) : Sp := fun vs H Q _ => ∃ (a : Addr) (bs : List Int) (s c : Int), vs = [.ref a, .int s, .int c] ∧ (RdC C H a bs ∧ RB bs ∧ 0 ≤ s ∧ s < 2 ^ 200 ∧ 0 ≤ c ∧ c < 2 ^ 200) ∧ ∀ H', Ex H H' → Q (.int (win bs s c)) H'
theorem sum_app (a b : List Int) : (a ++ b).sum = a.sum + b.sum := by simp
theorem sum_bd : ∀ {bs : List Int} {m : Int}, (∀ b ∈ bs, 0 ≤ b) → (∀ b ∈ bs, b < m) → 0 ≤ m → 0 ≤ bs.sum ∧ bs.sum ≤ bs.length * m
  | [], m, _, _, h => by simp
  | b :: r, m, h0, h1, h => by
    have h2 := sum_bd (bs := r) (m := m) (fun x hx => h0 x (List.mem_cons_of_mem _ hx)) (fun x hx => h1 x (List.mem_cons_of_mem _ hx)) h
    have h3 := h0 b (List.mem_cons_self ..)
    have h4 := h1 b (List.mem_cons_self ..)
    rw [List.sum_cons, List.length_cons]
    have e : ((r.length + 1 : Nat) : Int) * m = r.length * m + m := by
      rw [show ((r.length + 1 : Nat) : Int) = (r.length : Int) + 1 from rfl, Int.add_mul, Int.one_mul]
    omega
theorem RB.sum {bs : List Int} (h : RB bs) : 0 ≤ bs.sum ∧ bs.sum < 2 ^ 120 := by
  have h2 := sum_bd h.h0 h.h1 (by decide)
  have l2 := h.l2
  have : (bs.length : Int) * 2 ^ 110 ≤ 12 * 2 ^ 110 := Int.mul_le_mul_of_nonneg_right (by omega) (by decide)
  omega
theorem cutI_two {ns : List Int} {i j : Int} (hi : 0 ≤ i) (hj : 0 ≤ j) : Gx.cutI ns (some i) (some (i + j)) = (ns.drop i.toNat).take j.toNat := by
  obtain ⟨a, rfl⟩ : ∃ a : Nat, i = a := ⟨i.toNat, by omega⟩
  obtain ⟨b, rfl⟩ : ∃ b : Nat, j = b := ⟨j.toNat, by omega⟩
  unfold Gx.cutI
  rw [show ((a : Nat) : Int) + ((b : Nat) : Int) = ((a + b : Nat) : Int) from rfl, HT.sIx_nat, HT.sIx_nat, Int.toNat_natCast, Int.toNat_natCast]
  by_cases h : a ≤ ns.length
  · rw [Nat.min_eq_left h]
    by_cases h2 : a + b ≤ ns.length
    · rw [Nat.min_eq_left h2, Nat.add_sub_cancel_left]
    · rw [Nat.min_eq_right (by omega), List.take_of_length_le (by simp), List.take_of_length_le (by simp; omega)]
  · rw [List.drop_eq_nil_of_le (by omega), List.drop_eq_nil_of_le (by omega)]
    simp
theorem cutI_from {ns : List Int} {i : Int} (hi : 0 ≤ i) : Gx.cutI ns (some i) none = ns.drop i.toNat := by
  obtain ⟨a, rfl⟩ : ∃ a : Nat, i = a := ⟨i.toNat, by omega⟩
  unfold Gx.cutI
  rw [HT.sIx_nat, HT.sIx_none, Int.toNat_natCast]
  by_cases h : a ≤ ns.length
  · rw [Nat.min_eq_left h, List.take_of_length_le (by simp)]
  · rw [List.drop_eq_nil_of_le (by omega), List.drop_eq_nil_of_le (by omega)]
    simp
theorem cutI_to {ns : List Int} {i : Int} (hi : 0 ≤ i) : Gx.cutI ns none (some i) = ns.take i.toNat := by
  obtain ⟨a, rfl⟩ : ∃ a : Nat, i = a := ⟨i.toNat, by omega⟩
  unfold Gx.cutI
  rw [HT.sIx_nat, HT.sIx_none, Int.toNat_natCast, List.drop_zero, Nat.sub_zero]
  by_cases h : a ≤ ns.length
  · rw [Nat.min_eq_left h]
  · rw [Nat.min_eq_right (by omega), List.take_of_length_le (Nat.le_refl _), List.take_of_length_le (by omega)]
theorem modb {s n : Int} (h : 0 < n) : 0 ≤ s % n ∧ s % n < n := ⟨Int.emod_nonneg _ (by omega), Int.emod_lt_of_pos _ h⟩
theorem divb {c n : Int} (h : 0 ≤ c) (hn : 0 < n) : 0 ≤ c / n ∧ c / n ≤ c := ⟨Int.ediv_nonneg h (by omega), Int.ediv_le_self _ h⟩
abbrev s_Round__window : Stmt := (inClass (top 8) 13)
abbrev N_Round__window : List Str := ["self", "start", "count", "turns", "rest", "first", "twice"]
theorem sc_Round__window : FnScope N_Round__window ["self", "start", "count"] (defScope s_Round__window) := ⟨rfl, rfl, rfl, by decide +kernel, rfl, by decide +kernel, by decide +kernel⟩
theorem cl_Round__window (T : Bl mg) (R : RdF K mg c_Round) (D : DfM K c_Round "_window" "Round._window" s_Round__window [] [])  : ClM CX0 P w K mg base 3 c_Round "_window" "Round._window" s_Round__window ["self", "start", "count"] [] [] (spWin c_Round) := by
  have nd := sc_Round__window.nd
  refine D.okP sc_Round__window (fun vs H Q E h => ?_) (fun f cdv A outer s H vs Q E hr h => ?_)
  · obtain ⟨a, bs, s, c, rfl, _⟩ := h
    rfl
  · obtain ⟨a, bs, s, c, rfl, ⟨ha, hB, h1, h2, h3, h4⟩, k⟩ := h
    have hu := hu64 hr
    refine ⟨_, (pss_cons (ps_asg (pe_callB callDivmod (by rfl) T.divmod (by decide +kernel) (pa_cons (pv 2) (pa_cons (pe_callB (callLenK (K := K) (by rfl)) (by rfl) T.len (by decide +kernel) (pa_cons (pe_fld (pv 0) rfl) pa_nil)) pa_nil))) (pg_tup rfl (pgs_cons (pg_name (i := 3) nd rfl (Or.inl rfl)) (pgs_cons (pg_name (i := 4) nd rfl (Or.inl rfl)) pgs_nil))))
    (pss_cons (ps_set (i := 5) nd rfl (Or.inl rfl) (pe_op opMod (pv 1) (pe_callB (callLenK (K := K) (by rfl)) (by rfl) T.len (by decide +kernel) (pa_cons (pe_fld (pv 0) rfl) pa_nil))))
    (pss_cons (ps_set (i := 6) nd rfl (Or.inl rfl) (pe_op (opAddK (K := K) (by rfl)) (pe_fld (pv 0) rfl) (pe_fld (pv 0) rfl)))
    (pss_one (ps_ret (pe_op (opAddK (K := K) (by rfl)) (pe_op (opMulK (K := K) (by rfl)) (pv 3) (pe_callB (callSumXK (K := K) (by rfl) rfl) (by rfl) T.sum (by decide +kernel) (pa_cons (pe_fld (pv 0) rfl) pa_nil))) (pe_callB (callSumXK (K := K) (by rfl) rfl) (by rfl) T.sum (by decide +kernel) (pa_cons (pe_slice (slAnyK (K := K) (by rfl)) (pv 6) (po_some (pv 5)) (po_some (pe_op (opAddK (K := K) (by rfl)) (pv 5) (pv 4)))) pa_nil)))))))), ?_⟩
    try dsimp only [L2.cxOf, L2.Cx.nox]
    simp only [L2.start, N_Round__window, List.map_cons, List.map_nil, List.length_cons, List.length_nil, Nat.reduceAdd, Nat.reduceSub, List.replicate_succ, List.replicate_zero, List.cons_append, List.nil_append]

    have l1 := hB.l1
    have l2 := hB.l2
    have hs := hB.sum
    have hm1 := modb (s := s) (n := bs.length) (by omega)
    have hm2 := modb (s := c) (n := bs.length) (by omega)
    have hd := divb (n := bs.length) h3 (by omega)
    walk_at "gos"
    rw [cutI_two hm1.1 hm2.1]
    exact k _ Gx.rel
local macro_rules | `(tactic| walk_at "call") => `(tactic| ((with_reducible show spWin _ _ _ _ _); refine ⟨_, _, _, _, rfl, ⟨inferInstance, by assumption, by omega, by omega, by omega, by omega⟩, ?_⟩; intro H_ e_))
abbrev s_Round_total : Stmt := (inClass (top 8) 9)
abbrev N_Round_total : List Str := ["self", "start", "count"]
theorem sc_Round_total : FnScope N_Round_total ["self", "start", "count"] (defScope s_Round_total) := ⟨rfl, rfl, rfl, by decide +kernel, rfl, by decide +kernel, by decide +kernel⟩
theorem cl_Round_total (T : Bl mg) (R : RdF K mg c_Round) (D : DfM K c_Round "total" "Round.total" s_Round_total [] []) (C_Round__window : ClM CX0 P w K mg base 3 c_Round "_window" "Round._window" s_Round__window ["self", "start", "count"] [] [] (spWin c_Round)) (C_at_least : ClG CX0 P w K mg base 3 "at_least" s_at_least ["value", "least", "field"] [] [] spAtl) : ClM CX0 P w K mg base 5 c_Round "total" "Round.total" s_Round_total ["self", "start", "count"] [] [] (spWin c_Round) := by
  have nd := sc_Round_total.nd
  refine D.okP sc_Round_total (fun vs H Q E h => ?_) (fun f cdv A outer s H vs Q E hr h => ?_)
  · obtain ⟨a, bs, s, c, rfl, _⟩ := h
    rfl
  · obtain ⟨a, bs, s, c, rfl, ⟨ha, hB, h1, h2, h3, h4⟩, k⟩ := h
    have hu := hu64 hr
    refine ⟨_, (pss_cons (ps_expr (pe_g C_at_least (by exact hr.mono (by decide)) (E := fun _ => E0) (fun σ => passC0 σ) (fun _ _ _ _ _ _ us hl => match us, hl with | [_, _, _], _ => rfl) (pa_cons (pv 1) (pa_cons pe_int (pa_cons pe_str pa_nil)))))
    (pss_cons (ps_expr (pe_g C_at_least (by exact hr.mono (by decide)) (E := fun _ => E0) (fun σ => passC0 σ) (fun _ _ _ _ _ _ us hl => match us, hl with | [_, _, _], _ => rfl) (pa_cons (pv 2) (pa_cons pe_int (pa_cons pe_str pa_nil)))))
    (pss_one (ps_ret (pe_m C_Round__window R.c (by exact hr.mono (by decide)) pass0 (fun _ _ _ _ _ _ us hl => match us, hl with | [_, _, _], _ => rfl) (pv 0) (pa_cons (pv 1) (pa_cons (pv 2) pa_nil))))))), ?_⟩
    try dsimp only [L2.cxOf, L2.Cx.nox]
    simp only [L2.start, N_Round_total, List.map_cons, List.map_nil, List.length_cons, List.length_nil, Nat.reduceAdd, Nat.reduceSub, List.replicate_succ, List.replicate_zero, List.cons_append, List.nil_append]

    walk_at "gos"
    exact k _ Gx.rel
def wins (bs : List Int) (c : Int) : List Int := (List.range bs.length).map fun i => win bs (i : Nat) c
def spWins (C : Addr) : Sp := fun vs H Q _ => ∃ (a : Addr) (bs : List Int) (c : Int), vs = [.ref a, .int c] ∧ (RdC C H a bs ∧ RB bs ∧ 0 ≤ c ∧ c < 2 ^ 200) ∧ ∀ p H', Nw H p → Ex H H' → At H' p (.lst ((wins bs c).map V.int)) → Q (.ref p) H'
abbrev s_Round__windows : Stmt := (inClass (top 8) 14)
abbrev N_Round__windows : List Str := ["self", "count", "start"]
theorem sc_Round__windows : FnScope N_Round__windows ["self", "count"] (defScope s_Round__windows) := ⟨rfl, rfl, rfl, by decide +kernel, rfl, by decide +kernel, by decide +kernel⟩
theorem cl_Round__windows (T : Bl mg) (R : RdF K mg c_Round) (D : DfM K c_Round "_windows" "Round._windows" s_Round__windows [] []) (C_Round__window : ClM CX0 P w K mg base 3 c_Round "_window" "Round._window" s_Round__window ["self", "start", "count"] [] [] (spWin c_Round)) : ClM CX0 P w K mg base 5 c_Round "_windows" "Round._windows" s_Round__windows ["self", "count"] [] [] (spWins c_Round) := by
  have nd := sc_Round__windows.nd
  refine D.okP sc_Round__windows (fun vs H Q E h => ?_) (fun f cdv A outer s H vs Q E hr h => ?_)
  · obtain ⟨a, bs, c, rfl, _⟩ := h
    rfl
  · obtain ⟨a, bs, c, rfl, ⟨ha, hB, h3, h4⟩, k⟩ := h
    have hu := hu64 hr
    refine ⟨_, (pss_one (ps_ret (pe_lc (own := [("start", 2)]) (g := gName 2) rfl nd (pi_range1 rfl T.range (pa_cons (pe_callB (callLenK (K := K) (by rfl)) (by rfl) T.len (by decide +kernel) (pa_cons (pe_fld (pv 0) rfl) pa_nil)) pa_nil)) (blkOk_by (own := [("start", 2)]) (N := N_Round__windows) (sc := defScope s_Round__windows) (by decide +kernel)) (fun _ _ _ _ _ => (pg_name (i := 2) nd rfl (Or.inl rfl))) (fun _ _ _ _ _ => pts_nil) (fun _ _ _ _ _ => (pe_m C_Round__window R.c (by exact hr.mono (by decide)) pass0 (fun _ _ _ _ _ _ us hl => match us, hl with | [_, _, _], _ => rfl) (pv 0) (pa_cons (pv 2) (pa_cons (pv 1) pa_nil))))))), ?_⟩
    try dsimp only [L2.cxOf, L2.Cx.nox]
    simp only [L2.start, N_Round__windows, List.map_cons, List.map_nil, List.length_cons, List.length_nil, Nat.reduceAdd, Nat.reduceSub, List.replicate_succ, List.replicate_zero, List.cons_append, List.nil_append]

    have l1 := hB.l1
    have l2 := hB.l2
    walk_at "gos"
    refine Gx.lc1_F (fun i => ((List.range i).map fun i => win bs (i : Nat) c).map V.int) (by omega) rfl (fun i hi => by simp; omega) (fun D i H' hi hD e hp hz => ?_) (fun D H' hD e hp => ?_)
    · walk_at "gos"
      refine ⟨Gx.rel, ?_⟩
      rw [List.range_succ, List.map_append, List.map_append]
      rfl
    · rw [Int.toNat_natCast] at hp
      exact k D H' Gx.new Gx.rel hp
local macro_rules | `(tactic| walk_at "call") => `(tactic| ((with_reducible show spWins _ _ _ _ _); refine ⟨_, _, _, rfl, ⟨inferInstance, by assumption, by omega, by omega⟩, ?_⟩; intro p_ H_ np_ e_ hp_))
/-- the least of a list -/
def IsMin (ns : List Int) (m : Int) : Prop := m ∈ ns ∧ ∀ y ∈ ns, m ≤ y
theorem IsMin.uniq {ns : List Int} {m n : Int} (h : IsMin ns m) (k : IsMin ns n) : m = n := Int.le_antisymm (h.2 n k.1) (k.2 m h.1)
theorem exists_min : ∀ {ns : List Int}, ns ≠ [] → ∃ m, IsMin ns m
  | [], h => absurd rfl h
  | [a], _ => ⟨a, by simp, by simp⟩
  | a :: b :: r, _ => by
    obtain ⟨m, h1, h2⟩ := exists_min (ns := b :: r) (by simp)
    by_cases z : a ≤ m
    · exact ⟨a, List.mem_cons_self .., fun y hy => (List.mem_cons.mp hy).elim (fun e => by omega) (fun e => Int.le_trans z (h2 y e))⟩
    · exact ⟨m, List.mem_cons_of_mem _ h1, fun y hy => (List.mem_cons.mp hy).elim (fun e => by omega) (fun e => h2 y e)⟩
theorem wins_ne {bs : List Int} {c : Int} (h : RB bs) : wins bs c ≠ [] := by
  intro e
  have := congrArg List.length e
  have l1 := h.l1
  simp [wins] at this
  rw [this] at l1
  simp at l1
noncomputable def least (bs : List Int) (c : Int) : Int := Classical.epsilon fun m => IsMin (wins bs c) m
theorem least_is {bs : List Int} {c : Int} (h : RB bs) : IsMin (wins bs c) (least bs c) := Classical.epsilon_spec (exists_min (wins_ne h))
theorem least_eq {bs : List Int} {c m : Int} (h : RB bs) (k : IsMin (wins bs c) m) : m = least bs c := k.uniq (least_is h)
theorem g_min {K : PySem.W.Frag} {H : Hp} {Q : VK} {p : Addr} {ns : List Int} [h : SqC K H p (ns.map V.int)] (h0 : 0 < ns.length) (q : ∀ m, IsMin ns m → Q (.int m) H) : rMin K [.ref p] H Q := ⟨p, ns, rfl, h.sq, h0, fun m h1 h2 => q m ⟨h1, h2⟩⟩
theorem wins_len {bs : List Int} {c : Int} : (wins bs c).length = bs.length := by simp [wins]
def spLst (C : Addr) : Sp := fun vs H Q _ => ∃ (a : Addr) (bs : List Int) (c : Int), vs = [.ref a, .int c] ∧ (RdC C H a bs ∧ RB bs ∧ 0 ≤ c ∧ c < 2 ^ 200) ∧ ∀ H', Ex H H' → Q (.int (least bs c)) H'
abbrev s_Round_least : Stmt := (inClass (top 8) 10)
abbrev N_Round_least : List Str := ["self", "count"]
theorem sc_Round_least : FnScope N_Round_least ["self", "count"] (defScope s_Round_least) := ⟨rfl, rfl, rfl, by decide +kernel, rfl, by decide +kernel, by decide +kernel⟩
theorem cl_Round_least (T : Bl mg) (R : RdF K mg c_Round) (D : DfM K c_Round "least" "Round.least" s_Round_least [] []) (C_Round__windows : ClM CX0 P w K mg base 5 c_Round "_windows" "Round._windows" s_Round__windows ["self", "count"] [] [] (spWins c_Round)) (C_at_least : ClG CX0 P w K mg base 3 "at_least" s_at_least ["value", "least", "field"] [] [] spAtl) : ClM CX0 P w K mg base 7 c_Round "least" "Round.least" s_Round_least ["self", "count"] [] [] (spLst c_Round) := by
  have nd := sc_Round_least.nd
  refine D.okP sc_Round_least (fun vs H Q E h => ?_) (fun f cdv A outer s H vs Q E hr h => ?_)
  · obtain ⟨a, bs, c, rfl, _⟩ := h
    rfl
  · obtain ⟨a, bs, c, rfl, ⟨ha, hB, h3, h4⟩, k⟩ := h
    have hu := hu64 hr
    refine ⟨_, (pss_cons (ps_expr (pe_g C_at_least (by exact hr.mono (by decide)) (E := fun _ => E0) (fun σ => passC0 σ) (fun _ _ _ _ _ _ us hl => match us, hl with | [_, _, _], _ => rfl) (pa_cons (pv 1) (pa_cons pe_int (pa_cons pe_str pa_nil)))))
    (pss_one (ps_ret (pe_callB (callMinK (K := K) (by rfl) rfl) (by rfl) T.min (by decide +kernel) (pa_cons (pe_m C_Round__windows R.c (by exact hr.mono (by decide)) pass0 (fun _ _ _ _ _ _ us hl => match us, hl with | [_, _], _ => rfl) (pv 0) (pa_cons (pv 1) pa_nil)) pa_nil))))), ?_⟩
    try dsimp only [L2.cxOf, L2.Cx.nox]
    simp only [L2.start, N_Round_least, List.map_cons, List.map_nil, List.length_cons, List.length_nil, Nat.reduceAdd, Nat.reduceSub, List.replicate_succ, List.replicate_zero, List.cons_append, List.nil_append]

    have l1 := hB.l1
    walk_at "gos"
    refine g_min (by rw [wins_len]; omega) fun m hm => ?_
    rw [least_eq hB hm]
    exact k _ Gx.rel
local macro_rules | `(tactic| walk_at "call") => `(tactic| ((with_reducible show spLst _ _ _ _ _); refine ⟨_, _, _, rfl, ⟨inferInstance, by assumption, by omega, by omega⟩, ?_⟩; intro H_ e_))

/-- the first place of m -/
def FirstIx (ns : List Int) (m : Int) (j : Nat) : Prop := ns[j]? = some m ∧ ∀ i, i < j → ns[i]? ≠ some m
theorem FirstIx.uniq {ns : List Int} {m : Int} {i j : Nat} (h : FirstIx ns m i) (k : FirstIx ns m j) : i = j := by
  rcases Nat.lt_trichotomy i j with z | z | z
  · exact absurd h.1 (k.2 i z)
  · exact z
  · exact absurd k.1 (h.2 j z)
theorem firstIx_ex : ∀ {ns : List Int} {m : Int}, m ∈ ns → ∃ j, FirstIx ns m j
  | [], m, h => by cases h
  | a :: r, m, h => by
    by_cases z : a = m
    · exact ⟨0, by rw [z]; rfl, fun i hi => absurd hi (Nat.not_lt_zero _)⟩
    · obtain ⟨j, h1, h2⟩ := firstIx_ex (ns := r) (m := m) ((List.mem_cons.mp h).resolve_left fun e => z e.symm)
      refine ⟨j + 1, h1, fun i hi => ?_⟩
      cases i with
      | zero => intro e; exact z (Option.some.inj e)
      | succ i => exact h2 i (by omega)
theorem g_index {K : PySem.W.Frag} {H : Hp} {Q : VK} {p : Addr} {ns : List Int} {m : Int} [h : SqC K H p (ns.map V.int)] (hm : m ∈ ns) (q : ∀ j, FirstIx ns m j → Q (.int (j : Nat)) H) : rIndex K (.ref p) [.int m] H Q := by
  obtain ⟨j, h1, h2⟩ := firstIx_ex hm
  refine ⟨p, ns.map V.int, .int m, j, .int m, rfl, rfl, h.sq, rfl, ?_, by rw [List.getElem?_map, h1]; rfl, by simp [eqV], fun i z hi hz => ?_, q j ⟨h1, h2⟩⟩
  · rw [List.all_map]
    exact List.all_eq_true.mpr fun _ _ => rfl
  · rw [List.getElem?_map] at hz
    cases e : ns[i]? with
    | none => rw [e] at hz; cases hz
    | some v =>
      rw [e] at hz
      cases hz
      show (v == m) = false
      rw [beq_eq_false_iff_ne]
      intro x
      rw [x] at e
      exact h2 i hi e
def spWst (C : Addr) : Sp := fun vs H Q _ => ∃ (a : Addr) (bs : List Int) (c : Int), vs = [.ref a, .int c] ∧ (RdC C H a bs ∧ RB bs ∧ 0 ≤ c ∧ c < 2 ^ 200) ∧ ∀ j H', Ex H H' → FirstIx (wins bs c) (least bs c) j → Q (.int (j : Nat)) H'
local macro_rules | `(tactic| walk_at "call") => `(tactic| ((with_reducible show spWst _ _ _ _ _); refine ⟨_, _, _, rfl, ⟨inferInstance, by assumption, by omega, by omega⟩, ?_⟩; intro j_ H_ e_ hj_))
theorem win_round {bs : List Int} {s c t : Int} (h : RB bs) : win bs s (t * bs.length + c) = t * bs.sum + win bs s c := by
  have l1 := h.l1
  unfold win
  rw [show t * (bs.length : Int) + c = c + (bs.length : Int) * t from by rw [Int.mul_comm, Int.add_comm], Int.add_mul_ediv_left _ _ (by omega), Int.add_mul_emod_self_left, Int.add_mul, ← Int.add_assoc, Int.add_comm (c / (bs.length : Int) * bs.sum)]
theorem wins_round {bs : List Int} {c t : Int} (h : RB bs) : wins bs (t * bs.length + c) = (wins bs c).map fun x => t * bs.sum + x := by
  unfold wins
  rw [List.map_map]
  exact List.map_congr_left fun i _ => win_round h
theorem least_round {bs : List Int} {c t : Int} (h : RB bs) : least bs (t * bs.length + c) = t * bs.sum + least bs c := by
  refine (least_eq h ?_).symm
  rw [wins_round h]
  obtain ⟨h1, h2⟩ := least_is (c := c) h
  refine ⟨List.mem_map.mpr ⟨_, h1, rfl⟩, fun y hy => ?_⟩
  obtain ⟨x, hx, rfl⟩ := List.mem_map.mp hy
  have := h2 x hx
  omega
theorem win_zero {bs : List Int} {s : Int} : win bs s 0 = 0 := by simp [win]
theorem least_zero {bs : List Int} (h : RB bs) : least bs 0 = 0 := by
  obtain ⟨h1, h2⟩ := least_is (c := 0) h
  obtain ⟨i, _, hi⟩ := List.mem_map.mp h1
  rw [← hi, win_zero]
theorem least_len {bs : List Int} (h : RB bs) : least bs bs.length = bs.sum := by
  have e := least_round (t := 1) (c := 0) h
  rw [least_zero h] at e
  simpa using e
/-- reach's answer: what it must satisfy -/
def spReach (C : Addr) : Sp := fun vs H Q _ => ∃ (a : Addr) (bs : List Int) (n : Int), vs = [.ref a, .int n] ∧ (RdC C H a bs ∧ RB bs ∧ -(2 ^ 140) < n ∧ n < 2 ^ 140) ∧ (n ≤ 0 → Q (.int 0) H) ∧ (0 < n → bs.sum = 0 → Q .non H) ∧
  (0 < n → bs.sum ≠ 0 → ∀ r H', Ex H H' → 1 ≤ r → r < 2 ^ 150 → n ≤ least bs r → least bs (r - 1) < n → Q (.int r) H')
local macro_rules | `(tactic| walk_at "call") => `(tactic| ((with_reducible show spReach _ _ _ _ _); refine ⟨_, _, _, rfl, ⟨inferInstance, by assumption, by omega, by omega⟩, fun hA => ?_, fun hA hB => ?_, fun hA hB r_ H_ e_ h1_ h2_ h3_ h4_ => ?_⟩))
def nth (bs : List Int) (t : Int) : Int := bs.getD (t % (bs.length : Int)).toNat 0
def spAt (C : Addr) : Sp := fun vs H Q _ => ∃ (a : Addr) (bs : List Int) (t : Int), vs = [.ref a, .int t] ∧ (RdC C H a bs ∧ RB bs ∧ 0 ≤ t) ∧ Q (.int (nth bs t)) H
abbrev s_Round_at : Stmt := (inClass (top 8) 7)
abbrev N_Round_at : List Str := ["self", "t"]
theorem sc_Round_at : FnScope N_Round_at ["self", "t"] (defScope s_Round_at) := ⟨rfl, rfl, rfl, by decide +kernel, rfl, by decide +kernel, by decide +kernel⟩
theorem cl_Round_at (T : Bl mg) (R : RdF K mg c_Round) (D : DfM K c_Round "at" "Round.at" s_Round_at [] []) (C_at_least : ClG CX0 P w K mg base 3 "at_least" s_at_least ["value", "least", "field"] [] [] spAtl) : ClM CX0 P w K mg base 5 c_Round "at" "Round.at" s_Round_at ["self", "t"] [] [] (spAt c_Round) := by
  have nd := sc_Round_at.nd
  refine D.okP sc_Round_at (fun vs H Q E h => ?_) (fun f cdv A outer s H vs Q E hr h => ?_)
  · obtain ⟨a, bs, t, rfl, _⟩ := h
    rfl
  · obtain ⟨a, bs, t, rfl, ⟨ha, hB, h3⟩, k⟩ := h
    have hu := hu64 hr
    refine ⟨_, (pss_cons (ps_expr (pe_g C_at_least (by exact hr.mono (by decide)) (E := fun _ => E0) (fun σ => passC0 σ) (fun _ _ _ _ _ _ us hl => match us, hl with | [_, _, _], _ => rfl) (pa_cons (pv 1) (pa_cons pe_int (pa_cons pe_str pa_nil)))))
    (pss_one (ps_ret (pe_ix (ixSeqK (K := K) (by rfl)) (pe_fld (pv 0) rfl) (pe_op opMod (pv 1) (pe_callB (callLenK (K := K) (by rfl)) (by rfl) T.len (by decide +kernel) (pa_cons (pe_fld (pv 0) rfl) pa_nil))) (fun _ _ => rfl))))), ?_⟩
    try dsimp only [L2.cxOf, L2.Cx.nox]
    simp only [L2.start, N_Round_at, List.map_cons, List.map_nil, List.length_cons, List.length_nil, Nat.reduceAdd, Nat.reduceSub, List.replicate_succ, List.replicate_zero, List.cons_append, List.nil_append]

    have l1 := hB.l1
    have hm := modb (s := t) (n := bs.length) (by omega)
    walk_at "gos"
    exact k
local macro_rules | `(tactic| walk_at "call") => `(tactic| ((with_reducible show spAt _ _ _ _ _); refine ⟨_, _, _, rfl, ⟨inferInstance, by assumption, by omega⟩, ?_⟩))
def turn (bs : List Int) (f : Int) : List Int := bs.drop (f % (bs.length : Int)).toNat ++ bs.take (f % (bs.length : Int)).toNat
theorem turn_mem {bs : List Int} {f x : Int} (h : x ∈ turn bs f) : x ∈ bs := (List.mem_append.mp h).elim List.mem_of_mem_drop List.mem_of_mem_take
theorem turn_len {bs : List Int} {f : Int} : (turn bs f).length = bs.length := by
  unfold turn
  rw [List.length_append, List.length_drop, List.length_take]
  omega
theorem RB.turn {bs : List Int} {f : Int} (h : RB bs) : RB (turn bs f) := ⟨by rw [turn_len]; exact h.l1, by rw [turn_len]; exact h.l2, fun b hb => h.h0 b (turn_mem hb), fun b hb => h.h1 b (turn_mem hb)⟩
def spShift (C : Addr) : Sp := fun vs H Q _ => ∃ (a : Addr) (bs : List Int) (f : Int), vs = [.ref a, .int f] ∧ (RdC C H a bs ∧ RB bs ∧ 0 ≤ f) ∧ ∀ b H', Nw H b → Ex H H' → RdC C H' b (turn bs f) → Q (.ref b) H'
abbrev s_Round_shifted : Stmt := (inClass (top 8) 8)
abbrev N_Round_shifted : List Str := ["self", "phase", "first", "turned"]
theorem sc_Round_shifted : FnScope N_Round_shifted ["self", "phase"] (defScope s_Round_shifted) := ⟨rfl, rfl, rfl, by decide +kernel, rfl, by decide +kernel, by decide +kernel⟩
theorem cl_Round_shifted (T : Bl mg) (R : RdF K mg c_Round) (D : DfM K c_Round "shifted" "Round.shifted" s_Round_shifted [] []) (C_Round___init__ : ClI CX0 P w K mg base 5 c_Round) (C_at_least : ClG CX0 P w K mg base 3 "at_least" s_at_least ["value", "least", "field"] [] [] spAtl) : ClM CX0 P w K mg base 7 c_Round "shifted" "Round.shifted" s_Round_shifted ["self", "phase"] [] [] (spShift c_Round) := by
  have nd := sc_Round_shifted.nd
  refine D.okP sc_Round_shifted (fun vs H Q E h => ?_) (fun f cdv A outer s H vs Q E hr h => ?_)
  · obtain ⟨a, bs, f, rfl, _⟩ := h
    rfl
  · obtain ⟨a, bs, f, rfl, ⟨ha, hB, h3⟩, k⟩ := h
    have hu := hu64 hr
    refine ⟨_, (pss_cons (ps_expr (pe_g C_at_least (by exact hr.mono (by decide)) (E := fun _ => E0) (fun σ => passC0 σ) (fun _ _ _ _ _ _ us hl => match us, hl with | [_, _, _], _ => rfl) (pa_cons (pv 1) (pa_cons pe_int (pa_cons pe_str pa_nil)))))
    (pss_cons (ps_set (i := 2) nd rfl (Or.inl rfl) (pe_op opMod (pv 1) (pe_callB (callLenK (K := K) (by rfl)) (by rfl) T.len (by decide +kernel) (pa_cons (pe_fld (pv 0) rfl) pa_nil))))
    (pss_cons (ps_set (i := 3) nd rfl (Or.inl rfl) (pe_op (opAddK (K := K) (by rfl)) (pe_slice (slAnyK (K := K) (by rfl)) (pe_fld (pv 0) rfl) (po_some (pv 2)) po_none) (pe_slice (slAnyK (K := K) (by rfl)) (pe_fld (pv 0) rfl) po_none (po_some (pv 2)))))
    (pss_one (ps_ret (pe_mkS (K := K) (by rfl) C_Round___init__ (by exact hr.mono (by decide)) (by rfl) R.g pass0 (pv 3))))))), ?_⟩
    try dsimp only [L2.cxOf, L2.Cx.nox]
    simp only [L2.start, N_Round_shifted, List.map_cons, List.map_nil, List.length_cons, List.length_nil, Nat.reduceAdd, Nat.reduceSub, List.replicate_succ, List.replicate_zero, List.cons_append, List.nil_append]

    have l1 := hB.l1
    have l2 := hB.l2
    have hm := modb (s := f) (n := bs.length) (by omega)
    have e1 := cutI_from (ns := bs) hm.1
    have e2 := cutI_to (ns := bs) hm.1
    have e3 : (Gx.cutI bs (some (f % (bs.length : Int))) none).length ≤ 12 := by rw [e1, List.length_drop]; omega
    have e4 : (Gx.cutI bs none (some (f % (bs.length : Int)))).length ≤ 12 := by rw [e2, List.length_take]; omega
    walk_at "gos"
    rw [e1, e2]
    have ht : bs.drop (f % (bs.length : Int)).toNat ++ bs.take (f % (bs.length : Int)).toNat = turn bs f := rfl
    rw [ht]
    have hl := turn_len (bs := bs) (f := f)
    have hT := (hB.turn (f := f)).h0
    walk_at "gos"
    exact k _ _ Gx.new Gx.rel (by assumption)
local macro_rules | `(tactic| walk_at "call") => `(tactic| ((with_reducible show spShift _ _ _ _ _); refine ⟨_, _, _, rfl, ⟨inferInstance, by assumption, by omega⟩, ?_⟩; intro b_ H_ np_ e_ hb_))
def spBud (C : Addr) : Sp := fun vs H Q _ => ∃ (a : Addr) (bs : List Int), vs = [.ref a] ∧ RdC C H a bs ∧ ∀ b H', Nw H b → Ex H H' → At H' b (.lst (bs.map V.int)) → Q (.ref b) H'
abbrev s_Round_budgets : Stmt := (inClass (top 8) 3)
abbrev N_Round_budgets : List Str := ["self"]
theorem sc_Round_budgets : FnScope N_Round_budgets ["self"] (defScope s_Round_budgets) := ⟨rfl, rfl, rfl, by decide +kernel, rfl, by decide +kernel, by decide +kernel⟩
theorem cl_Round_budgets (T : Bl mg) (R : RdF K mg c_Round) (D : DfP K c_Round "budgets" "Round.budgets" s_Round_budgets)  : ClP CX0 P w K mg base 3 c_Round "budgets" "Round.budgets" s_Round_budgets (spBud c_Round) := by
  have nd := sc_Round_budgets.nd
  refine D.okP sc_Round_budgets (fun vs H Q E h => ?_) (fun f cdv A outer s H vs Q E hr h => ?_)
  · obtain ⟨a, bs, rfl, _⟩ := h
    rfl
  · obtain ⟨a, bs, rfl, ha, k⟩ := h
    have hu := hu64 hr
    refine ⟨_, (pss_one (ps_ret (pe_callTy (callListOfK (K := K) (by rfl)) (by rfl) T.list (by decide +kernel) (pa_cons (pe_fld (pv 0) rfl) pa_nil)))), ?_⟩
    try dsimp only [L2.cxOf, L2.Cx.nox]
    simp only [L2.start, N_Round_budgets, List.map_cons, List.map_nil, List.length_cons, List.length_nil, Nat.reduceAdd, Nat.reduceSub, List.replicate_succ, List.replicate_zero, List.cons_append, List.nil_append]

    walk_at "gos"
    exact k _ _ Gx.new Gx.rel (by assumption)
local macro_rules | `(tactic| walk_at "call") => `(tactic| ((with_reducible show spBud _ _ _ _ _); refine ⟨_, _, rfl, inferInstance, ?_⟩; intro b_ H_ np_ e_ hb_))
def spRadd (C : Addr) : Sp := fun vs H Q _ => ∃ (a b : Addr) (bs cs : List Int), vs = [.ref a, .ref b] ∧ (RdC C H a bs ∧ RdC C H b cs ∧ RB (bs ++ cs)) ∧ ∀ d H', Nw H d → Ex H H' → RdC C H' d (bs ++ cs) → Q (.ref d) H'
abbrev s_Round___add__ : Stmt := (inClass (top 8) 6)
abbrev N_Round___add__ : List Str := ["self", "other", "joined"]
theorem sc_Round___add__ : FnScope N_Round___add__ ["self", "other"] (defScope s_Round___add__) := ⟨rfl, rfl, rfl, by decide +kernel, rfl, by decide +kernel, by decide +kernel⟩
theorem cl_Round___add__ (T : Bl mg) (R : RdF K mg c_Round) (D : DfM K c_Round "__add__" "Round.__add__" s_Round___add__ [] []) (C_Round___init__ : ClI CX0 P w K mg base 5 c_Round) : ClM CX0 P w K mg base 7 c_Round "__add__" "Round.__add__" s_Round___add__ ["self", "other"] [] [] (spRadd c_Round) := by
  have nd := sc_Round___add__.nd
  refine D.okP sc_Round___add__ (fun vs H Q E h => ?_) (fun f cdv A outer s H vs Q E hr h => ?_)
  · obtain ⟨a, b, bs, cs, rfl, _⟩ := h
    rfl
  · obtain ⟨a, b, bs, cs, rfl, ⟨ha, hb, hB⟩, k⟩ := h
    have hu := hu64 hr
    refine ⟨_, (pss_cons (ps_if (pt_not (pt_val (pe_callB (callIsiK (K := K) (by rfl)) (by rfl) T.isinstance (by decide +kernel) (pa_cons (pv 1) (pa_cons (pe_glob (v := .ref c_Round) (u := .ref c_Round) (by rfl) R.g rfl) pa_nil)))))
      (pss_one ps_never)
      pss_nil)
    (pss_cons (ps_set (i := 2) nd rfl (Or.inl rfl) (pe_op (opAddK (K := K) (by rfl)) (pe_fld (pv 0) rfl) (pe_fld (pv 1) rfl)))
    (pss_one (ps_ret (pe_mkS (K := K) (by rfl) C_Round___init__ (by exact hr.mono (by decide)) (by rfl) R.g pass0 (pv 2)))))), ?_⟩
    try dsimp only [L2.cxOf, L2.Cx.nox]
    simp only [L2.start, N_Round___add__, List.map_cons, List.map_nil, List.length_cons, List.length_nil, Nat.reduceAdd, Nat.reduceSub, List.replicate_succ, List.replicate_zero, List.cons_append, List.nil_append]

    have l1 := hB.l1
    have l2 := hB.l2
    have l3 := List.length_append (as := bs) (bs := cs)
    have h0 := hB.h0
    walk_at "gos"
    exact k _ _ Gx.new Gx.rel (by assumption)
local macro_rules | `(tactic| walk_at "call") => `(tactic| ((with_reducible show spRadd _ _ _ _ _); refine ⟨_, _, _, _, rfl, ⟨inferInstance, inferInstance, by assumption⟩, ?_⟩; intro d_ H_ np_ e_ hd_))

/-! the bag: [cell, count, seed] -/
class Bg (b : Addr) (H : Hp) : Prop where
  ex : ∃ cell cnt seed : Int, H b = some (.lst [.int cell, .int cnt, .int seed])
instance (priority := low) bgStep {b : Addr} {cs : List Addr} {H1 H : Hp} [h : Bg b H1] [r : Chg cs H1 H] [n : NotIn b cs] : Bg b H := ⟨by
  obtain ⟨x, y, z, h1⟩ := h.ex
  exact ⟨x, y, z, r.keep _ _ n.out h1⟩⟩
instance liveBg {b : Addr} {H : Hp} [h : Bg b H] : Live H b := ⟨by
  obtain ⟨x, y, z, h1⟩ := h.ex
  exact ⟨_, h1⟩⟩
def spBag (K : PySem.W.Frag) : Sp := fun vs H Q _ => ∃ (a : Addr) (ns : List Int) (k : Int), vs = [.ref a, .int k] ∧ (SqC K H a (ns.map V.int) ∧ 0 ≤ k ∧ k < 2 ^ 40) ∧ ∀ b H', Nw H b → Ex H H' → Bg b H' → Q (.ref b) H'
abbrev s_law_bag : Stmt := (top 11)
abbrev N_law_bag : List Str := ["_law_script", "_law_k", "_law_cell", "_law_seed"]
theorem sc_law_bag : FnScope N_law_bag ["_law_script", "_law_k"] (defScope s_law_bag) := ⟨rfl, rfl, rfl, by decide +kernel, rfl, by decide +kernel, by decide +kernel⟩
theorem cl_law_bag (T : Bl mg) (R : RdF K mg c_Round) (D : DfG K mg "_law_bag" s_law_bag [] [])  : ClG CX0 P w K mg base 3 "_law_bag" s_law_bag ["_law_script", "_law_k"] [] [] (spBag K) := by
  have nd := sc_law_bag.nd
  refine D.okP sc_law_bag (fun vs H Q E h => ?_) (fun f cdv A outer s H vs Q E hr h => ?_)
  · obtain ⟨a, ns, k, rfl, _⟩ := h
    rfl
  · obtain ⟨a, ns, k, rfl, ⟨hs, hk, hk2⟩, c⟩ := h
    have hu := hu64 hr
    refine ⟨_, (pss_cons (ps_set (i := 2) nd rfl (Or.inl rfl) pe_int)
    (pss_cons (ps_set (i := 3) nd rfl (Or.inl rfl) (pe_op (opAddK (K := K) (by rfl)) (pe_op (opMulK (K := K) (by rfl)) (pe_op opMod (pe_callTy callInt (by rfl) T.int (by decide +kernel) (pa_cons (pe_callB (callSumXK (K := K) (by rfl) rfl) (by rfl) T.sum (by decide +kernel) (pa_cons (pv 0) pa_nil)) pa_nil)) pe_int) pe_int) (pe_op (opMulK (K := K) (by rfl)) pe_int (pv 1))))
    (pss_cons (ps_if (pt_cmpR opLt (pv 1) (pe_callB (callLenK (K := K) (by rfl)) (by rfl) T.len (by decide +kernel) (pa_cons (pv 0) pa_nil)) (nomark _))
      (pss_cons (ps_set (i := 2) nd rfl (Or.inl rfl) (pe_callB callAbs (by rfl) T.abs (by decide +kernel) (pa_cons (pe_callTy callInt (by rfl) T.int (by decide +kernel) (pa_cons (pe_ix (ixSeqK (K := K) (by rfl)) (pv 0) (pv 1) (fun _ _ => rfl)) pa_nil)) pa_nil)))
    (pss_one (ps_set (i := 3) nd rfl (Or.inl rfl) (pe_op (opAddK (K := K) (by rfl)) (pe_op (opAddK (K := K) (by rfl)) (pe_op opMod (pe_callTy callInt (by rfl) T.int (by decide +kernel) (pa_cons (pv 2) pa_nil)) pe_int) (pe_op (opMulK (K := K) (by rfl)) pe_int (pe_callTy callInt (by rfl) T.int (by decide +kernel) (pa_cons (pe_cmpR opLt (pe_ix (ixSeqK (K := K) (by rfl)) (pv 0) (pv 1) (fun _ _ => rfl)) pe_int (nomark _)) pa_nil)))) (pe_op (opMulK (K := K) (by rfl)) pe_int (pv 1))))))
      pss_nil)
    (pss_cons (ps_if (pt_cmpR opLt (pv 2) (pe_op opPow pe_int pe_int) (nomark _))
      (pss_one (ps_set (i := 2) nd rfl (Or.inl rfl) pe_int))
      pss_nil)
    (pss_one (ps_ret (pe_lst (pa_cons (pv 2) (pa_cons pe_int (pa_cons (pv 3) pa_nil)))))))))), ?_⟩
    try dsimp only [L2.cxOf, L2.Cx.nox]
    simp only [L2.start, N_law_bag, List.map_cons, List.map_nil, List.length_cons, List.length_nil, Nat.reduceAdd, Nat.reduceSub, List.replicate_succ, List.replicate_zero, List.cons_append, List.nil_append]

    walk_at "gos"
    all_goals exact c _ _ Gx.new Gx.rel ⟨_, _, _, At.eq⟩
local macro_rules | `(tactic| walk_at "call") => `(tactic| ((with_reducible show spBag _ _ _ _ _); refine ⟨_, _, _, rfl, ⟨inferInstance, by omega, by omega⟩, ?_⟩; intro b_ H_ np_ e_ hB_))
def spTake : Sp := fun vs H Q _ => ∃ (b : Addr) (size : Int), vs = [.ref b, .int size] ∧ (Bg b H ∧ 0 < size ∧ size < 2 ^ 200) ∧ ∀ d H', 0 ≤ d → d < size → ExB b H H' → Bg b H' → Q (.int d) H'
theorem use_take {b : Addr} {size : Int} {H : Hp} {Q : VK} {E : XK} [hb : Bg b H] (h1 : 0 < size) (h2 : size < 2 ^ 200) (q : ∀ d H', 0 ≤ d → d < size → ExB b H H' → Bg b H' → Q (.int d) H') : spTake ([.ref b, .int size] ++ []) H Q E := ⟨b, size, rfl, ⟨hb, h1, h2⟩, q⟩
abbrev s_law_take : Stmt := (top 12)
abbrev N_law_take : List Str := ["_law_bag_here", "_law_size", "_law_digit", "_law_found", "_law_turn", "_law_one", "_law_two"]
theorem sc_law_take : FnScope N_law_take ["_law_bag_here", "_law_size"] (defScope s_law_take) := ⟨rfl, rfl, rfl, by decide +kernel, rfl, by decide +kernel, by decide +kernel⟩
theorem cl_law_take (T : Bl mg) (R : RdF K mg c_Round) (D : DfG K mg "_law_take" s_law_take [] [])  : ClG CX0 P w K mg base 3 "_law_take" s_law_take ["_law_bag_here", "_law_size"] [] [] spTake := by
  have nd := sc_law_take.nd
  refine D.okP sc_law_take (fun vs H Q E h => ?_) (fun f cdv A outer s H vs Q E hr h => ?_)
  · obtain ⟨b, size, rfl, _⟩ := h
    rfl
  · obtain ⟨b, size, rfl, ⟨⟨cell, cnt, seed, hb⟩, hm, hm2⟩, k⟩ := h
    have hu := hu64 hr
    refine ⟨_, (pss_cons (ps_if (pt_cmpR opGt (pe_ix (ixSeqK (K := K) (by rfl)) (pv 0) pe_int (fun _ _ => rfl)) pe_int (nomark _))
      (pss_cons (ps_set (i := 2) nd rfl (Or.inl rfl) (pe_op opMod (pe_callTy callInt (by rfl) T.int (by decide +kernel) (pa_cons (pe_ix (ixSeqK (K := K) (by rfl)) (pv 0) pe_int (fun _ _ => rfl)) pa_nil)) (pv 1)))
    (pss_cons (ps_asg (pe_op opDiv (pe_ix (ixSeqK (K := K) (by rfl)) (pv 0) pe_int (fun _ _ => rfl)) (pv 1)) (pg_sub (pv 0) pe_int set_list))
    (pss_one (ps_ret (pv 2)))))
      pss_nil)
    (pss_cons (ps_set (i := 3) nd rfl (Or.inl rfl) pe_int)
    (pss_cons (ps_for PassesOwn.never rfl (pi_range1 rfl T.range (pa_cons (pe_op (opAddK (K := K) (by rfl)) pe_int (pe_op opDiv (pe_callB (callLenK (K := K) (by rfl)) (by rfl) T.len (by decide +kernel) (pa_cons (pe_callTy callStr (by rfl) T.str (by decide +kernel) (pa_cons (pv 1) pa_nil)) pa_nil)) pe_int)) pa_nil)) (pg_name (i := 4) nd rfl (Or.inl rfl))
      (pss_cons (ps_asg (pe_op (opAddK (K := K) (by rfl)) (pe_ix (ixSeqK (K := K) (by rfl)) (pv 0) pe_int (fun _ _ => rfl)) pe_int) (pg_sub (pv 0) pe_int set_list))
    (pss_cons (ps_set (i := 5) nd rfl (Or.inl rfl) (pe_op opMod (pe_callTy callInt (by rfl) T.int (by decide +kernel) (pa_cons (pe_op (opAddK (K := K) (by rfl)) (pe_op (opAddK (K := K) (by rfl)) (pe_op (opMulK (K := K) (by rfl)) (pe_ix (ixSeqK (K := K) (by rfl)) (pv 0) pe_int (fun _ _ => rfl)) pe_int) (pe_op (opMulK (K := K) (by rfl)) (pe_ix (ixSeqK (K := K) (by rfl)) (pv 0) pe_int (fun _ _ => rfl)) pe_int)) pe_int) pa_nil)) pe_int))
    (pss_cons (ps_set (i := 6) nd rfl (Or.inl rfl) (pe_op opMod (pe_callTy callInt (by rfl) T.int (by decide +kernel) (pa_cons (pe_op (opAddK (K := K) (by rfl)) (pe_op (opAddK (K := K) (by rfl)) (pe_op (opMulK (K := K) (by rfl)) (pv 5) (pv 5)) (pe_op (opMulK (K := K) (by rfl)) (pe_ix (ixSeqK (K := K) (by rfl)) (pv 0) pe_int (fun _ _ => rfl)) pe_int)) pe_int) pa_nil)) pe_int))
    (pss_one (ps_set (i := 3) nd rfl (Or.inl rfl) (pe_op (opAddK (K := K) (by rfl)) (pe_op (opMulK (K := K) (by rfl)) (pv 3) pe_int) (pe_op opDiv (pe_op opMod (pe_callTy callInt (by rfl) T.int (by decide +kernel) (pa_cons (pe_op (opAddK (K := K) (by rfl)) (pe_op (opMulK (K := K) (by rfl)) (pv 6) (pv 6)) (pv 5)) pa_nil)) pe_int) pe_int))))))))
    (pss_one (ps_ret (pe_op opMod (pe_callTy callInt (by rfl) T.int (by decide +kernel) (pa_cons (pv 3) pa_nil)) (pv 1))))))), ?_⟩
    try dsimp only [L2.cxOf, L2.Cx.nox]
    simp only [L2.start, N_law_take, List.map_cons, List.map_nil, List.length_cons, List.length_nil, Nat.reduceAdd, Nat.reduceSub, List.replicate_succ, List.replicate_zero, List.cons_append, List.nil_append]

    have hb : At H b _ := ⟨hb⟩
    walk_at "gos"
    · exact k _ _ (Int.emod_nonneg _ (by omega)) (Int.emod_lt_of_pos _ hm) Gx.rel ⟨_, _, _, At.eq⟩
    · refine Gx.for1 [b] (fun i σ' H' => ∃ (found cnt' : Int) (a3 a4 a5 a6 : Option V), σ' = [some (.ref b), some (.int size), a3, some (.int found), a4, a5, a6] ∧ H' b = some (.lst [.int cell, .int cnt', .int seed])) (by omega) ⟨0, cnt, none, none, none, none, rfl, hb.eq⟩ ?_ ?_
      · rintro i σ' H' hi e ⟨found, cnt', a3, a4, a5, a6, rfl, hb'⟩
        have hb' : At H' b _ := ⟨hb'⟩
        walk_at "gos"
        exact Gx.li ⟨_, _, _, _, _, _, rfl, At.eq⟩
      · rintro σ' H' e ⟨found, cnt', a3, a4, a5, a6, rfl, hb'⟩
        have hb' : At H' b _ := ⟨hb'⟩
        walk_at "gos"
        exact k _ _ (Int.emod_nonneg _ (by omega)) (Int.emod_lt_of_pos _ hm) Gx.rel ⟨_, _, _, At.eq⟩
local macro_rules | `(tactic| walk_at "call") => `(tactic| ((with_reducible show spTake _ _ _ _); refine use_take (by omega) (by omega) ?_; intro d_ H_ h0_ h1_ e_ hB_))
def spNumber : Sp := fun vs H Q _ => ∃ (b : Addr) (most : Int), vs = [.ref b, .int most] ∧ (Bg b H ∧ 0 ≤ most ∧ most < 2 ^ 190) ∧ ∀ d H', 0 ≤ d → d ≤ most → ExB b H H' → Bg b H' → Q (.int d) H'
theorem use_number {b : Addr} {most : Int} {H : Hp} {Q : VK} {E : XK} [hb : Bg b H] (h1 : 0 ≤ most) (h2 : most < 2 ^ 190) (q : ∀ d H', 0 ≤ d → d ≤ most → ExB b H H' → Bg b H' → Q (.int d) H') : spNumber ([.ref b, .int most] ++ []) H Q E := ⟨b, most, rfl, ⟨hb, h1, h2⟩, q⟩
abbrev s_law_number : Stmt := (top 13)
abbrev N_law_number : List Str := ["_law_bag_here", "_law_most", "_law_way"]
theorem sc_law_number : FnScope N_law_number ["_law_bag_here", "_law_most"] (defScope s_law_number) := ⟨rfl, rfl, rfl, by decide +kernel, rfl, by decide +kernel, by decide +kernel⟩
theorem cl_law_number (T : Bl mg) (R : RdF K mg c_Round) (D : DfG K mg "_law_number" s_law_number [] []) (C_law_take : ClG CX0 P w K mg base 3 "_law_take" s_law_take ["_law_bag_here", "_law_size"] [] [] spTake) : ClG CX0 P w K mg base 5 "_law_number" s_law_number ["_law_bag_here", "_law_most"] [] [] spNumber := by
  have nd := sc_law_number.nd
  refine D.okP sc_law_number (fun vs H Q E h => ?_) (fun f cdv A outer s H vs Q E hr h => ?_)
  · obtain ⟨b, most, rfl, _⟩ := h
    rfl
  · obtain ⟨b, most, rfl, ⟨hb, hm, hm2⟩, k⟩ := h
    have hu := hu64 hr
    refine ⟨_, (pss_cons (ps_set (i := 2) nd rfl (Or.inl rfl) (pe_g C_law_take (by exact hr.mono (by decide)) (E := fun _ => E0) (fun σ => passC0 σ) (fun _ _ _ _ _ _ us hl => match us, hl with | [_, _], _ => rfl) (pa_cons (pv 0) (pa_cons pe_int pa_nil))))
    (pss_cons (ps_if (pt_cmpR opLt (pv 2) pe_int (nomark _))
      (pss_one (ps_ret (pe_callB (callMin2 rfl) (by rfl) T.min (by decide +kernel) (pa_cons (pv 1) (pa_cons (pe_g C_law_take (by exact hr.mono (by decide)) (E := fun _ => E0) (fun σ => passC0 σ) (fun _ _ _ _ _ _ us hl => match us, hl with | [_, _], _ => rfl) (pa_cons (pv 0) (pa_cons pe_int pa_nil))) pa_nil)))))
      pss_nil)
    (pss_cons (ps_if (pt_cmpR (opEqK (K := K) (by rfl) (by exact hu)) (pv 2) pe_int (nomark _))
      (pss_one (ps_ret (pe_callB (callMin2 rfl) (by rfl) T.min (by decide +kernel) (pa_cons (pv 1) (pa_cons (pe_g C_law_take (by exact hr.mono (by decide)) (E := fun _ => E0) (fun σ => passC0 σ) (fun _ _ _ _ _ _ us hl => match us, hl with | [_, _], _ => rfl) (pa_cons (pv 0) (pa_cons pe_int pa_nil))) pa_nil)))))
      pss_nil)
    (pss_cons (ps_if (pt_cmpR (opEqK (K := K) (by rfl) (by exact hu)) (pv 2) pe_int (nomark _))
      (pss_one (ps_ret (pe_op opSub (pv 1) (pe_g C_law_take (by exact hr.mono (by decide)) (E := fun _ => E0) (fun σ => passC0 σ) (fun _ _ _ _ _ _ us hl => match us, hl with | [_, _], _ => rfl) (pa_cons (pv 0) (pa_cons (pe_callB (callMin2 rfl) (by rfl) T.min (by decide +kernel) (pa_cons (pe_op (opAddK (K := K) (by rfl)) (pv 1) pe_int) (pa_cons pe_int pa_nil))) pa_nil))))))
      pss_nil)
    (pss_cons (ps_if (pt_cmpR (opEqK (K := K) (by rfl) (by exact hu)) (pv 2) pe_int (nomark _))
      (pss_one (ps_ret (pe_op opDiv (pe_g C_law_take (by exact hr.mono (by decide)) (E := fun _ => E0) (fun σ => passC0 σ) (fun _ _ _ _ _ _ us hl => match us, hl with | [_, _], _ => rfl) (pa_cons (pv 0) (pa_cons (pe_op (opAddK (K := K) (by rfl)) (pv 1) pe_int) pa_nil))) (pe_op (opAddK (K := K) (by rfl)) pe_int (pe_g C_law_take (by exact hr.mono (by decide)) (E := fun _ => E0) (fun σ => passC0 σ) (fun _ _ _ _ _ _ us hl => match us, hl with | [_, _], _ => rfl) (pa_cons (pv 0) (pa_cons (pe_op opPow pe_int pe_int) pa_nil)))))))
      pss_nil)
    (pss_one (ps_ret (pe_g C_law_take (by exact hr.mono (by decide)) (E := fun _ => E0) (fun σ => passC0 σ) (fun _ _ _ _ _ _ us hl => match us, hl with | [_, _], _ => rfl) (pa_cons (pv 0) (pa_cons (pe_op (opAddK (K := K) (by rfl)) (pv 1) pe_int) pa_nil)))))))))), ?_⟩
    try dsimp only [L2.cxOf, L2.Cx.nox]
    simp only [L2.start, N_law_number, List.map_cons, List.map_nil, List.length_cons, List.length_nil, Nat.reduceAdd, Nat.reduceSub, List.replicate_succ, List.replicate_zero, List.cons_append, List.nil_append]

    walk_at "gos"
    all_goals first
      | exact k _ _ (by omega) (by omega) Gx.rel inferInstance
      | exact k _ _ (divb (by omega) (by omega)).1 (Int.le_trans (divb (by omega) (by omega)).2 (by omega)) Gx.rel inferInstance
local macro_rules | `(tactic| walk_at "call") => `(tactic| ((with_reducible show spNumber _ _ _ _); refine use_number (by omega) (by omega) ?_; intro d_ H_ h0_ h1_ e_ hB_))
theorem mulb {a b m n : Int} (h0 : 0 ≤ a) (h1 : a ≤ m) (h2 : 0 ≤ b) (h3 : b ≤ n) : 0 ≤ a * b ∧ a * b ≤ m * n := ⟨Int.mul_nonneg h0 h2, Int.mul_le_mul h1 h3 h2 (by omega)⟩
/-- n budgets from 0 to 10 ** 30 -/
def Row (bs : List Int) (n : Int) : Prop := (bs.length : Int) = n ∧ ∀ x ∈ bs, 0 ≤ x ∧ x ≤ 10 ^ 30
theorem Row.rb {bs : List Int} {n : Int} (h : Row bs n) (h1 : 1 ≤ n) (h2 : n ≤ 12) : RB bs := ⟨by have := h.1; omega, by have := h.1; omega, fun b hb => (h.2 b hb).1, fun b hb => by have := (h.2 b hb).2; omega⟩
theorem Row.snoc {bs : List Int} {n : Int} (h : Row bs n) {x : Int} (h0 : 0 ≤ x) (h1 : x ≤ 10 ^ 30) : Row (bs ++ [x]) (n + 1) := ⟨by rw [List.length_append, ← h.1]; rfl, fun y hy => (List.mem_append.mp hy).elim (h.2 y) fun e => by rw [List.mem_singleton.mp e]; exact ⟨h0, h1⟩⟩
def spRow : Sp := fun vs H Q _ => ∃ (b : Addr) (n : Int), vs = [.ref b, .int n] ∧ (Bg b H ∧ 1 ≤ n ∧ n ≤ 12) ∧ ∀ p bs H', Nw H p → ExB b H H' → Bg b H' → At H' p (.lst (bs.map V.int)) → Row bs n → Q (.ref p) H'
abbrev s_law_row : Stmt := (top 14)
abbrev N_law_row : List Str := ["_law_bag_here", "_law_size", "_law_mode", "_law_alike", "_law_row_here", "_law_k"]
theorem sc_law_row : FnScope N_law_row ["_law_bag_here", "_law_size"] (defScope s_law_row) := ⟨rfl, rfl, rfl, by decide +kernel, rfl, by decide +kernel, by decide +kernel⟩
theorem cl_law_row (T : Bl mg) (R : RdF K mg c_Round) (D : DfG K mg "_law_row" s_law_row [] []) (C_law_take : ClG CX0 P w K mg base 3 "_law_take" s_law_take ["_law_bag_here", "_law_size"] [] [] spTake) (C_law_number : ClG CX0 P w K mg base 5 "_law_number" s_law_number ["_law_bag_here", "_law_most"] [] [] spNumber) : ClG CX0 P w K mg base 7 "_law_row" s_law_row ["_law_bag_here", "_law_size"] [] [] spRow := by
  have nd := sc_law_row.nd
  refine D.okP sc_law_row (fun vs H Q E h => ?_) (fun f cdv A outer s H vs Q E hr h => ?_)
  · obtain ⟨b, n, rfl, _⟩ := h
    rfl
  · obtain ⟨b, n, rfl, ⟨hb, h1, h2⟩, k⟩ := h
    have hu := hu64 hr
    refine ⟨_, (pss_cons (ps_set (i := 2) nd rfl (Or.inl rfl) (pe_g C_law_take (by exact hr.mono (by decide)) (E := fun _ => E0) (fun σ => passC0 σ) (fun _ _ _ _ _ _ us hl => match us, hl with | [_, _], _ => rfl) (pa_cons (pv 0) (pa_cons pe_int pa_nil))))
    (pss_cons (ps_set (i := 3) nd rfl (Or.inl rfl) (pe_g C_law_take (by exact hr.mono (by decide)) (E := fun _ => E0) (fun σ => passC0 σ) (fun _ _ _ _ _ _ us hl => match us, hl with | [_, _], _ => rfl) (pa_cons (pv 0) (pa_cons pe_int pa_nil))))
    (pss_cons (ps_set (i := 4) nd rfl (Or.inl rfl) (pe_lst pa_nil))
    (pss_cons (ps_for PassesOwn.never rfl (pi_range1 rfl T.range (pa_cons (pv 1) pa_nil)) (pg_name (i := 5) nd rfl (Or.inl rfl))
      (pss_one (ps_if (pt_cmpR (opEqK (K := K) (by rfl) (by exact hu)) (pv 2) pe_int (nomark _))
      (pss_one (ps_expr (pe_bmK (K := K) (by rfl) PySem.F.plainAttrs_list PySem.F.slot_list_append PySem.F.type_list_append mt_append (pv 4) (pa_cons (pe_g C_law_take (by exact hr.mono (by decide)) (E := fun _ => E0) (fun σ => passC0 σ) (fun _ _ _ _ _ _ us hl => match us, hl with | [_, _], _ => rfl) (pa_cons (pv 0) (pa_cons pe_int pa_nil))) pa_nil))))
      (pss_one (ps_if (pt_cmpR (opEqK (K := K) (by rfl) (by exact hu)) (pv 2) pe_int (nomark _))
      (pss_one (ps_expr (pe_bmK (K := K) (by rfl) PySem.F.plainAttrs_list PySem.F.slot_list_append PySem.F.type_list_append mt_append (pv 4) (pa_cons (pv 3) pa_nil))))
      (pss_one (ps_if (pt_cmpR (opEqK (K := K) (by rfl) (by exact hu)) (pv 2) pe_int (nomark _))
      (pss_one (ps_expr (pe_bmK (K := K) (by rfl) PySem.F.plainAttrs_list PySem.F.slot_list_append PySem.F.type_list_append mt_append (pv 4) (pa_cons (pe_op (opMulK (K := K) (by rfl)) (pe_g C_law_take (by exact hr.mono (by decide)) (E := fun _ => E0) (fun σ => passC0 σ) (fun _ _ _ _ _ _ us hl => match us, hl with | [_, _], _ => rfl) (pa_cons (pv 0) (pa_cons pe_int pa_nil))) (pe_g C_law_take (by exact hr.mono (by decide)) (E := fun _ => E0) (fun σ => passC0 σ) (fun _ _ _ _ _ _ us hl => match us, hl with | [_, _], _ => rfl) (pa_cons (pv 0) (pa_cons pe_int pa_nil)))) pa_nil))))
      (pss_one (ps_if (pt_cmpR (opEqK (K := K) (by rfl) (by exact hu)) (pv 2) pe_int (nomark _))
      (pss_one (ps_expr (pe_bmK (K := K) (by rfl) PySem.F.plainAttrs_list PySem.F.slot_list_append PySem.F.type_list_append mt_append (pv 4) (pa_cons (pe_g C_law_number (by exact hr.mono (by decide)) (E := fun _ => E0) (fun σ => passC0 σ) (fun _ _ _ _ _ _ us hl => match us, hl with | [_, _], _ => rfl) (pa_cons (pv 0) (pa_cons (pe_op opPow pe_int pe_int) pa_nil))) pa_nil))))
      (pss_one (ps_expr (pe_bmK (K := K) (by rfl) PySem.F.plainAttrs_list PySem.F.slot_list_append PySem.F.type_list_append mt_append (pv 4) (pa_cons (pe_g C_law_take (by exact hr.mono (by decide)) (E := fun _ => E0) (fun σ => passC0 σ) (fun _ _ _ _ _ _ us hl => match us, hl with | [_, _], _ => rfl) (pa_cons (pv 0) (pa_cons pe_int pa_nil))) pa_nil)))))))))))))
    (pss_one (ps_ret (pv 4))))))), ?_⟩
    try dsimp only [L2.cxOf, L2.Cx.nox]
    simp only [L2.start, N_law_row, List.map_cons, List.map_nil, List.length_cons, List.length_nil, Nat.reduceAdd, Nat.reduceSub, List.replicate_succ, List.replicate_zero, List.cons_append, List.nil_append]

    walk_at "gos"
    rename_i m H1 m0 m1 e1 hB1 al H2 a0 a1 e2 hB2 p H3 np e3 hp
    refine Gx.for1 [b, p] (fun i σ' H' => ∃ (ns : List Int) (s5 : Option V), σ' = [some (.ref b), some (.int n), some (.int m), some (.int al), some (.ref p), s5] ∧ At H' p (.lst (ns.map V.int)) ∧ Bg b H' ∧ Row ns i) (by omega) ⟨[], _, rfl, hp, inferInstance, rfl, by simp⟩ ?_ ?_
    · rintro i σ' H' hi e ⟨ns, s5, rfl, hp', hB', hR⟩
      have hl := hR.1
      walk_at "gos"
      all_goals
        rename_i hpp
        refine Gx.li ⟨ns ++ [_], _, rfl, by rw [List.map_append]; exact hpp, inferInstance, hR.snoc ?_ ?_⟩
      all_goals first
        | omega
        | exact (mulb (m := 1) (n := 5) (by omega) (by omega) (by omega) (by omega)).1
        | exact Int.le_trans (mulb (m := 1) (n := 5) (by omega) (by omega) (by omega) (by omega)).2 (by decide)
    · rintro σ' H' e ⟨ns, s5, rfl, hp', hB', hR⟩
      walk_at "gos"
      rw [show ((n.toNat : Nat) : Int) = n from by omega] at hR
      exact k p ns _ Gx.new Gx.rel inferInstance (by assumption) hR
local macro_rules | `(tactic| walk_at "call") => `(tactic| ((with_reducible show spRow _ _ _ _); refine ⟨_, _, rfl, ⟨inferInstance, by omega, by omega⟩, ?_⟩; intro p_ bs_ H_ np_ e_ hB_ hp_ hR_))
/-- the round of a list -/
def spLR (C : Addr) (K : PySem.W.Frag) (n : Nat) : Sp := fun vs H Q _ => ∃ (p : Addr) (bs : List Int), vs = [.ref p] ∧ (SqC K H p (bs.map V.int) ∧ RB bs ∧ bs.length ≤ 4 * n) ∧ ∀ a H', Nw H a → Ex H H' → RdC C H' a bs → Q (.ref a) H'
local macro_rules | `(tactic| walk_at "base") => `(tactic| (rename_i h _; have := RB.l1 (by assumption); omega))
theorem rb_mem {bs cs : List Int} (h : RB bs) (hs : ∀ x ∈ cs, x ∈ bs) (h1 : 1 ≤ cs.length) (h2 : cs.length ≤ 12) : RB cs := ⟨h1, h2, fun b hb => h.h0 b (hs b hb), fun b hb => h.h1 b (hs b hb)⟩
theorem tk1 {bs : List Int} (h : 1 ≤ bs.length) : [V.int (bs.getD (Int.toNat 0) 0)] = (bs.take 1).map V.int := by
  match bs, h with
  | a :: r, _ => rfl
theorem tk2 {bs : List Int} (h : 2 ≤ bs.length) : [V.int (bs.getD (Int.toNat 0) 0), V.int (bs.getD (Int.toNat 1) 0)] = (bs.take 2).map V.int := by
  match bs, h with
  | a :: b :: r, _ => rfl
theorem tk3 {bs : List Int} (h : 3 ≤ bs.length) : [V.int (bs.getD (Int.toNat 0) 0), V.int (bs.getD (Int.toNat 1) 0), V.int (bs.getD (Int.toNat 2) 0)] = (bs.take 3).map V.int := by
  match bs, h with
  | a :: b :: c :: r, _ => rfl
theorem tk4 {bs : List Int} (h : 4 ≤ bs.length) : [V.int (bs.getD (Int.toNat 0) 0), V.int (bs.getD (Int.toNat 1) 0), V.int (bs.getD (Int.toNat 2) 0), V.int (bs.getD (Int.toNat 3) 0)] = (bs.take 4).map V.int := by
  match bs, h with
  | a :: b :: c :: d :: r, _ => rfl
local macro_rules | `(tactic| walk_at "call") => `(tactic| ((with_reducible show spLR _ _ _ _ _ _ _); refine ⟨_, _, rfl, ⟨inferInstance, by assumption, by omega⟩, ?_⟩; intro a_ H_ np_ e_ ha_))

def spNum : Sp := fun vs H Q _ => ∃ v : Int, vs = [.int v] ∧ Q (.bl true) H
abbrev s_law_is_number : Stmt := (top 10)
abbrev N_law_is_number : List Str := ["_law_told"]
theorem sc_law_is_number : FnScope N_law_is_number ["_law_told"] (defScope s_law_is_number) := ⟨rfl, rfl, rfl, by decide +kernel, rfl, by decide +kernel, by decide +kernel⟩
theorem cl_law_is_number (T : Bl mg) (R : RdF K mg c_Round) (D : DfG K mg "_law_is_number" s_law_is_number [] [])  : ClG CX0 P w K mg base 3 "_law_is_number" s_law_is_number ["_law_told"] [] [] spNum := by
  have nd := sc_law_is_number.nd
  refine D.okP sc_law_is_number (fun vs H Q E h => ?_) (fun f cdv A outer s H vs Q E hr h => ?_)
  · obtain ⟨v, rfl, _⟩ := h
    rfl
  · obtain ⟨v, rfl, k⟩ := h
    have hu := hu64 hr
    refine ⟨_, (pss_one (ps_ret (pe_and (pe_callB (callIsiK (K := K) (by rfl)) (by rfl) T.isinstance (by decide +kernel) (pa_cons (pv 0) (pa_cons (pe_bltn (v := .ty "int") (by rfl) T.int (by decide +kernel) rfl) pa_nil))) (pe_one (pe_not (pe_callB (callIsiK (K := K) (by rfl)) (by rfl) T.isinstance (by decide +kernel) (pa_cons (pv 0) (pa_cons (pe_bltn (v := .ty "bool") (by rfl) T.bool (by decide +kernel) rfl) pa_nil)))))))), ?_⟩
    try dsimp only [L2.cxOf, L2.Cx.nox]
    simp only [L2.start, N_law_is_number, List.map_cons, List.map_nil, List.length_cons, List.length_nil, Nat.reduceAdd, Nat.reduceSub, List.replicate_succ, List.replicate_zero, List.cons_append, List.nil_append]

    walk_at "gos"
    exact k
local macro_rules | `(tactic| walk_at "call") => `(tactic| ((with_reducible show spNum _ _ _ _); refine ⟨_, rfl, ?_⟩))
/-- one more budget -/
theorem twice_at {bs : List Int} {s : Int} {r : Nat} (h : RB bs) (hr : r ≤ bs.length) : ((bs ++ bs).drop (s % (bs.length : Int)).toNat)[r]? = some (bs.getD ((s + r) % (bs.length : Int)).toNat 0) := by
  have l1 := h.l1
  obtain ⟨h0, h1⟩ := modb (s := s) (n := bs.length) (by omega)
  have e : (s + r) % (bs.length : Int) = (s % (bs.length : Int) + r) % (bs.length : Int) := by rw [Int.emod_add_emod]
  rw [e]
  obtain ⟨j, hj⟩ : ∃ j : Nat, s % (bs.length : Int) = j := ⟨(s % (bs.length : Int)).toNat, by omega⟩
  rw [hj] at h0 h1 ⊢
  rw [List.getElem?_drop, Int.toNat_natCast, show ((j : Int) + (r : Nat)) % ((bs.length : Nat) : Int) = (((j + r) % bs.length : Nat) : Int) from rfl, Int.toNat_natCast]
  have hm : (j + r) % bs.length < bs.length := Nat.mod_lt _ l1
  rw [List.getD_eq_getElem?_getD, List.getElem?_eq_getElem hm, Option.getD_some]
  by_cases z : j + r < bs.length
  · rw [List.getElem?_append_left z, List.getElem?_eq_getElem z]
    congr 2
    rw [Nat.mod_eq_of_lt z]
  · rw [List.getElem?_append_right (by omega), List.getElem?_eq_getElem (by omega)]
    congr 2
    rw [Nat.mod_eq_sub_mod (by omega), Nat.mod_eq_of_lt (by omega)]
/-- the sum of the first r budgets from s on -/
def part (bs : List Int) (s : Int) (r : Nat) : Int := (((bs ++ bs).drop (s % (bs.length : Int)).toNat).take r).sum
theorem part_succ {bs : List Int} {s : Int} {r : Nat} (h : RB bs) (hr : r ≤ bs.length) : part bs s (r + 1) = part bs s r + bs.getD ((s + r) % (bs.length : Int)).toNat 0 := by
  unfold part
  rw [List.take_succ, twice_at h hr, sum_app]
  simp

def spSum (K : PySem.W.Frag) : Sp := fun vs H Q _ => ∃ (p : Addr) (bs : List Int) (s c : Int), vs = [.ref p, .int s, .int c] ∧ (SqC K H p (bs.map V.int) ∧ RB bs ∧ 0 ≤ s ∧ s < 2 ^ 200 ∧ 0 ≤ c ∧ c < 2 ^ 200) ∧ ∀ H', Ex H H' → Q (.int (win bs s c)) H'
abbrev s_law_sum : Stmt := (top 16)
abbrev N_law_sum : List Str := ["_law_row_here", "_law_start", "_law_count_here", "_law_size", "_law_found", "_law_k"]
theorem sc_law_sum : FnScope N_law_sum ["_law_row_here", "_law_start", "_law_count_here"] (defScope s_law_sum) := ⟨rfl, rfl, rfl, by decide +kernel, rfl, by decide +kernel, by decide +kernel⟩
theorem cl_law_sum (T : Bl mg) (R : RdF K mg c_Round) (D : DfG K mg "_law_sum" s_law_sum [] [])  : ClG CX0 P w K mg base 3 "_law_sum" s_law_sum ["_law_row_here", "_law_start", "_law_count_here"] [] [] (spSum K) := by
  have nd := sc_law_sum.nd
  refine D.okP sc_law_sum (fun vs H Q E h => ?_) (fun f cdv A outer s H vs Q E hr h => ?_)
  · obtain ⟨p, bs, s, c, rfl, _⟩ := h
    rfl
  · obtain ⟨p, bs, s, c, rfl, ⟨hp, hB, h1, h2, h3, h4⟩, k⟩ := h
    have hu := hu64 hr
    refine ⟨_, (pss_cons (ps_set (i := 3) nd rfl (Or.inl rfl) (pe_callB (callLenK (K := K) (by rfl)) (by rfl) T.len (by decide +kernel) (pa_cons (pv 0) pa_nil)))
    (pss_cons (ps_set (i := 4) nd rfl (Or.inl rfl) (pe_op (opMulK (K := K) (by rfl)) (pe_op opDiv (pv 2) (pv 3)) (pe_callB (callSumXK (K := K) (by rfl) rfl) (by rfl) T.sum (by decide +kernel) (pa_cons (pv 0) pa_nil))))
    (pss_cons (ps_for PassesOwn.never rfl (pi_range1 rfl T.range (pa_cons (pe_op opMod (pe_callTy callInt (by rfl) T.int (by decide +kernel) (pa_cons (pv 2) pa_nil)) (pv 3)) pa_nil)) (pg_name (i := 5) nd rfl (Or.inl rfl))
      (pss_one (ps_set (i := 4) nd rfl (Or.inl rfl) (pe_op (opAddK (K := K) (by rfl)) (pv 4) (pe_ix (ixSeqK (K := K) (by rfl)) (pv 0) (pe_op opMod (pe_callTy callInt (by rfl) T.int (by decide +kernel) (pa_cons (pe_op (opAddK (K := K) (by rfl)) (pv 1) (pv 5)) pa_nil)) (pv 3)) (fun _ _ => rfl))))))
    (pss_one (ps_ret (pv 4)))))), ?_⟩
    try dsimp only [L2.cxOf, L2.Cx.nox]
    simp only [L2.start, N_law_sum, List.map_cons, List.map_nil, List.length_cons, List.length_nil, Nat.reduceAdd, Nat.reduceSub, List.replicate_succ, List.replicate_zero, List.cons_append, List.nil_append]

    have l1 := hB.l1
    have l2 := hB.l2
    have hs := hB.sum
    have hd := divb (n := bs.length) h3 (by omega)
    have hm := modb (s := c) (n := bs.length) (by omega)
    walk_at "gos"
    refine Gx.for1 [] (fun i σ' H' => ∃ s5, σ' = [some (.ref p), some (.int s), some (.int c), some (.int bs.length), some (.int (c / (bs.length : Int) * bs.sum + part bs s i)), s5]) (by omega) ⟨none, by simp [part]⟩ ?_ ?_
    · rintro i σ' H' hi e ⟨s5, rfl⟩
      have hm2 := modb (s := s + (i : Int)) (n := bs.length) (by omega)
      walk_at "gos"
      refine Gx.li ⟨some (.int (i : Nat)), ?_⟩
      rw [part_succ hB (by omega), ← Int.add_assoc]
    · rintro σ' H' e ⟨s5, rfl⟩
      walk_at "gos"
      exact k _ Gx.rel
local macro_rules | `(tactic| walk_at "call") => `(tactic| ((with_reducible show spSum _ _ _ _ _); refine ⟨_, _, _, _, rfl, ⟨inferInstance, by assumption, by omega, by omega, by omega, by omega⟩, ?_⟩; intro H_ e_))
theorem turn_at {bs : List Int} {f : Int} {i : Nat} (h : RB bs) (hi : i < bs.length) : (turn bs f)[i]? = some (bs.getD ((f + i) % (bs.length : Int)).toNat 0) := by
  rw [← twice_at h (by omega)]
  have l1 := h.l1
  obtain ⟨h0, h1⟩ := modb (s := f) (n := bs.length) (by omega)
  unfold turn
  have hj : (f % (bs.length : Int)).toNat < bs.length := by omega
  generalize (f % (bs.length : Int)).toNat = j at hj ⊢
  by_cases z : i < (bs.drop j).length
  · rw [List.getElem?_append_left z, List.getElem?_drop, List.getElem?_drop, List.getElem?_append_left (by rw [List.length_drop] at z; omega)]
  · have z' := z
    rw [List.length_drop] at z'
    rw [List.getElem?_append_right (by omega), List.getElem?_drop, List.length_drop]
    rw [List.getElem?_append_right (by omega), List.getElem?_take_of_lt (by omega)]
    congr 1
    omega
def spMoved (K : PySem.W.Frag) : Sp := fun vs H Q _ => ∃ (p : Addr) (bs : List Int) (f : Int), vs = [.ref p, .int f] ∧ (SqC K H p (bs.map V.int) ∧ RB bs) ∧ ∀ q H', Nw H q → Ex H H' → At H' q (.lst ((turn bs f).map V.int)) → Q (.ref q) H'
abbrev s_law_moved : Stmt := (top 17)
abbrev N_law_moved : List Str := ["_law_row_here", "_law_phase", "_law_k"]
theorem sc_law_moved : FnScope N_law_moved ["_law_row_here", "_law_phase"] (defScope s_law_moved) := ⟨rfl, rfl, rfl, by decide +kernel, rfl, by decide +kernel, by decide +kernel⟩
theorem cl_law_moved (T : Bl mg) (R : RdF K mg c_Round) (D : DfG K mg "_law_moved" s_law_moved [] [])  : ClG CX0 P w K mg base 3 "_law_moved" s_law_moved ["_law_row_here", "_law_phase"] [] [] (spMoved K) := by
  have nd := sc_law_moved.nd
  refine D.okP sc_law_moved (fun vs H Q E h => ?_) (fun f cdv A outer s H vs Q E hr h => ?_)
  · obtain ⟨p, bs, f, rfl, _⟩ := h
    rfl
  · obtain ⟨p, bs, f, rfl, ⟨hp, hB⟩, k⟩ := h
    have hu := hu64 hr
    refine ⟨_, (pss_one (ps_ret (pe_lc (own := [("_law_k", 2)]) (g := gName 2) rfl nd (pi_range1 rfl T.range (pa_cons (pe_callB (callLenK (K := K) (by rfl)) (by rfl) T.len (by decide +kernel) (pa_cons (pv 0) pa_nil)) pa_nil)) (blkOk_by (own := [("_law_k", 2)]) (N := N_law_moved) (sc := defScope s_law_moved) (by decide +kernel)) (fun _ _ _ _ _ => (pg_name (i := 2) nd rfl (Or.inl rfl))) (fun _ _ _ _ _ => pts_nil) (fun _ _ _ _ _ => (pe_ix (ixSeqK (K := K) (by rfl)) (pv 0) (pe_op opMod (pe_callTy callInt (by rfl) T.int (by decide +kernel) (pa_cons (pe_op (opAddK (K := K) (by rfl)) (pv 1) (pv 2)) pa_nil)) (pe_callB (callLenK (K := K) (by rfl)) (by rfl) T.len (by decide +kernel) (pa_cons (pv 0) pa_nil))) (fun _ _ => rfl)))))), ?_⟩
    try dsimp only [L2.cxOf, L2.Cx.nox]
    simp only [L2.start, N_law_moved, List.map_cons, List.map_nil, List.length_cons, List.length_nil, Nat.reduceAdd, Nat.reduceSub, List.replicate_succ, List.replicate_zero, List.cons_append, List.nil_append]

    have l1 := hB.l1
    have l2 := hB.l2
    have htl := turn_len (bs := bs) (f := f)
    walk_at "gos"
    refine Gx.lc1_F (fun i => ((turn bs f).take i).map V.int) (by omega) rfl (fun i hi => by rw [List.length_map, List.length_take]; omega) (fun D i H' hi hD e hp' hz => ?_) (fun D H' hD e hp' => ?_)
    · have hm2 := modb (s := f + (i : Int)) (n := bs.length) (by omega)
      walk_at "gos"
      refine ⟨Gx.rel, ?_⟩
      rw [List.take_succ, turn_at hB (by omega), List.map_append]
      rfl
    · rw [List.take_of_length_le (by omega)] at hp'
      exact k D H' Gx.new Gx.rel hp'
local macro_rules | `(tactic| walk_at "call") => `(tactic| ((with_reducible show spMoved _ _ _ _ _); refine ⟨_, _, _, rfl, ⟨inferInstance, by assumption⟩, ?_⟩; intro q_ H_ np_ e_ hq_))
theorem ten30 {x : Int} (h : x ≤ 10 ^ 30) : x < 2 ^ 110 := by omega
theorem dmul {c n : Int} (h : 0 ≤ c) (hn : 0 < n) : 0 ≤ c / n * n ∧ c / n * n ≤ c := ⟨Int.mul_nonneg (Int.ediv_nonneg h (by omega)) (by omega), Int.ediv_mul_le _ (by omega)⟩
def spCount : Sp := fun vs H Q _ => ∃ (b : Addr) (n : Int), vs = [.ref b, .int n] ∧ (Bg b H ∧ 1 ≤ n ∧ n ≤ 12) ∧ ∀ d H', 0 ≤ d → d ≤ 10 ^ 30 → ExB b H H' → Bg b H' → Q (.int d) H'
theorem use_count {b : Addr} {n : Int} {H : Hp} {Q : VK} {E : XK} [hb : Bg b H] (h1 : 1 ≤ n) (h2 : n ≤ 12) (q : ∀ d H', 0 ≤ d → d ≤ 10 ^ 30 → ExB b H H' → Bg b H' → Q (.int d) H') : spCount ([.ref b, .int n] ++ []) H Q E := ⟨b, n, rfl, ⟨hb, h1, h2⟩, q⟩
abbrev s_law_count : Stmt := (top 19)
abbrev N_law_count : List Str := ["_law_bag_here", "_law_size", "_law_count_here", "_law_way"]
theorem sc_law_count : FnScope N_law_count ["_law_bag_here", "_law_size"] (defScope s_law_count) := ⟨rfl, rfl, rfl, by decide +kernel, rfl, by decide +kernel, by decide +kernel⟩
theorem cl_law_count (T : Bl mg) (R : RdF K mg c_Round) (D : DfG K mg "_law_count" s_law_count [] []) (C_law_take : ClG CX0 P w K mg base 3 "_law_take" s_law_take ["_law_bag_here", "_law_size"] [] [] spTake) (C_law_number : ClG CX0 P w K mg base 5 "_law_number" s_law_number ["_law_bag_here", "_law_most"] [] [] spNumber) : ClG CX0 P w K mg base 7 "_law_count" s_law_count ["_law_bag_here", "_law_size"] [] [] spCount := by
  have nd := sc_law_count.nd
  refine D.okP sc_law_count (fun vs H Q E h => ?_) (fun f cdv A outer s H vs Q E hr h => ?_)
  · obtain ⟨b, n, rfl, _⟩ := h
    rfl
  · obtain ⟨b, n, rfl, ⟨hb, h1, h2⟩, k⟩ := h
    have hu := hu64 hr
    refine ⟨_, (pss_cons (ps_set (i := 2) nd rfl (Or.inl rfl) (pe_g C_law_number (by exact hr.mono (by decide)) (E := fun _ => E0) (fun σ => passC0 σ) (fun _ _ _ _ _ _ us hl => match us, hl with | [_, _], _ => rfl) (pa_cons (pv 0) (pa_cons (pe_op opPow pe_int pe_int) pa_nil))))
    (pss_cons (ps_set (i := 3) nd rfl (Or.inl rfl) (pe_g C_law_take (by exact hr.mono (by decide)) (E := fun _ => E0) (fun σ => passC0 σ) (fun _ _ _ _ _ _ us hl => match us, hl with | [_, _], _ => rfl) (pa_cons (pv 0) (pa_cons pe_int pa_nil))))
    (pss_cons (ps_if (pt_cmpR (opEqK (K := K) (by rfl) (by exact hu)) (pv 3) pe_int (nomark _))
      (pss_one (ps_set (i := 2) nd rfl (Or.inl rfl) (pe_op (opMulK (K := K) (by rfl)) (pe_op opDiv (pv 2) (pv 1)) (pv 1))))
      pss_nil)
    (pss_cons (ps_if (pt_cmpR (opEqK (K := K) (by rfl) (by exact hu)) (pv 3) pe_int (nomark _))
      (pss_one (ps_set (i := 2) nd rfl (Or.inl rfl) (pe_callB (callMax2 rfl) (by rfl) T.max (by decide +kernel) (pa_cons pe_int (pa_cons (pe_op opSub (pe_op (opMulK (K := K) (by rfl)) (pe_op opDiv (pv 2) (pv 1)) (pv 1)) pe_int) pa_nil)))))
      pss_nil)
    (pss_cons (ps_if (pt_cmpR (opEqK (K := K) (by rfl) (by exact hu)) (pv 3) pe_int (nomark _))
      (pss_one (ps_set (i := 2) nd rfl (Or.inl rfl) (pe_callB (callMin2 rfl) (by rfl) T.min (by decide +kernel) (pa_cons (pe_op opPow pe_int pe_int) (pa_cons (pe_op (opAddK (K := K) (by rfl)) (pe_op (opMulK (K := K) (by rfl)) (pe_op opDiv (pv 2) (pv 1)) (pv 1)) pe_int) pa_nil)))))
      pss_nil)
    (pss_one (ps_ret (pv 2)))))))), ?_⟩
    try dsimp only [L2.cxOf, L2.Cx.nox]
    simp only [L2.start, N_law_count, List.map_cons, List.map_nil, List.length_cons, List.length_nil, Nat.reduceAdd, Nat.reduceSub, List.replicate_succ, List.replicate_zero, List.cons_append, List.nil_append]

    walk_at "go"
    rename_i c H1 c0 c1 e1 hB1 w H2 w0 w1 e2 hB2
    have hm := dmul (n := n) c0 (by omega)
    have hd := divb (n := n) c0 (by omega)
    walk_at "gos"
    all_goals exact k _ _ (by omega) (by omega) Gx.rel inferInstance
local macro_rules | `(tactic| walk_at "call") => `(tactic| ((with_reducible show spCount _ _ _ _); refine use_count (by omega) (by omega) ?_; intro d_ H_ h0_ h1_ e_ hB_))

/-! windows grow by one -/
theorem part_full {bs : List Int} {s : Int} (h : RB bs) : part bs s bs.length = bs.sum := by
  have l1 := h.l1
  obtain ⟨h0, h1⟩ := modb (s := s) (n := bs.length) (by omega)
  unfold part
  have hj : (s % (bs.length : Int)).toNat < bs.length := by omega
  generalize (s % (bs.length : Int)).toNat = j at hj ⊢
  rw [List.drop_append_of_le_length (by omega), List.take_append, List.take_of_length_le (by rw [List.length_drop]; omega), List.length_drop, show bs.length - (bs.length - j) = j from by omega, sum_app]
  have e := congrArg List.sum (List.take_append_drop j bs)
  rw [sum_app] at e
  omega
theorem win_nat {bs : List Int} {s : Int} {c : Nat} : win bs s (c : Nat) = ((c / bs.length : Nat) : Int) * bs.sum + part bs s (c % bs.length) := rfl
theorem win_succ {bs : List Int} {s : Int} (h : RB bs) (c : Nat) : win bs s ((c + 1 : Nat) : Int) = win bs s (c : Nat) + nth bs (s + (c : Nat)) := by
  have l1 := h.l1
  have hr : c % bs.length < bs.length := Nat.mod_lt _ l1
  have hc := Nat.div_add_mod c bs.length
  have hn : nth bs (s + (c : Nat)) = bs.getD ((s + ((c % bs.length : Nat) : Int)) % (bs.length : Int)).toNat 0 := by
    unfold nth
    rw [show ((c % bs.length : Nat) : Int) = (c : Int) % (bs.length : Int) from rfl, Int.add_emod_emod]
  have hp := part_succ h (s := s) (r := c % bs.length) (Nat.le_of_lt hr)
  rw [win_nat, win_nat, hn]
  by_cases z : c % bs.length + 1 < bs.length
  · have e : c + 1 = bs.length * (c / bs.length) + (c % bs.length + 1) := by omega
    have e1 : (c + 1) / bs.length = c / bs.length := by
      rw [e, Nat.mul_add_div l1, Nat.div_eq_of_lt z, Nat.add_zero]
    have e2 : (c + 1) % bs.length = c % bs.length + 1 := by
      rw [e, Nat.mul_add_mod, Nat.mod_eq_of_lt z]
    rw [e1, e2, hp]
    omega
  · have y : c % bs.length + 1 = bs.length := by omega
    have e : c + 1 = bs.length * (c / bs.length) + bs.length := by omega
    have e1 : (c + 1) / bs.length = c / bs.length + 1 := by
      rw [e, Nat.mul_add_div l1, Nat.div_self l1]
    have e2 : (c + 1) % bs.length = 0 := by
      rw [e, Nat.mul_add_mod, Nat.mod_self]
    rw [y, part_full h] at hp
    rw [e1, e2, show part bs s 0 = 0 from by simp [part], Int.natCast_add, Int.add_mul]
    omega
theorem nth_b {bs : List Int} {t : Int} (h : RB bs) : 0 ≤ nth bs t := by
  have l1 := h.l1
  obtain ⟨h0, h1⟩ := modb (s := t) (n := bs.length) (by omega)
  unfold nth
  rw [List.getD_eq_getElem?_getD, List.getElem?_eq_getElem (by omega), Option.getD_some]
  exact h.h0 _ (List.getElem_mem _)
theorem win_mod {bs : List Int} {s c : Int} : win bs s c = win bs (s % (bs.length : Int)) c := by
  unfold win
  rw [Int.emod_emod_of_dvd _ (Int.dvd_refl _)]
theorem least_le {bs : List Int} {s c : Int} (h : RB bs) : least bs c ≤ win bs s c := by
  have l1 := h.l1
  obtain ⟨h0, h1⟩ := modb (s := s) (n := bs.length) (by omega)
  rw [win_mod]
  refine (least_is h).2 _ (List.mem_map.mpr ⟨(s % (bs.length : Int)).toNat, List.mem_range.mpr (by omega), ?_⟩)
  rw [Int.toNat_of_nonneg h0]

abbrev s_Round___len__ : Stmt := (inClass (top 8) 4)
abbrev N_Round___len__ : List Str := ["self"]
theorem sc_Round___len__ : FnScope N_Round___len__ ["self"] (defScope s_Round___len__) := ⟨rfl, rfl, rfl, by decide +kernel, rfl, by decide +kernel, by decide +kernel⟩
theorem cl_Round___len__ (T : Bl mg) (R : RdF K mg c_Round) (D : DfM K c_Round "__len__" "Round.__len__" s_Round___len__ [] [])  : ClM CX0 P w K mg base 3 c_Round "__len__" "Round.__len__" s_Round___len__ ["self"] [] [] (Gx.spLen c_Round) := by
  have nd := sc_Round___len__.nd
  refine D.okP sc_Round___len__ (fun vs H Q E h => ?_) (fun f cdv A outer s H vs Q E hr h => ?_)
  · obtain ⟨a, bs, rfl, _⟩ := h
    rfl
  · obtain ⟨a, bs, rfl, ha, k⟩ := h
    have hu := hu64 hr
    refine ⟨_, (pss_one (ps_ret (pe_callB (callLenK (K := K) (by rfl)) (by rfl) T.len (by decide +kernel) (pa_cons (pe_fld (pv 0) rfl) pa_nil)))), ?_⟩
    try dsimp only [L2.cxOf, L2.Cx.nox]
    simp only [L2.start, N_Round___len__, List.map_cons, List.map_nil, List.length_cons, List.length_nil, Nat.reduceAdd, Nat.reduceSub, List.replicate_succ, List.replicate_zero, List.cons_append, List.nil_append]

    walk_at "gos"
    exact k
local macro_rules | `(tactic| walk_at "call") => `(tactic| ((with_reducible show Gx.spLen _ _ _ _ _); refine Gx.use_len (by omega) ?_))
theorem rb_one {b : Int} (h : 0 ≤ b) (h2 : b < 2 ^ 110) : RB [b] := ⟨by simp, by simp, by simp; omega, by simp; omega⟩
def spConst (C : Addr) : Sp := fun vs H Q _ => ∃ b : Int, vs = [.int b] ∧ 0 ≤ b ∧ ∀ a H', Nw H a → Ex H H' → RdC C H' a [b] → Q (.ref a) H'
abbrev s_Round_constant : Stmt := (inClass (top 8) 2)
abbrev N_Round_constant : List Str := ["budget"]
theorem sc_Round_constant : FnScope N_Round_constant ["budget"] (defScope s_Round_constant) := ⟨rfl, rfl, rfl, by decide +kernel, rfl, by decide +kernel, by decide +kernel⟩
theorem cl_Round_constant (T : Bl mg) (R : RdF K mg c_Round) (D : DfT K c_Round "constant" "Round.constant" s_Round_constant) (C_Round___init__ : ClI CX0 P w K mg base 5 c_Round) : ClT CX0 P w K mg base 7 c_Round "constant" "Round.constant" s_Round_constant ["budget"] (spConst c_Round) := by
  have nd := sc_Round_constant.nd
  refine D.okP sc_Round_constant (fun vs H Q E h => ?_) (fun f cdv A outer s H vs Q E hr h => ?_)
  · obtain ⟨b, rfl, _⟩ := h
    rfl
  · obtain ⟨b, rfl, hb, k⟩ := h
    have hu := hu64 hr
    refine ⟨_, (pss_one (ps_ret (pe_mkR C_Round___init__ (by exact hr.mono (by decide)) (by rfl) R.g pass0 (pa_cons (pv 0) pa_nil)))), ?_⟩
    try dsimp only [L2.cxOf, L2.Cx.nox]
    simp only [L2.start, N_Round_constant, List.map_cons, List.map_nil, List.length_cons, List.length_nil, Nat.reduceAdd, Nat.reduceSub, List.replicate_succ, List.replicate_zero, List.cons_append, List.nil_append]

    walk_at "gos"
    exact Gx.g_mkR (bs := [b]) (by simp) (by simp; omega) k
local macro_rules | `(tactic| walk_at "call") => `(tactic| ((with_reducible show spConst _ _ _ _ _); refine ⟨_, rfl, by omega, ?_⟩; intro a_ H_ np_ e_ ha_))
def spREq (C : Addr) : Sp := fun vs H Q _ => ∃ (a b : Addr) (bs cs : List Int), vs = [.ref a, .ref b] ∧ (RdC C H a bs ∧ RdC C H b cs) ∧ Q (.bl (decide (bs = cs))) H
abbrev s_Round___eq__ : Stmt := (inClass (top 8) 5)
abbrev N_Round___eq__ : List Str := ["self", "other"]
theorem sc_Round___eq__ : FnScope N_Round___eq__ ["self", "other"] (defScope s_Round___eq__) := ⟨rfl, rfl, rfl, by decide +kernel, rfl, by decide +kernel, by decide +kernel⟩
theorem cl_Round___eq__ (T : Bl mg) (R : RdF K mg c_Round) (D : DfM K c_Round "__eq__" "Round.__eq__" s_Round___eq__ [] [])  : ClM CX0 P w K mg base 3 c_Round "__eq__" "Round.__eq__" s_Round___eq__ ["self", "other"] [] [] (spREq c_Round) := by
  have nd := sc_Round___eq__.nd
  refine D.okP sc_Round___eq__ (fun vs H Q E h => ?_) (fun f cdv A outer s H vs Q E hr h => ?_)
  · obtain ⟨a, b, bs, cs, rfl, _⟩ := h
    rfl
  · obtain ⟨a, b, bs, cs, rfl, ⟨ha, hb⟩, k⟩ := h
    have hu := hu64 hr
    refine ⟨_, (pss_one (ps_ret (pe_and (pe_callB (callIsiK (K := K) (by rfl)) (by rfl) T.isinstance (by decide +kernel) (pa_cons (pv 1) (pa_cons (pe_glob (v := .ref c_Round) (u := .ref c_Round) (by rfl) R.g rfl) pa_nil))) (pe_one (pe_cmpR (opEqK (K := K) (by rfl) (by exact hu)) (pe_fld (pv 0) rfl) (pe_fld (pv 1) rfl) (nomark _)))))), ?_⟩
    try dsimp only [L2.cxOf, L2.Cx.nox]
    simp only [L2.start, N_Round___eq__, List.map_cons, List.map_nil, List.length_cons, List.length_nil, Nat.reduceAdd, Nat.reduceSub, List.replicate_succ, List.replicate_zero, List.cons_append, List.nil_append]

    walk_at "gos"
    exact k
theorem use_req {C a b : Addr} {bs cs : List Int} {H : Hp} {Q : VK} {E : XK} [h1 : RdC C H a bs] [h2 : RdC C H b cs] (q : Q (.bl (decide (bs = cs))) H) : spREq C [.ref a, .ref b] H (fun v H' => (∃ q, v = .bl q) ∧ Q v H') E := ⟨a, b, bs, cs, rfl, ⟨h1, h2⟩, ⟨_, rfl⟩, q⟩
local macro_rules | `(tactic| walk_at "call") => `(tactic| ((with_reducible show spREq _ _ _ _ _); refine use_req ?_))
theorem tkA1 {bs : List Int} (h : bs.length = 1) : [V.int (bs.getD (Int.toNat 0) 0)] = bs.map V.int := by
  match bs, h with
  | [x0], _ => rfl
theorem tkA2 {bs : List Int} (h : bs.length = 2) : [V.int (bs.getD (Int.toNat 0) 0), V.int (bs.getD (Int.toNat 1) 0)] = bs.map V.int := by
  match bs, h with
  | [x0, x1], _ => rfl
theorem tkA3 {bs : List Int} (h : bs.length = 3) : [V.int (bs.getD (Int.toNat 0) 0), V.int (bs.getD (Int.toNat 1) 0), V.int (bs.getD (Int.toNat 2) 0)] = bs.map V.int := by
  match bs, h with
  | [x0, x1, x2], _ => rfl
theorem tkA4 {bs : List Int} (h : bs.length = 4) : [V.int (bs.getD (Int.toNat 0) 0), V.int (bs.getD (Int.toNat 1) 0), V.int (bs.getD (Int.toNat 2) 0), V.int (bs.getD (Int.toNat 3) 0)] = bs.map V.int := by
  match bs, h with
  | [x0, x1, x2, x3], _ => rfl
theorem tkA5 {bs : List Int} (h : bs.length = 5) : [V.int (bs.getD (Int.toNat 0) 0), V.int (bs.getD (Int.toNat 1) 0), V.int (bs.getD (Int.toNat 2) 0), V.int (bs.getD (Int.toNat 3) 0), V.int (bs.getD (Int.toNat 4) 0)] = bs.map V.int := by
  match bs, h with
  | [x0, x1, x2, x3, x4], _ => rfl
theorem tkA6 {bs : List Int} (h : bs.length = 6) : [V.int (bs.getD (Int.toNat 0) 0), V.int (bs.getD (Int.toNat 1) 0), V.int (bs.getD (Int.toNat 2) 0), V.int (bs.getD (Int.toNat 3) 0), V.int (bs.getD (Int.toNat 4) 0), V.int (bs.getD (Int.toNat 5) 0)] = bs.map V.int := by
  match bs, h with
  | [x0, x1, x2, x3, x4, x5], _ => rfl
theorem tkA7 {bs : List Int} (h : bs.length = 7) : [V.int (bs.getD (Int.toNat 0) 0), V.int (bs.getD (Int.toNat 1) 0), V.int (bs.getD (Int.toNat 2) 0), V.int (bs.getD (Int.toNat 3) 0), V.int (bs.getD (Int.toNat 4) 0), V.int (bs.getD (Int.toNat 5) 0), V.int (bs.getD (Int.toNat 6) 0)] = bs.map V.int := by
  match bs, h with
  | [x0, x1, x2, x3, x4, x5, x6], _ => rfl
theorem tkA8 {bs : List Int} (h : bs.length = 8) : [V.int (bs.getD (Int.toNat 0) 0), V.int (bs.getD (Int.toNat 1) 0), V.int (bs.getD (Int.toNat 2) 0), V.int (bs.getD (Int.toNat 3) 0), V.int (bs.getD (Int.toNat 4) 0), V.int (bs.getD (Int.toNat 5) 0), V.int (bs.getD (Int.toNat 6) 0), V.int (bs.getD (Int.toNat 7) 0)] = bs.map V.int := by
  match bs, h with
  | [x0, x1, x2, x3, x4, x5, x6, x7], _ => rfl
theorem tkA9 {bs : List Int} (h : bs.length = 9) : [V.int (bs.getD (Int.toNat 0) 0), V.int (bs.getD (Int.toNat 1) 0), V.int (bs.getD (Int.toNat 2) 0), V.int (bs.getD (Int.toNat 3) 0), V.int (bs.getD (Int.toNat 4) 0), V.int (bs.getD (Int.toNat 5) 0), V.int (bs.getD (Int.toNat 6) 0), V.int (bs.getD (Int.toNat 7) 0), V.int (bs.getD (Int.toNat 8) 0)] = bs.map V.int := by
  match bs, h with
  | [x0, x1, x2, x3, x4, x5, x6, x7, x8], _ => rfl
theorem tkA10 {bs : List Int} (h : bs.length = 10) : [V.int (bs.getD (Int.toNat 0) 0), V.int (bs.getD (Int.toNat 1) 0), V.int (bs.getD (Int.toNat 2) 0), V.int (bs.getD (Int.toNat 3) 0), V.int (bs.getD (Int.toNat 4) 0), V.int (bs.getD (Int.toNat 5) 0), V.int (bs.getD (Int.toNat 6) 0), V.int (bs.getD (Int.toNat 7) 0), V.int (bs.getD (Int.toNat 8) 0), V.int (bs.getD (Int.toNat 9) 0)] = bs.map V.int := by
  match bs, h with
  | [x0, x1, x2, x3, x4, x5, x6, x7, x8, x9], _ => rfl
theorem tkA11 {bs : List Int} (h : bs.length = 11) : [V.int (bs.getD (Int.toNat 0) 0), V.int (bs.getD (Int.toNat 1) 0), V.int (bs.getD (Int.toNat 2) 0), V.int (bs.getD (Int.toNat 3) 0), V.int (bs.getD (Int.toNat 4) 0), V.int (bs.getD (Int.toNat 5) 0), V.int (bs.getD (Int.toNat 6) 0), V.int (bs.getD (Int.toNat 7) 0), V.int (bs.getD (Int.toNat 8) 0), V.int (bs.getD (Int.toNat 9) 0), V.int (bs.getD (Int.toNat 10) 0)] = bs.map V.int := by
  match bs, h with
  | [x0, x1, x2, x3, x4, x5, x6, x7, x8, x9, x10], _ => rfl
theorem tkA12 {bs : List Int} (h : bs.length = 12) : [V.int (bs.getD (Int.toNat 0) 0), V.int (bs.getD (Int.toNat 1) 0), V.int (bs.getD (Int.toNat 2) 0), V.int (bs.getD (Int.toNat 3) 0), V.int (bs.getD (Int.toNat 4) 0), V.int (bs.getD (Int.toNat 5) 0), V.int (bs.getD (Int.toNat 6) 0), V.int (bs.getD (Int.toNat 7) 0), V.int (bs.getD (Int.toNat 8) 0), V.int (bs.getD (Int.toNat 9) 0), V.int (bs.getD (Int.toNat 10) 0), V.int (bs.getD (Int.toNat 11) 0)] = bs.map V.int := by
  match bs, h with
  | [x0, x1, x2, x3, x4, x5, x6, x7, x8, x9, x10, x11], _ => rfl
/-- the round of a list, made by one call -/
def spLR1 (C : Addr) (K : PySem.W.Frag) : Sp := fun vs H Q _ => ∃ (p : Addr) (bs : List Int), vs = [.ref p] ∧ (SqC K H p (bs.map V.int) ∧ RB bs) ∧ ∀ a H', Nw H a → Ex H H' → RdC C H' a bs → Q (.ref a) H'
abbrev s_law_round : Stmt := (top 15)
abbrev N_law_round : List Str := ["_law_row_here"]
theorem sc_law_round : FnScope N_law_round ["_law_row_here"] (defScope s_law_round) := ⟨rfl, rfl, rfl, by decide +kernel, rfl, by decide +kernel, by decide +kernel⟩
theorem cl_law_round (T : Bl mg) (R : RdF K mg c_Round) (D : DfG K mg "_law_round" s_law_round [] []) (C_Round___init__ : ClI CX0 P w K mg base 5 c_Round) : ClG CX0 P w K mg base 7 "_law_round" s_law_round ["_law_row_here"] [] [] (spLR1 c_Round K) := by
  have nd := sc_law_round.nd
  refine D.okP sc_law_round (fun vs H Q E h => ?_) (fun f cdv A outer s H vs Q E hr h => ?_)
  · obtain ⟨p, bs, rfl, _⟩ := h
    rfl
  · obtain ⟨p, bs, rfl, ⟨hs, hB⟩, k⟩ := h
    have hu := hu64 hr
    refine ⟨_, (pss_cons (ps_if (pt_cmpR (opEqK (K := K) (by rfl) (by exact hu)) (pe_callB (callLenK (K := K) (by rfl)) (by rfl) T.len (by decide +kernel) (pa_cons (pv 0) pa_nil)) pe_int (nomark _))
      (pss_one (ps_ret (pe_mkR C_Round___init__ (by exact hr.mono (by decide)) (by rfl) R.g pass0 (pa_cons (pe_ix (ixSeqK (K := K) (by rfl)) (pv 0) pe_int (fun _ _ => rfl)) pa_nil))))
      pss_nil)
    (pss_cons (ps_if (pt_cmpR (opEqK (K := K) (by rfl) (by exact hu)) (pe_callB (callLenK (K := K) (by rfl)) (by rfl) T.len (by decide +kernel) (pa_cons (pv 0) pa_nil)) pe_int (nomark _))
      (pss_one (ps_ret (pe_mkR C_Round___init__ (by exact hr.mono (by decide)) (by rfl) R.g pass0 (pa_cons (pe_ix (ixSeqK (K := K) (by rfl)) (pv 0) pe_int (fun _ _ => rfl)) (pa_cons (pe_ix (ixSeqK (K := K) (by rfl)) (pv 0) pe_int (fun _ _ => rfl)) pa_nil)))))
      pss_nil)
    (pss_cons (ps_if (pt_cmpR (opEqK (K := K) (by rfl) (by exact hu)) (pe_callB (callLenK (K := K) (by rfl)) (by rfl) T.len (by decide +kernel) (pa_cons (pv 0) pa_nil)) pe_int (nomark _))
      (pss_one (ps_ret (pe_mkR C_Round___init__ (by exact hr.mono (by decide)) (by rfl) R.g pass0 (pa_cons (pe_ix (ixSeqK (K := K) (by rfl)) (pv 0) pe_int (fun _ _ => rfl)) (pa_cons (pe_ix (ixSeqK (K := K) (by rfl)) (pv 0) pe_int (fun _ _ => rfl)) (pa_cons (pe_ix (ixSeqK (K := K) (by rfl)) (pv 0) pe_int (fun _ _ => rfl)) pa_nil))))))
      pss_nil)
    (pss_cons (ps_if (pt_cmpR (opEqK (K := K) (by rfl) (by exact hu)) (pe_callB (callLenK (K := K) (by rfl)) (by rfl) T.len (by decide +kernel) (pa_cons (pv 0) pa_nil)) pe_int (nomark _))
      (pss_one (ps_ret (pe_mkR C_Round___init__ (by exact hr.mono (by decide)) (by rfl) R.g pass0 (pa_cons (pe_ix (ixSeqK (K := K) (by rfl)) (pv 0) pe_int (fun _ _ => rfl)) (pa_cons (pe_ix (ixSeqK (K := K) (by rfl)) (pv 0) pe_int (fun _ _ => rfl)) (pa_cons (pe_ix (ixSeqK (K := K) (by rfl)) (pv 0) pe_int (fun _ _ => rfl)) (pa_cons (pe_ix (ixSeqK (K := K) (by rfl)) (pv 0) pe_int (fun _ _ => rfl)) pa_nil)))))))
      pss_nil)
    (pss_cons (ps_if (pt_cmpR (opEqK (K := K) (by rfl) (by exact hu)) (pe_callB (callLenK (K := K) (by rfl)) (by rfl) T.len (by decide +kernel) (pa_cons (pv 0) pa_nil)) pe_int (nomark _))
      (pss_one (ps_ret (pe_mkR C_Round___init__ (by exact hr.mono (by decide)) (by rfl) R.g pass0 (pa_cons (pe_ix (ixSeqK (K := K) (by rfl)) (pv 0) pe_int (fun _ _ => rfl)) (pa_cons (pe_ix (ixSeqK (K := K) (by rfl)) (pv 0) pe_int (fun _ _ => rfl)) (pa_cons (pe_ix (ixSeqK (K := K) (by rfl)) (pv 0) pe_int (fun _ _ => rfl)) (pa_cons (pe_ix (ixSeqK (K := K) (by rfl)) (pv 0) pe_int (fun _ _ => rfl)) (pa_cons (pe_ix (ixSeqK (K := K) (by rfl)) (pv 0) pe_int (fun _ _ => rfl)) pa_nil))))))))
      pss_nil)
    (pss_cons (ps_if (pt_cmpR (opEqK (K := K) (by rfl) (by exact hu)) (pe_callB (callLenK (K := K) (by rfl)) (by rfl) T.len (by decide +kernel) (pa_cons (pv 0) pa_nil)) pe_int (nomark _))
      (pss_one (ps_ret (pe_mkR C_Round___init__ (by exact hr.mono (by decide)) (by rfl) R.g pass0 (pa_cons (pe_ix (ixSeqK (K := K) (by rfl)) (pv 0) pe_int (fun _ _ => rfl)) (pa_cons (pe_ix (ixSeqK (K := K) (by rfl)) (pv 0) pe_int (fun _ _ => rfl)) (pa_cons (pe_ix (ixSeqK (K := K) (by rfl)) (pv 0) pe_int (fun _ _ => rfl)) (pa_cons (pe_ix (ixSeqK (K := K) (by rfl)) (pv 0) pe_int (fun _ _ => rfl)) (pa_cons (pe_ix (ixSeqK (K := K) (by rfl)) (pv 0) pe_int (fun _ _ => rfl)) (pa_cons (pe_ix (ixSeqK (K := K) (by rfl)) (pv 0) pe_int (fun _ _ => rfl)) pa_nil)))))))))
      pss_nil)
    (pss_cons (ps_if (pt_cmpR (opEqK (K := K) (by rfl) (by exact hu)) (pe_callB (callLenK (K := K) (by rfl)) (by rfl) T.len (by decide +kernel) (pa_cons (pv 0) pa_nil)) pe_int (nomark _))
      (pss_one (ps_ret (pe_mkR C_Round___init__ (by exact hr.mono (by decide)) (by rfl) R.g pass0 (pa_cons (pe_ix (ixSeqK (K := K) (by rfl)) (pv 0) pe_int (fun _ _ => rfl)) (pa_cons (pe_ix (ixSeqK (K := K) (by rfl)) (pv 0) pe_int (fun _ _ => rfl)) (pa_cons (pe_ix (ixSeqK (K := K) (by rfl)) (pv 0) pe_int (fun _ _ => rfl)) (pa_cons (pe_ix (ixSeqK (K := K) (by rfl)) (pv 0) pe_int (fun _ _ => rfl)) (pa_cons (pe_ix (ixSeqK (K := K) (by rfl)) (pv 0) pe_int (fun _ _ => rfl)) (pa_cons (pe_ix (ixSeqK (K := K) (by rfl)) (pv 0) pe_int (fun _ _ => rfl)) (pa_cons (pe_ix (ixSeqK (K := K) (by rfl)) (pv 0) pe_int (fun _ _ => rfl)) pa_nil))))))))))
      pss_nil)
    (pss_cons (ps_if (pt_cmpR (opEqK (K := K) (by rfl) (by exact hu)) (pe_callB (callLenK (K := K) (by rfl)) (by rfl) T.len (by decide +kernel) (pa_cons (pv 0) pa_nil)) pe_int (nomark _))
      (pss_one (ps_ret (pe_mkR C_Round___init__ (by exact hr.mono (by decide)) (by rfl) R.g pass0 (pa_cons (pe_ix (ixSeqK (K := K) (by rfl)) (pv 0) pe_int (fun _ _ => rfl)) (pa_cons (pe_ix (ixSeqK (K := K) (by rfl)) (pv 0) pe_int (fun _ _ => rfl)) (pa_cons (pe_ix (ixSeqK (K := K) (by rfl)) (pv 0) pe_int (fun _ _ => rfl)) (pa_cons (pe_ix (ixSeqK (K := K) (by rfl)) (pv 0) pe_int (fun _ _ => rfl)) (pa_cons (pe_ix (ixSeqK (K := K) (by rfl)) (pv 0) pe_int (fun _ _ => rfl)) (pa_cons (pe_ix (ixSeqK (K := K) (by rfl)) (pv 0) pe_int (fun _ _ => rfl)) (pa_cons (pe_ix (ixSeqK (K := K) (by rfl)) (pv 0) pe_int (fun _ _ => rfl)) (pa_cons (pe_ix (ixSeqK (K := K) (by rfl)) (pv 0) pe_int (fun _ _ => rfl)) pa_nil)))))))))))
      pss_nil)
    (pss_cons (ps_if (pt_cmpR (opEqK (K := K) (by rfl) (by exact hu)) (pe_callB (callLenK (K := K) (by rfl)) (by rfl) T.len (by decide +kernel) (pa_cons (pv 0) pa_nil)) pe_int (nomark _))
      (pss_one (ps_ret (pe_mkR C_Round___init__ (by exact hr.mono (by decide)) (by rfl) R.g pass0 (pa_cons (pe_ix (ixSeqK (K := K) (by rfl)) (pv 0) pe_int (fun _ _ => rfl)) (pa_cons (pe_ix (ixSeqK (K := K) (by rfl)) (pv 0) pe_int (fun _ _ => rfl)) (pa_cons (pe_ix (ixSeqK (K := K) (by rfl)) (pv 0) pe_int (fun _ _ => rfl)) (pa_cons (pe_ix (ixSeqK (K := K) (by rfl)) (pv 0) pe_int (fun _ _ => rfl)) (pa_cons (pe_ix (ixSeqK (K := K) (by rfl)) (pv 0) pe_int (fun _ _ => rfl)) (pa_cons (pe_ix (ixSeqK (K := K) (by rfl)) (pv 0) pe_int (fun _ _ => rfl)) (pa_cons (pe_ix (ixSeqK (K := K) (by rfl)) (pv 0) pe_int (fun _ _ => rfl)) (pa_cons (pe_ix (ixSeqK (K := K) (by rfl)) (pv 0) pe_int (fun _ _ => rfl)) (pa_cons (pe_ix (ixSeqK (K := K) (by rfl)) (pv 0) pe_int (fun _ _ => rfl)) pa_nil))))))))))))
      pss_nil)
    (pss_cons (ps_if (pt_cmpR (opEqK (K := K) (by rfl) (by exact hu)) (pe_callB (callLenK (K := K) (by rfl)) (by rfl) T.len (by decide +kernel) (pa_cons (pv 0) pa_nil)) pe_int (nomark _))
      (pss_one (ps_ret (pe_mkR C_Round___init__ (by exact hr.mono (by decide)) (by rfl) R.g pass0 (pa_cons (pe_ix (ixSeqK (K := K) (by rfl)) (pv 0) pe_int (fun _ _ => rfl)) (pa_cons (pe_ix (ixSeqK (K := K) (by rfl)) (pv 0) pe_int (fun _ _ => rfl)) (pa_cons (pe_ix (ixSeqK (K := K) (by rfl)) (pv 0) pe_int (fun _ _ => rfl)) (pa_cons (pe_ix (ixSeqK (K := K) (by rfl)) (pv 0) pe_int (fun _ _ => rfl)) (pa_cons (pe_ix (ixSeqK (K := K) (by rfl)) (pv 0) pe_int (fun _ _ => rfl)) (pa_cons (pe_ix (ixSeqK (K := K) (by rfl)) (pv 0) pe_int (fun _ _ => rfl)) (pa_cons (pe_ix (ixSeqK (K := K) (by rfl)) (pv 0) pe_int (fun _ _ => rfl)) (pa_cons (pe_ix (ixSeqK (K := K) (by rfl)) (pv 0) pe_int (fun _ _ => rfl)) (pa_cons (pe_ix (ixSeqK (K := K) (by rfl)) (pv 0) pe_int (fun _ _ => rfl)) (pa_cons (pe_ix (ixSeqK (K := K) (by rfl)) (pv 0) pe_int (fun _ _ => rfl)) pa_nil)))))))))))))
      pss_nil)
    (pss_cons (ps_if (pt_cmpR (opEqK (K := K) (by rfl) (by exact hu)) (pe_callB (callLenK (K := K) (by rfl)) (by rfl) T.len (by decide +kernel) (pa_cons (pv 0) pa_nil)) pe_int (nomark _))
      (pss_one (ps_ret (pe_mkR C_Round___init__ (by exact hr.mono (by decide)) (by rfl) R.g pass0 (pa_cons (pe_ix (ixSeqK (K := K) (by rfl)) (pv 0) pe_int (fun _ _ => rfl)) (pa_cons (pe_ix (ixSeqK (K := K) (by rfl)) (pv 0) pe_int (fun _ _ => rfl)) (pa_cons (pe_ix (ixSeqK (K := K) (by rfl)) (pv 0) pe_int (fun _ _ => rfl)) (pa_cons (pe_ix (ixSeqK (K := K) (by rfl)) (pv 0) pe_int (fun _ _ => rfl)) (pa_cons (pe_ix (ixSeqK (K := K) (by rfl)) (pv 0) pe_int (fun _ _ => rfl)) (pa_cons (pe_ix (ixSeqK (K := K) (by rfl)) (pv 0) pe_int (fun _ _ => rfl)) (pa_cons (pe_ix (ixSeqK (K := K) (by rfl)) (pv 0) pe_int (fun _ _ => rfl)) (pa_cons (pe_ix (ixSeqK (K := K) (by rfl)) (pv 0) pe_int (fun _ _ => rfl)) (pa_cons (pe_ix (ixSeqK (K := K) (by rfl)) (pv 0) pe_int (fun _ _ => rfl)) (pa_cons (pe_ix (ixSeqK (K := K) (by rfl)) (pv 0) pe_int (fun _ _ => rfl)) (pa_cons (pe_ix (ixSeqK (K := K) (by rfl)) (pv 0) pe_int (fun _ _ => rfl)) pa_nil))))))))))))))
      pss_nil)
    (pss_one (ps_ret (pe_mkR C_Round___init__ (by exact hr.mono (by decide)) (by rfl) R.g pass0 (pa_cons (pe_ix (ixSeqK (K := K) (by rfl)) (pv 0) pe_int (fun _ _ => rfl)) (pa_cons (pe_ix (ixSeqK (K := K) (by rfl)) (pv 0) pe_int (fun _ _ => rfl)) (pa_cons (pe_ix (ixSeqK (K := K) (by rfl)) (pv 0) pe_int (fun _ _ => rfl)) (pa_cons (pe_ix (ixSeqK (K := K) (by rfl)) (pv 0) pe_int (fun _ _ => rfl)) (pa_cons (pe_ix (ixSeqK (K := K) (by rfl)) (pv 0) pe_int (fun _ _ => rfl)) (pa_cons (pe_ix (ixSeqK (K := K) (by rfl)) (pv 0) pe_int (fun _ _ => rfl)) (pa_cons (pe_ix (ixSeqK (K := K) (by rfl)) (pv 0) pe_int (fun _ _ => rfl)) (pa_cons (pe_ix (ixSeqK (K := K) (by rfl)) (pv 0) pe_int (fun _ _ => rfl)) (pa_cons (pe_ix (ixSeqK (K := K) (by rfl)) (pv 0) pe_int (fun _ _ => rfl)) (pa_cons (pe_ix (ixSeqK (K := K) (by rfl)) (pv 0) pe_int (fun _ _ => rfl)) (pa_cons (pe_ix (ixSeqK (K := K) (by rfl)) (pv 0) pe_int (fun _ _ => rfl)) (pa_cons (pe_ix (ixSeqK (K := K) (by rfl)) (pv 0) pe_int (fun _ _ => rfl)) pa_nil)))))))))))))))))))))))))), ?_⟩
    try dsimp only [L2.cxOf, L2.Cx.nox]
    simp only [L2.start, N_law_round, List.map_cons, List.map_nil, List.length_cons, List.length_nil, Nat.reduceAdd, Nat.reduceSub, List.replicate_succ, List.replicate_zero, List.cons_append, List.nil_append]

    have l1 := hB.l1
    have l2 := hB.l2
    walk_at "gos"
    · rw [tkA1 (by omega)]
      exact Gx.g_mkR (by omega) hB.h0 k
    · rw [tkA2 (by omega)]
      exact Gx.g_mkR (by omega) hB.h0 k
    · rw [tkA3 (by omega)]
      exact Gx.g_mkR (by omega) hB.h0 k
    · rw [tkA4 (by omega)]
      exact Gx.g_mkR (by omega) hB.h0 k
    · rw [tkA5 (by omega)]
      exact Gx.g_mkR (by omega) hB.h0 k
    · rw [tkA6 (by omega)]
      exact Gx.g_mkR (by omega) hB.h0 k
    · rw [tkA7 (by omega)]
      exact Gx.g_mkR (by omega) hB.h0 k
    · rw [tkA8 (by omega)]
      exact Gx.g_mkR (by omega) hB.h0 k
    · rw [tkA9 (by omega)]
      exact Gx.g_mkR (by omega) hB.h0 k
    · rw [tkA10 (by omega)]
      exact Gx.g_mkR (by omega) hB.h0 k
    · rw [tkA11 (by omega)]
      exact Gx.g_mkR (by omega) hB.h0 k
    · rw [tkA12 (by omega)]
      exact Gx.g_mkR (by omega) hB.h0 k
local macro_rules | `(tactic| walk_at "call") => `(tactic| ((with_reducible show spLR1 _ _ _ _ _ _); refine ⟨_, _, rfl, ⟨by infer_instance, by assumption⟩, ?_⟩; intro a_ H_ np_ e_ ha_))
def spHas (C : Addr) (K : PySem.W.Frag) : Sp := fun vs H Q _ => ∃ (a p : Addr) (bs : List Int), vs = [.ref a, .ref p] ∧ (RdC C H a bs ∧ SqC K H p (bs.map V.int) ∧ RB bs) ∧ ∀ H', Ex H H' → Q (.bl true) H'
abbrev s_law_has : Stmt := (top 18)
abbrev N_law_has : List Str := ["_law_made", "_law_row_here", "_law_told", "_law_one"]
theorem sc_law_has : FnScope N_law_has ["_law_made", "_law_row_here"] (defScope s_law_has) := ⟨rfl, rfl, rfl, by decide +kernel, rfl, by decide +kernel, by decide +kernel⟩
theorem cl_law_has (T : Bl mg) (R : RdF K mg c_Round) (D : DfG K mg "_law_has" s_law_has [] []) (C_law_is_number : ClG CX0 P w K mg base 3 "_law_is_number" s_law_is_number ["_law_told"] [] [] spNum) (C_Round_budgets : ClP CX0 P w K mg base 3 c_Round "budgets" "Round.budgets" s_Round_budgets (spBud c_Round)) (C_Round___len__ : ClM CX0 P w K mg base 3 c_Round "__len__" "Round.__len__" s_Round___len__ ["self"] [] [] (Gx.spLen c_Round)) : ClG CX0 P w K mg base 5 "_law_has" s_law_has ["_law_made", "_law_row_here"] [] [] (spHas c_Round K) := by
  have nd := sc_law_has.nd
  refine D.okP sc_law_has (fun vs H Q E h => ?_) (fun f cdv A outer s H vs Q E hr h => ?_)
  · obtain ⟨a, p, bs, rfl, _⟩ := h
    rfl
  · obtain ⟨a, p, bs, rfl, ⟨ha, hp, hB⟩, k⟩ := h
    have hu := hu64 hr
    refine ⟨_, (pss_cons (ps_if (PW.pt (pw_or (pt_not (pt_val (pe_callB (callIsiK (K := K) (by rfl)) (by rfl) T.isinstance (by decide +kernel) (pa_cons (pv 0) (pa_cons (pe_glob (v := .ref c_Round) (u := .ref c_Round) (by rfl) R.g rfl) pa_nil))))) (pw_or1 (pt_cmpR (opNeK (K := K) (by rfl) (by exact hu)) (pe_callB (callOwnLen C_Round___len__ (by exact hr.mono (by decide)) pass0 (fun _ _ _ _ _ _ us hl => match us, hl with | [_], _ => rfl)) (by rfl) T.len (by decide +kernel) (pa_cons (pv 0) pa_nil)) (pe_callB (callLenK (K := K) (by rfl)) (by rfl) T.len (by decide +kernel) (pa_cons (pv 1) pa_nil)) (nomark _)))))
      (pss_one (ps_ret pe_bl))
      pss_nil)
    (pss_cons (ps_set (i := 2) nd rfl (Or.inl rfl) (pe_p C_Round_budgets R.c (by exact hr.mono (by decide)) pass0 (fun _ _ _ _ _ _ us hl => match us, hl with | [_], _ => rfl) (pv 0)))
    (pss_cons (ps_if (PW.pt (pw_or (pt_not (pt_val (pe_callB (callIsiK (K := K) (by rfl)) (by rfl) T.isinstance (by decide +kernel) (pa_cons (pv 2) (pa_cons (pe_bltn (v := .ty "list") (by rfl) T.list (by decide +kernel) rfl) pa_nil))))) (pw_or1 (pt_cmpR (opNeK (K := K) (by rfl) (by exact hu)) (pe_callB (callLenK (K := K) (by rfl)) (by rfl) T.len (by decide +kernel) (pa_cons (pv 2) pa_nil)) (pe_callB (callLenK (K := K) (by rfl)) (by rfl) T.len (by decide +kernel) (pa_cons (pv 1) pa_nil)) (nomark _)))))
      (pss_one (ps_ret pe_bl))
      pss_nil)
    (pss_one (ps_ret (pe_and (pe_callB (callAllK (K := K) (by rfl) rfl) (by rfl) T.all (by decide +kernel) (pa_cons (pe_lc (own := [("_law_one", 3)]) (g := gName 3) rfl nd (pi_listK (K := K) (by rfl) (pv 2)) (blkOk_by (own := [("_law_one", 3)]) (N := N_law_has) (sc := defScope s_law_has) (by decide +kernel)) (fun _ _ _ _ _ => (pg_name (i := 3) nd rfl (Or.inl rfl))) (fun _ _ _ _ _ => pts_nil) (fun _ _ _ _ _ => (pe_g C_law_is_number (by exact hr.mono (by decide)) (E := fun _ => E0) (fun σ => passC0 σ) (fun _ _ _ _ _ _ us hl => match us, hl with | [_], _ => rfl) (pa_cons (pv 3) pa_nil)))) pa_nil)) (pe_one (pe_cmpR (opEqK (K := K) (by rfl) (by exact hu)) (pv 2) (pv 1) (nomark _))))))))), ?_⟩
    try dsimp only [L2.cxOf, L2.Cx.nox]
    simp only [L2.start, N_law_has, List.map_cons, List.map_nil, List.length_cons, List.length_nil, Nat.reduceAdd, Nat.reduceSub, List.replicate_succ, List.replicate_zero, List.cons_append, List.nil_append]

    have l1 := hB.l1
    have l2 := hB.l2
    walk_at "gos"
    refine Gx.lcL_F (fun i => (List.replicate i true).map V.bl) rfl (fun i hi => by rw [List.length_map] at hi; simp; omega) (fun D i x H' hx hD e hp' hz => ?_) (fun D H' hD e hp' => ?_)
    · obtain ⟨c, hcm, rfl⟩ := Gx.map_at hx
      walk_at "gos"
      exact ⟨Gx.rel, by rw [List.replicate_succ', List.map_append]; rfl⟩
    · walk_at "gos"
      exact Gx.q_dec (k _ Gx.rel) rfl

local macro_rules | `(tactic| walk_at "call") => `(tactic| ((with_reducible show spHas _ _ _ _ _ _); refine ⟨_, _, _, rfl, ⟨by infer_instance, by infer_instance, by first | assumption | exact RB.turn (by assumption)⟩, ?_⟩; intro H_ e_))
theorem win_one {bs : List Int} {s : Int} (h : RB bs) : win bs s 1 = nth bs s := by
  have e := win_succ h (s := s) 0
  rw [show ((0 + 1 : Nat) : Int) = 1 from rfl, show ((0 : Nat) : Int) = 0 from rfl, win_zero, Int.add_zero, Int.zero_add] at e
  exact e
theorem g_ixM {K : PySem.W.Frag} {H : Hp} {Q : VK} {p : Addr} {bs : List Int} {d : Int} [h : SqC K H p (bs.map V.int)] (hB : RB bs) (q : Q (.int (nth bs d)) H) : rIx K (.ref p) (.int (d % (bs.length : Int))) H Q := by
  have l1 := hB.l1
  have m := modb (s := d) (n := bs.length) (by omega)
  exact Gx.g_ixI m.1 m.2 q
local macro_rules | `(tactic| walk_at "call") => `(tactic| ((with_reducible show L2.rIx _ _ _ _ _); refine g_ixM (by assumption) ?_))
def spAns (C : Addr) (K : PySem.W.Frag) : Sp := fun vs H Q _ => ∃ (a p b : Addr) (bs : List Int), vs = [.ref a, .ref p, .ref b] ∧ (RdC C H a bs ∧ SqC K H p (bs.map V.int) ∧ NeC p b ∧ RB bs ∧ Bg b H) ∧ ∀ H', ExB b H H' → Bg b H' → Q (.bl true) H'
abbrev s_law_answers : Stmt := (top 20)
abbrev N_law_answers : List Str := ["_law_made", "_law_row_here", "_law_bag_here", "_law_turn", "_law_moment", "_law_told", "_law_start", "_law_count_here"]
theorem sc_law_answers : FnScope N_law_answers ["_law_made", "_law_row_here", "_law_bag_here"] (defScope s_law_answers) := ⟨rfl, rfl, rfl, by decide +kernel, rfl, by decide +kernel, by decide +kernel⟩
theorem cl_law_answers (T : Bl mg) (R : RdF K mg c_Round) (D : DfG K mg "_law_answers" s_law_answers [] []) (C_Round_total : ClM CX0 P w K mg base 5 c_Round "total" "Round.total" s_Round_total ["self", "start", "count"] [] [] (spWin c_Round)) (C_law_sum : ClG CX0 P w K mg base 3 "_law_sum" s_law_sum ["_law_row_here", "_law_start", "_law_count_here"] [] [] (spSum K)) (C_law_is_number : ClG CX0 P w K mg base 3 "_law_is_number" s_law_is_number ["_law_told"] [] [] spNum) (C_law_count : ClG CX0 P w K mg base 7 "_law_count" s_law_count ["_law_bag_here", "_law_size"] [] [] spCount) (C_law_number : ClG CX0 P w K mg base 5 "_law_number" s_law_number ["_law_bag_here", "_law_most"] [] [] spNumber) (C_Round_at : ClM CX0 P w K mg base 5 c_Round "at" "Round.at" s_Round_at ["self", "t"] [] [] (spAt c_Round)) : ClG CX0 P w K mg base 9 "_law_answers" s_law_answers ["_law_made", "_law_row_here", "_law_bag_here"] [] [] (spAns c_Round K) := by
  have nd := sc_law_answers.nd
  refine D.okP sc_law_answers (fun vs H Q E h => ?_) (fun f cdv A outer s H vs Q E hr h => ?_)
  · obtain ⟨a, p, b, bs, rfl, _⟩ := h
    rfl
  · obtain ⟨a, p, b, bs, rfl, ⟨ha, hp, hne, hB, hb⟩, k⟩ := h
    have hu := hu64 hr
    refine ⟨_, (pss_cons (ps_for PassesOwn.never rfl (pi_range1 rfl T.range (pa_cons pe_int pa_nil)) (pg_name (i := 3) nd rfl (Or.inl rfl))
      (pss_cons (ps_set (i := 4) nd rfl (Or.inl rfl) (pe_g C_law_number (by exact hr.mono (by decide)) (E := fun _ => E0) (fun σ => passC0 σ) (fun _ _ _ _ _ _ us hl => match us, hl with | [_, _], _ => rfl) (pa_cons (pv 2) (pa_cons (pe_op opPow pe_int pe_int) pa_nil))))
    (pss_cons (ps_set (i := 5) nd rfl (Or.inl rfl) (pe_m C_Round_at R.c (by exact hr.mono (by decide)) pass0 (fun _ _ _ _ _ _ us hl => match us, hl with | [_, _], _ => rfl) (pv 0) (pa_cons (pv 4) pa_nil)))
    (pss_cons (ps_if (PW.pt (pw_or (pt_not (pt_val (pe_g C_law_is_number (by exact hr.mono (by decide)) (E := fun _ => E0) (fun σ => passC0 σ) (fun _ _ _ _ _ _ us hl => match us, hl with | [_], _ => rfl) (pa_cons (pv 5) pa_nil)))) (pw_or1 (pt_cmpR (opNeK (K := K) (by rfl) (by exact hu)) (pv 5) (pe_ix (ixSeqK (K := K) (by rfl)) (pv 1) (pe_op opMod (pe_callTy callInt (by rfl) T.int (by decide +kernel) (pa_cons (pv 4) pa_nil)) (pe_callB (callLenK (K := K) (by rfl)) (by rfl) T.len (by decide +kernel) (pa_cons (pv 1) pa_nil))) (fun _ _ => rfl)) (nomark _)))))
      (pss_one (ps_ret pe_bl))
      pss_nil)
    (pss_cons (ps_set (i := 6) nd rfl (Or.inl rfl) (pe_g C_law_number (by exact hr.mono (by decide)) (E := fun _ => E0) (fun σ => passC0 σ) (fun _ _ _ _ _ _ us hl => match us, hl with | [_, _], _ => rfl) (pa_cons (pv 2) (pa_cons (pe_op opPow pe_int pe_int) pa_nil))))
    (pss_cons (ps_set (i := 7) nd rfl (Or.inl rfl) (pe_g C_law_count (by exact hr.mono (by decide)) (E := fun _ => E0) (fun σ => passC0 σ) (fun _ _ _ _ _ _ us hl => match us, hl with | [_, _], _ => rfl) (pa_cons (pv 2) (pa_cons (pe_callB (callLenK (K := K) (by rfl)) (by rfl) T.len (by decide +kernel) (pa_cons (pv 1) pa_nil)) pa_nil))))
    (pss_cons (ps_set (i := 5) nd rfl (Or.inl rfl) (pe_m C_Round_total R.c (by exact hr.mono (by decide)) pass0 (fun _ _ _ _ _ _ us hl => match us, hl with | [_, _, _], _ => rfl) (pv 0) (pa_cons (pv 6) (pa_cons (pv 7) pa_nil))))
    (pss_cons (ps_if (PW.pt (pw_or (pt_not (pt_val (pe_g C_law_is_number (by exact hr.mono (by decide)) (E := fun _ => E0) (fun σ => passC0 σ) (fun _ _ _ _ _ _ us hl => match us, hl with | [_], _ => rfl) (pa_cons (pv 5) pa_nil)))) (pw_or1 (pt_cmpR (opNeK (K := K) (by rfl) (by exact hu)) (pv 5) (pe_g C_law_sum (by exact hr.mono (by decide)) (E := fun _ => E0) (fun σ => passC0 σ) (fun _ _ _ _ _ _ us hl => match us, hl with | [_, _, _], _ => rfl) (pa_cons (pv 1) (pa_cons (pv 6) (pa_cons (pv 7) pa_nil)))) (nomark _)))))
      (pss_one (ps_ret pe_bl))
      pss_nil)
    (pss_one (ps_if (PW.pt (pw_or (pt_cmpR (opNeK (K := K) (by rfl) (by exact hu)) (pe_m C_Round_total R.c (by exact hr.mono (by decide)) pass0 (fun _ _ _ _ _ _ us hl => match us, hl with | [_, _, _], _ => rfl) (pv 0) (pa_cons (pv 6) (pa_cons pe_int pa_nil))) pe_int (nomark _)) (pw_or1 (pt_cmpR (opNeK (K := K) (by rfl) (by exact hu)) (pe_m C_Round_total R.c (by exact hr.mono (by decide)) pass0 (fun _ _ _ _ _ _ us hl => match us, hl with | [_, _, _], _ => rfl) (pv 0) (pa_cons (pv 6) (pa_cons pe_int pa_nil))) (pe_ix (ixSeqK (K := K) (by rfl)) (pv 1) (pe_op opMod (pe_callTy callInt (by rfl) T.int (by decide +kernel) (pa_cons (pv 6) pa_nil)) (pe_callB (callLenK (K := K) (by rfl)) (by rfl) T.len (by decide +kernel) (pa_cons (pv 1) pa_nil))) (fun _ _ => rfl)) (nomark _)))))
      (pss_one (ps_ret pe_bl))
      pss_nil))))))))))
    (pss_one (ps_ret pe_bl))), ?_⟩
    try dsimp only [L2.cxOf, L2.Cx.nox]
    simp only [L2.start, N_law_answers, List.map_cons, List.map_nil, List.length_cons, List.length_nil, Nat.reduceAdd, Nat.reduceSub, List.replicate_succ, List.replicate_zero, List.cons_append, List.nil_append]

    have l1 := hB.l1
    have l2 := hB.l2
    walk_at "gos"
    refine Gx.for1 [b] (fun i σ' H' => ∃ s3 s4 s5 s6 s7 : Option V, σ' = [some (.ref a), some (.ref p), some (.ref b), s3, s4, s5, s6, s7] ∧ Bg b H') (by omega) ⟨_, _, _, _, _, rfl, inferInstance⟩ ?_ ?_
    · rintro i σ' H' hi e ⟨s3, s4, s5, s6, s7, rfl, hB'⟩
      walk_at "gos"
      all_goals first
        | exact absurd (win_one hB) (by assumption)
        | exact absurd win_zero (by assumption)
        | exact Gx.li ⟨_, _, _, _, _, rfl, inferInstance⟩
    · rintro σ' H' e ⟨s3, s4, s5, s6, s7, rfl, hB'⟩
      walk_at "gos"
      exact k _ Gx.rel inferInstance
local macro_rules | `(tactic| walk_at "call") => `(tactic| ((with_reducible show spAns _ _ _ _ _ _); refine ⟨_, _, _, _, rfl, ⟨by infer_instance, by infer_instance, by infer_instance, by first | assumption | exact RB.turn (by assumption), by infer_instance⟩, ?_⟩; intro H_ e_ hB_))
theorem turn_back {bs : List Int} {f : Int} (h : RB bs) : turn (turn bs f) ((bs.length : Int) - f % (bs.length : Int)) = bs := by
  have l1 := h.l1
  obtain ⟨h0, h1⟩ := modb (s := f) (n := bs.length) (by omega)
  obtain ⟨j, hj⟩ : ∃ j : Nat, f % (bs.length : Int) = j := ⟨(f % (bs.length : Int)).toNat, by omega⟩
  have hl := turn_len (bs := bs) (f := f)
  unfold turn at hl ⊢
  rw [hl, hj]
  rw [hj] at h0 h1
  rw [Int.toNat_natCast]
  by_cases z : j = 0
  · subst z
    rw [show ((bs.length : Int) - ((0 : Nat) : Int)) % (bs.length : Int) = 0 from by simp]
    simp
  · rw [show ((bs.length : Int) - (j : Int)) % (bs.length : Int) = ((bs.length - j : Nat) : Int) from by rw [Int.emod_eq_of_lt (by omega) (by omega)]; omega, Int.toNat_natCast]
    rw [List.drop_append_of_le_length (by rw [List.length_drop]; omega), List.take_append_of_le_length (by rw [List.length_drop]; omega)]
    rw [List.drop_of_length_le (l := bs.drop j) (by rw [List.length_drop]; omega), List.take_of_length_le (l := bs.drop j) (by rw [List.length_drop]; omega), List.nil_append, List.take_append_drop]
def spShf (C : Addr) (K : PySem.W.Frag) : Sp := fun vs H Q _ => ∃ (a p b : Addr) (bs : List Int), vs = [.ref a, .ref p, .ref b] ∧ (RdC C H a bs ∧ SqC K H p (bs.map V.int) ∧ NeC p b ∧ RB bs ∧ Bg b H) ∧ ∀ H', ExB b H H' → Bg b H' → Q (.bl true) H'
abbrev s_law_shifts : Stmt := (top 21)
abbrev N_law_shifts : List Str := ["_law_made", "_law_row_here", "_law_bag_here", "_law_phase", "_law_moved_here", "_law_due"]
theorem sc_law_shifts : FnScope N_law_shifts ["_law_made", "_law_row_here", "_law_bag_here"] (defScope s_law_shifts) := ⟨rfl, rfl, rfl, by decide +kernel, rfl, by decide +kernel, by decide +kernel⟩
theorem cl_law_shifts (T : Bl mg) (R : RdF K mg c_Round) (D : DfG K mg "_law_shifts" s_law_shifts [] []) (C_law_has : ClG CX0 P w K mg base 5 "_law_has" s_law_has ["_law_made", "_law_row_here"] [] [] (spHas c_Round K)) (C_Round_shifted : ClM CX0 P w K mg base 7 c_Round "shifted" "Round.shifted" s_Round_shifted ["self", "phase"] [] [] (spShift c_Round)) (C_law_answers : ClG CX0 P w K mg base 9 "_law_answers" s_law_answers ["_law_made", "_law_row_here", "_law_bag_here"] [] [] (spAns c_Round K)) (C_law_moved : ClG CX0 P w K mg base 3 "_law_moved" s_law_moved ["_law_row_here", "_law_phase"] [] [] (spMoved K)) (C_law_number : ClG CX0 P w K mg base 5 "_law_number" s_law_number ["_law_bag_here", "_law_most"] [] [] spNumber) : ClG CX0 P w K mg base 11 "_law_shifts" s_law_shifts ["_law_made", "_law_row_here", "_law_bag_here"] [] [] (spShf c_Round K) := by
  have nd := sc_law_shifts.nd
  refine D.okP sc_law_shifts (fun vs H Q E h => ?_) (fun f cdv A outer s H vs Q E hr h => ?_)
  · obtain ⟨a, p, b, bs, rfl, _⟩ := h
    rfl
  · obtain ⟨a, p, b, bs, rfl, ⟨ha, hp, hne, hB, hb⟩, k⟩ := h
    have hu := hu64 hr
    refine ⟨_, (pss_cons (ps_set (i := 3) nd rfl (Or.inl rfl) (pe_g C_law_number (by exact hr.mono (by decide)) (E := fun _ => E0) (fun σ => passC0 σ) (fun _ _ _ _ _ _ us hl => match us, hl with | [_, _], _ => rfl) (pa_cons (pv 2) (pa_cons (pe_op opPow pe_int pe_int) pa_nil))))
    (pss_cons (ps_set (i := 4) nd rfl (Or.inl rfl) (pe_m C_Round_shifted R.c (by exact hr.mono (by decide)) pass0 (fun _ _ _ _ _ _ us hl => match us, hl with | [_, _], _ => rfl) (pv 0) (pa_cons (pv 3) pa_nil)))
    (pss_cons (ps_set (i := 5) nd rfl (Or.inl rfl) (pe_g C_law_moved (by exact hr.mono (by decide)) (E := fun _ => E0) (fun σ => passC0 σ) (fun _ _ _ _ _ _ us hl => match us, hl with | [_, _], _ => rfl) (pa_cons (pv 1) (pa_cons (pv 3) pa_nil))))
    (pss_cons (ps_if (PW.pt (pw_or (pt_not (pt_val (pe_g C_law_has (by exact hr.mono (by decide)) (E := fun _ => E0) (fun σ => passC0 σ) (fun _ _ _ _ _ _ us hl => match us, hl with | [_, _], _ => rfl) (pa_cons (pv 4) (pa_cons (pv 5) pa_nil))))) (pw_or1 (pt_not (pt_val (pe_g C_law_answers (by exact hr.mono (by decide)) (E := fun _ => E0) (fun σ => passC0 σ) (fun _ _ _ _ _ _ us hl => match us, hl with | [_, _, _], _ => rfl) (pa_cons (pv 4) (pa_cons (pv 5) (pa_cons (pv 2) pa_nil)))))))))
      (pss_one (ps_ret pe_bl))
      pss_nil)
    (pss_one (ps_ret (pe_and (pe_g C_law_has (by exact hr.mono (by decide)) (E := fun _ => E0) (fun σ => passC0 σ) (fun _ _ _ _ _ _ us hl => match us, hl with | [_, _], _ => rfl) (pa_cons (pe_m C_Round_shifted R.c (by exact hr.mono (by decide)) pass0 (fun _ _ _ _ _ _ us hl => match us, hl with | [_, _], _ => rfl) (pv 4) (pa_cons (pe_op opSub (pe_callB (callLenK (K := K) (by rfl)) (by rfl) T.len (by decide +kernel) (pa_cons (pv 1) pa_nil)) (pe_op opMod (pe_callTy callInt (by rfl) T.int (by decide +kernel) (pa_cons (pv 3) pa_nil)) (pe_callB (callLenK (K := K) (by rfl)) (by rfl) T.len (by decide +kernel) (pa_cons (pv 1) pa_nil)))) pa_nil)) (pa_cons (pv 1) pa_nil))) (pe_one (pe_g C_law_has (by exact hr.mono (by decide)) (E := fun _ => E0) (fun σ => passC0 σ) (fun _ _ _ _ _ _ us hl => match us, hl with | [_, _], _ => rfl) (pa_cons (pv 0) (pa_cons (pv 1) pa_nil))))))))))), ?_⟩
    try dsimp only [L2.cxOf, L2.Cx.nox]
    simp only [L2.start, N_law_shifts, List.map_cons, List.map_nil, List.length_cons, List.length_nil, Nat.reduceAdd, Nat.reduceSub, List.replicate_succ, List.replicate_zero, List.cons_append, List.nil_append]

    have l1 := hB.l1
    have l2 := hB.l2
    walk_at "go"
    rename_i f H1 f0 f1 e1 hB1 a2 H2 na e2 ha2 q H3 nq e3 hq H4 e4 H5 e5 hB5
    have hm := modb (s := f) (n := bs.length) (by omega)
    have hT := hB.turn (f := f)
    walk_at "go"
    rename_i a3 H6 n3 e6 ha3
    rw [turn_back hB] at ha3
    walk_at "go"
    exact k _ Gx.rel inferInstance
local macro_rules | `(tactic| walk_at "call") => `(tactic| ((with_reducible show spShf _ _ _ _ _ _); refine ⟨_, _, _, _, rfl, ⟨by infer_instance, by infer_instance, by infer_instance, by assumption, by infer_instance⟩, ?_⟩; intro H_ e_ hB_))

/-! lists of integers: slices, the last item, one item more -/
section
variable {K : PySem.W.Frag} {H : Hp} {Q : VK} {p b : Addr} {ns ms : List Int}
theorem g_slLI {lo hi : Option Int} [h : SqC K H p (ns.map V.int)] (q : ∀ p H2, Nw H p → Ex H H2 → At H2 p (.lst ((cutI ns lo hi).map V.int)) → Q (.ref p) H2) : rSlX K (.ref p) lo hi H Q := Gx.g_slL fun a H2 n e h2 => by
  rw [Gx.cutV_int] at h2
  exact q a H2 n e h2
theorem g_slTo {i : Int} [h : SqC K H p (ns.map V.int)] (hi : 0 ≤ i) (q : ∀ p H2, Nw H p → Ex H H2 → At H2 p (.lst ((ns.take i.toNat).map V.int)) → Q (.ref p) H2) : rSlX K (.ref p) none (some i) H Q := g_slLI fun a H2 n e h2 => by
  rw [cutI_to hi] at h2
  exact q a H2 n e h2
theorem g_slFrom {i : Int} [h : SqC K H p (ns.map V.int)] (hi : 0 ≤ i) (q : ∀ p H2, Nw H p → Ex H H2 → At H2 p (.lst ((ns.drop i.toNat).map V.int)) → Q (.ref p) H2) : rSlX K (.ref p) (some i) none H Q := g_slLI fun a H2 n e h2 => by
  rw [cutI_from hi] at h2
  exact q a H2 n e h2
theorem cutI_init (hl : 1 ≤ ns.length) : Gx.cutI ns none (some (-1)) = ns.take (ns.length - 1) := by
  unfold Gx.cutI
  rw [HT.sIx_none, List.drop_zero, Nat.sub_zero]
  congr 1
  show (if (-1 : Int) < 0 then (-1 + (ns.length : Int)).toNat else min (-1 : Int).toNat ns.length) = _
  rw [if_pos (by decide)]
  omega
theorem g_slInit [h : SqC K H p (ns.map V.int)] (hl : 1 ≤ ns.length) (q : ∀ p H2, Nw H p → Ex H H2 → At H2 p (.lst ((ns.take (ns.length - 1)).map V.int)) → Q (.ref p) H2) : rSlX K (.ref p) none (some (-1)) H Q := g_slLI fun a H2 n e h2 => by
  rw [cutI_init hl] at h2
  exact q a H2 n e h2
theorem g_ixEnd [h : SqC K H p (ns.map V.int)] (hl : 1 ≤ ns.length) (q : Q (.int (ns.getD (ns.length - 1) 0)) H) : rIx K (.ref p) (.int (-1)) H Q := by
  refine Gx.g_ixL ?_ q
  have e : ixN (ns.map V.int).length (-1) = some (ns.length - 1) := by
    unfold ixN
    rw [List.length_map, if_neg (by decide), if_pos (by omega)]
    congr 1
    omega
  unfold atI
  rw [e, Option.bind_some, List.getElem?_map, List.getElem?_eq_getElem (by omega), List.getD_eq_getElem?_getD, List.getElem?_eq_getElem (by omega)]
  rfl
theorem g_catI [h1 : At H p (.lst (ns.map V.int))] [h2 : At H b (.lst (ms.map V.int))] (hz : ns.length + ms.length ≤ 100000) (q : ∀ d H2, Nw H d → Ex H H2 → At H2 d (.lst ((ns ++ ms).map V.int)) → Q (.ref d) H2) : rAdd K (.ref p) (.ref b) H Q := Gx.g_cat (by rw [List.length_map, List.length_map]; exact hz) fun d H2 n e h => by
  rw [← List.map_append] at h
  exact q d H2 n e h
theorem g_catI1 {x : Int} [h1 : At H p (.lst (ns.map V.int))] [h2 : At H b (.lst [.int x])] (hz : ns.length ≤ 99999) (q : ∀ d H2, Nw H d → Ex H H2 → At H2 d (.lst ((ns ++ [x]).map V.int)) → Q (.ref d) H2) : rAdd K (.ref p) (.ref b) H Q := by
  have h2 : At H b (.lst ([x].map V.int)) := h2
  exact g_catI (by simp; omega) q
end
theorem RB.mem {bs : List Int} (h : RB bs) {j : Nat} (hj : j < bs.length) : bs.getD j 0 ∈ bs := by
  rw [List.getD_eq_getElem?_getD, List.getElem?_eq_getElem hj]
  exact List.getElem_mem hj
theorem rb_all {cs : List Int} (h : ∀ x ∈ cs, 0 ≤ x ∧ x ≤ 10 ^ 30 + 1) (h1 : 1 ≤ cs.length) (h2 : cs.length ≤ 12) : RB cs := ⟨h1, h2, fun x hx => (h x hx).1, fun x hx => by have := (h x hx).2; omega⟩
/-- a neighbour of a budget -/
theorem near_b {x : Int} (h0 : 0 ≤ x) (h1 : x ≤ 10 ^ 30) : 0 ≤ x + 1 - 2 * (if 0 < x then 1 else 0) ∧ x + 1 - 2 * (if 0 < x then 1 else 0) ≤ 10 ^ 30 + 1 := by split <;> omega
local macro_rules | `(tactic| walk_at "call") => `(tactic| first
  | ((with_reducible show L2.rIx _ _ _ _ _); refine g_ixEnd (by omega) ?_)
  | ((with_reducible show Gx.rSlX _ _ _ _ _ _); refine g_slTo (by omega) ?_; intro p_ H_ np_ e_ hp_)
  | ((with_reducible show Gx.rSlX _ _ _ _ _ _); refine g_slFrom (by omega) ?_; intro p_ H_ np_ e_ hp_)
  | ((with_reducible show Gx.rSlX _ _ _ _ _ _); refine g_slInit (by omega) ?_; intro p_ H_ np_ e_ hp_)
  | ((with_reducible show Gx.rAdd _ _ _ _ _); refine g_catI1 (by first | (simp; omega) | simp | omega) ?_; intro p_ H_ np_ e_ hp_)
  | ((with_reducible show Gx.rAdd _ _ _ _ _); refine g_catI (by first | (simp; omega) | simp | omega) ?_; intro p_ H_ np_ e_ hp_))
def spNear (K : PySem.W.Frag) : Sp := fun vs H Q _ => ∃ (p q : Addr) (bs os : List Int) (w sp : Int), vs = [.ref p, .int w, .ref q, .int sp] ∧ (At H p (.lst (bs.map V.int)) ∧ At H q (.lst (os.map V.int)) ∧ RB bs ∧ RB os ∧ (∀ x ∈ bs, x ≤ 10 ^ 30) ∧ 0 ≤ sp ∧ sp < bs.length) ∧
  ∀ d cs H', Nw H d → Ex H H' → At H' d (.lst (cs.map V.int)) → RB cs → Q (.ref d) H'
abbrev s_law_near : Stmt := (top 22)
abbrev N_law_near : List Str := ["_law_row_here", "_law_way", "_law_other", "_law_spot", "_law_k"]
theorem sc_law_near : FnScope N_law_near ["_law_row_here", "_law_way", "_law_other", "_law_spot"] (defScope s_law_near) := ⟨rfl, rfl, rfl, by decide +kernel, rfl, by decide +kernel, by decide +kernel⟩
theorem cl_law_near (T : Bl mg) (R : RdF K mg c_Round) (D : DfG K mg "_law_near" s_law_near [] []) (C_law_moved : ClG CX0 P w K mg base 3 "_law_moved" s_law_moved ["_law_row_here", "_law_phase"] [] [] (spMoved K)) : ClG CX0 P w K mg base 5 "_law_near" s_law_near ["_law_row_here", "_law_way", "_law_other", "_law_spot"] [] [] (spNear K) := by
  have nd := sc_law_near.nd
  refine D.okP sc_law_near (fun vs H Q E h => ?_) (fun f cdv A outer s H vs Q E hr h => ?_)
  · obtain ⟨p, q, bs, os, w, sp, rfl, _⟩ := h
    rfl
  · obtain ⟨p, q, bs, os, w, sp, rfl, ⟨hp, hq, hB, hO, hx, s0, s1⟩, k⟩ := h
    have hu := hu64 hr
    refine ⟨_, (pss_cons (ps_if (pt_cmpR (opEqK (K := K) (by rfl) (by exact hu)) (pv 1) pe_int (nomark _))
      (pss_one (ps_ret (pe_callTy (callListOfK (K := K) (by rfl)) (by rfl) T.list (by decide +kernel) (pa_cons (pv 0) pa_nil))))
      pss_nil)
    (pss_cons (ps_if (pt_cmpR (opEqK (K := K) (by rfl) (by exact hu)) (pv 1) pe_int (nomark _))
      (pss_one (ps_ret (pe_op (opAddK (K := K) (by rfl)) (pe_op (opAddK (K := K) (by rfl)) (pe_slice (slAnyK (K := K) (by rfl)) (pv 0) po_none (po_some (pv 3))) (pe_lst (pa_cons (pe_op opSub (pe_op (opAddK (K := K) (by rfl)) (pe_ix (ixSeqK (K := K) (by rfl)) (pv 0) (pv 3) (fun _ _ => rfl)) pe_int) (pe_op (opMulK (K := K) (by rfl)) pe_int (pe_callTy callInt (by rfl) T.int (by decide +kernel) (pa_cons (pe_cmpR opGt (pe_ix (ixSeqK (K := K) (by rfl)) (pv 0) (pv 3) (fun _ _ => rfl)) pe_int (nomark _)) pa_nil)))) pa_nil))) (pe_slice (slAnyK (K := K) (by rfl)) (pv 0) (po_some (pe_op (opAddK (K := K) (by rfl)) (pv 3) pe_int)) po_none))))
      pss_nil)
    (pss_cons (ps_if (pt_cmpR (opEqK (K := K) (by rfl) (by exact hu)) (pv 1) pe_int (nomark _))
      (pss_one (ps_ret (pe_op (opAddK (K := K) (by rfl)) (pe_slice (slAnyK (K := K) (by rfl)) (pv 0) po_none (po_some (pe_un un_neg pe_int))) (pe_lst (pa_cons (pe_op opSub (pe_op (opAddK (K := K) (by rfl)) (pe_ix (ixSeqK (K := K) (by rfl)) (pv 0) (pe_un un_neg pe_int) (fun _ _ => rfl)) pe_int) (pe_op (opMulK (K := K) (by rfl)) pe_int (pe_callTy callInt (by rfl) T.int (by decide +kernel) (pa_cons (pe_cmpR opGt (pe_ix (ixSeqK (K := K) (by rfl)) (pv 0) (pe_un un_neg pe_int) (fun _ _ => rfl)) pe_int (nomark _)) pa_nil)))) pa_nil)))))
      pss_nil)
    (pss_cons (ps_if (PW.pt (pw_and (pt_cmpR (opEqK (K := K) (by rfl) (by exact hu)) (pv 1) pe_int (nomark _)) (pw_and1 (pt_cmpR opLt (pe_callB (callLenK (K := K) (by rfl)) (by rfl) T.len (by decide +kernel) (pa_cons (pv 0) pa_nil)) pe_int (nomark _)))))
      (pss_one (ps_ret (pe_op (opAddK (K := K) (by rfl)) (pv 0) (pe_lst (pa_cons (pe_ix (ixSeqK (K := K) (by rfl)) (pv 0) pe_int (fun _ _ => rfl)) pa_nil)))))
      pss_nil)
    (pss_cons (ps_if (PW.pt (pw_and (pt_cmpR (opEqK (K := K) (by rfl) (by exact hu)) (pv 1) pe_int (nomark _)) (pw_and1 (pt_cmpR opGt (pe_callB (callLenK (K := K) (by rfl)) (by rfl) T.len (by decide +kernel) (pa_cons (pv 0) pa_nil)) pe_int (nomark _)))))
      (pss_one (ps_ret (pe_slice (slAnyK (K := K) (by rfl)) (pv 0) po_none (po_some (pe_un un_neg pe_int)))))
      pss_nil)
    (pss_cons (ps_if (PW.pt (pw_and (pt_cmpR (opEqK (K := K) (by rfl) (by exact hu)) (pv 1) pe_int (nomark _)) (pw_and1 (pt_cmpR opLt (pe_callB (callLenK (K := K) (by rfl)) (by rfl) T.len (by decide +kernel) (pa_cons (pv 0) pa_nil)) pe_int (nomark _)))))
      (pss_one (ps_ret (pe_op (opAddK (K := K) (by rfl)) (pv 0) (pv 0))))
      pss_nil)
    (pss_cons (ps_if (pt_cmpR (opEqK (K := K) (by rfl) (by exact hu)) (pv 1) pe_int (nomark _))
      (pss_one (ps_ret (pe_lc (own := [("_law_k", 4)]) (g := gName 4) rfl nd (pi_range1 rfl T.range (pa_cons (pe_callB (callLenK (K := K) (by rfl)) (by rfl) T.len (by decide +kernel) (pa_cons (pv 0) pa_nil)) pa_nil)) (blkOk_by (own := [("_law_k", 4)]) (N := N_law_near) (sc := defScope s_law_near) (by decide +kernel)) (fun _ _ _ _ _ => (pg_name (i := 4) nd rfl (Or.inl rfl))) (fun _ _ _ _ _ => pts_nil) (fun _ _ _ _ _ => (pe_ix (ixSeqK (K := K) (by rfl)) (pv 0) (pe_op opSub (pe_op opSub (pe_callB (callLenK (K := K) (by rfl)) (by rfl) T.len (by decide +kernel) (pa_cons (pv 0) pa_nil)) pe_int) (pv 4)) (fun _ _ => rfl))))))
      pss_nil)
    (pss_cons (ps_if (pt_cmpR (opEqK (K := K) (by rfl) (by exact hu)) (pv 1) pe_int (nomark _))
      (pss_one (ps_ret (pe_g C_law_moved (by exact hr.mono (by decide)) (E := fun _ => E0) (fun σ => passC0 σ) (fun _ _ _ _ _ _ us hl => match us, hl with | [_, _], _ => rfl) (pa_cons (pv 0) (pa_cons pe_int pa_nil)))))
      pss_nil)
    (pss_one (ps_ret (pe_callTy (callListOfK (K := K) (by rfl)) (by rfl) T.list (by decide +kernel) (pa_cons (pv 2) pa_nil)))))))))))), ?_⟩
    try dsimp only [L2.cxOf, L2.Cx.nox]
    simp only [L2.start, N_law_near, List.map_cons, List.map_nil, List.length_cons, List.length_nil, Nat.reduceAdd, Nat.reduceSub, List.replicate_succ, List.replicate_zero, List.cons_append, List.nil_append]

    have l1 := hB.l1
    have l2 := hB.l2
    have hall : ∀ x ∈ bs, 0 ≤ x ∧ x ≤ 10 ^ 30 + 1 := fun x h => ⟨hB.h0 x h, by have := hx x h; omega⟩
    have hsp := hall _ (hB.mem (j := sp.toNat) (by omega))
    have hen := hall _ (hB.mem (j := bs.length - 1) (by omega))
    have hst := hall _ (hB.mem (j := Int.toNat 0) (by omega))
    have nsp := near_b hsp.1 (hx _ (hB.mem (j := sp.toNat) (by omega)))
    have nen := near_b hen.1 (hx _ (hB.mem (j := bs.length - 1) (by omega)))
    walk_at "gos"
    case' refine_2.refine_2.refine_1 =>
      rename_i h1 p2 G2 n2 e2 h2
      rw [Gx.cutV_int, cutI_to s0] at h1
      walk_at "gos"
      rename_i h3 p4 G4 n4 e4 h4
      rw [Gx.cutV_int, cutI_from (by omega)] at h4
      walk_at "gos"
    case' refine_2.refine_2.refine_2.refine_1 =>
      rename_i h1 p2 G2 n2 e2 h2
      rw [Gx.cutV_int, cutI_init l1] at h1
      walk_at "gos"
    all_goals try first
      | exact k _ _ _ Gx.new Gx.rel (by assumption) hB
      | exact k _ _ _ Gx.new Gx.rel (by assumption) hO
      | exact k _ _ _ Gx.new Gx.rel (by assumption) hB.turn
    · rename_i hp9
      rw [show [V.int (bs.getD (bs.length - 1) 0 + 1 - 2 * if 0 < bs.getD (bs.length - 1) 0 then 1 else 0)] = [bs.getD (bs.length - 1) 0 + 1 - 2 * if 0 < bs.getD (bs.length - 1) 0 then 1 else 0].map V.int from rfl, ← List.map_append] at hp9
      refine k _ _ _ Gx.new Gx.rel hp9 (rb_all (fun x hx => ?_) (by simp) (by simp; omega))
      rcases List.mem_append.mp hx with hx | hx
      · exact hall _ (List.mem_of_mem_take hx)
      · rw [List.mem_singleton.mp hx]
        exact nen
    · rename_i hp9
      rw [show [V.int (bs.getD sp.toNat 0 + 1 - 2 * if 0 < bs.getD sp.toNat 0 then 1 else 0)] = [bs.getD sp.toNat 0 + 1 - 2 * if 0 < bs.getD sp.toNat 0 then 1 else 0].map V.int from rfl, ← List.map_append, ← List.map_append] at hp9
      refine k _ _ _ Gx.new Gx.rel hp9 (rb_all (fun x hx => ?_) (by simp; omega) (by simp; omega))
      rcases List.mem_append.mp hx with hx | hx
      · rcases List.mem_append.mp hx with hx | hx
        · exact hall _ (List.mem_of_mem_take hx)
        · rw [List.mem_singleton.mp hx]
          exact nsp
      · exact hall _ (List.mem_of_mem_drop hx)
    · rename_i hp9
      rw [show [V.int (bs.getD (Int.toNat 0) 0)] = [bs.getD (Int.toNat 0) 0].map V.int from rfl, ← List.map_append] at hp9
      refine k _ _ _ Gx.new Gx.rel hp9 (rb_all (fun x hx => ?_) (by simp) (by simp; omega))
      rcases List.mem_append.mp hx with hx | hx
      · exact hall _ hx
      · rw [List.mem_singleton.mp hx]
        exact hst
    · rename_i hp9
      rw [Gx.cutV_int, cutI_init l1] at hp9
      exact k _ _ _ Gx.new Gx.rel hp9 (rb_all (fun x hx => hall _ (List.mem_of_mem_take hx)) (by simp; omega) (by simp; omega))
    · rename_i hp9
      rw [← List.map_append] at hp9
      exact k _ _ _ Gx.new Gx.rel hp9 (rb_all (fun x hx => (List.mem_append.mp hx).elim (hall _) (hall _)) (by simp; omega) (by simp; omega))
    · refine Gx.lc1_F (fun i => ((bs.reverse).take i).map V.int) (by omega) rfl (fun i hi => by rw [List.length_map, List.length_take]; omega) (fun D i H' hi hD e hp' hz => ?_) (fun D H' hD e hp' => ?_)
      · walk_at "gos"
        refine ⟨Gx.rel, ?_⟩
        rw [List.take_succ, List.map_append]
        congr 1
        rw [List.getElem?_reverse (by omega), List.getElem?_eq_getElem (by omega), List.getD_eq_getElem?_getD, List.getElem?_eq_getElem (by omega)]
        simp
      · exact k _ _ _ Gx.new Gx.rel hp' (rb_all (fun x hx => hall _ (by simpa using List.mem_of_mem_take hx)) (by simp; omega) (by simp; omega))
local macro_rules | `(tactic| walk_at "call") => `(tactic| ((with_reducible show spNear _ _ _ _ _); refine ⟨_, _, _, _, _, _, rfl, ⟨by infer_instance, by infer_instance, by assumption, by assumption, by assumption, by omega, by omega⟩, ?_⟩; intro d_ cs_ H_ np_ e_ hd_ hR_))
theorem sh3 {x y z : Bool} : SeqAt.shaped (.list [.bool x, .bool y, .bool z]) = true := by
  simp [SeqAt.shaped, PyData.canLay0, PyData.canLayAll0, PyData.depth, PyData.depthAll]
theorem ev3 (bs cs : List Int) : PyData.eqv (.list [.bool (decide (bs = cs)), .bool (decide (cs = bs)), .bool (decide (cs = cs))]) (.list [.bool (decide (cs = bs)), .bool (decide (cs = bs)), .bool true]) = true := by
  have e : decide (bs = cs) = decide (cs = bs) := by
    rw [decide_eq_decide]
    exact eq_comm
  rw [e]
  simp [PyData.eqv, PyData.eqvAll]
def spEqu (C : Addr) (K : PySem.W.Frag) : Sp := fun vs H Q _ => ∃ (a p q : Addr) (bs os : List Int) (sp : Int), vs = [.ref a, .ref p, .ref q, .int sp] ∧ (RdC C H a bs ∧ At H p (.lst (bs.map V.int)) ∧ At H q (.lst (os.map V.int)) ∧ RB bs ∧ RB os ∧ (∀ x ∈ bs, x ≤ 10 ^ 30) ∧ 0 ≤ sp ∧ sp < bs.length) ∧
  ∀ H', Ex H H' → Q (.bl true) H'
abbrev s_law_equal : Stmt := (top 23)
abbrev N_law_equal : List Str := ["_law_made", "_law_row_here", "_law_other", "_law_spot", "_law_way", "_law_near_here", "_law_mate", "_law_told", "_law_one"]
theorem sc_law_equal : FnScope N_law_equal ["_law_made", "_law_row_here", "_law_other", "_law_spot"] (defScope s_law_equal) := ⟨rfl, rfl, rfl, by decide +kernel, rfl, by decide +kernel, by decide +kernel⟩
theorem cl_law_equal (T : Bl mg) (R : RdF K mg c_Round) (D : DfG K mg "_law_equal" s_law_equal [] []) (C_Round___eq__ : ClM CX0 P w K mg base 3 c_Round "__eq__" "Round.__eq__" s_Round___eq__ ["self", "other"] [] [] (spREq c_Round)) (C_law_round : ClG CX0 P w K mg base 7 "_law_round" s_law_round ["_law_row_here"] [] [] (spLR1 c_Round K)) (C_law_near : ClG CX0 P w K mg base 5 "_law_near" s_law_near ["_law_row_here", "_law_way", "_law_other", "_law_spot"] [] [] (spNear K)) : ClG CX0 P w K mg base 9 "_law_equal" s_law_equal ["_law_made", "_law_row_here", "_law_other", "_law_spot"] [] [] (spEqu c_Round K) := by
  have nd := sc_law_equal.nd
  refine D.okP sc_law_equal (fun vs H Q E h => ?_) (fun f cdv A outer s H vs Q E hr h => ?_)
  · obtain ⟨a, p, q, bs, os, sp, rfl, _⟩ := h
    rfl
  · obtain ⟨a, p, q, bs, os, sp, rfl, ⟨ha, hp, hq, hB, hO, hx, s0, s1⟩, k⟩ := h
    have hu := hu64 hr
    refine ⟨_, (pss_cons (ps_for PassesOwn.never rfl (pi_range1 rfl T.range (pa_cons pe_int pa_nil)) (pg_name (i := 4) nd rfl (Or.inl rfl))
      (pss_cons (ps_set (i := 5) nd rfl (Or.inl rfl) (pe_g C_law_near (by exact hr.mono (by decide)) (E := fun _ => E0) (fun σ => passC0 σ) (fun _ _ _ _ _ _ us hl => match us, hl with | [_, _, _, _], _ => rfl) (pa_cons (pv 1) (pa_cons (pv 4) (pa_cons (pv 2) (pa_cons (pv 3) pa_nil))))))
    (pss_cons (ps_set (i := 6) nd rfl (Or.inl rfl) (pe_g C_law_round (by exact hr.mono (by decide)) (E := fun _ => E0) (fun σ => passC0 σ) (fun _ _ _ _ _ _ us hl => match us, hl with | [_], _ => rfl) (pa_cons (pv 5) pa_nil)))
    (pss_cons (ps_set (i := 7) nd rfl (Or.inl rfl) (pe_lst (pa_cons (pe_cmpR (opOwnEq C_Round___eq__ (by exact hr.mono (by decide)) pass0 (fun _ _ _ _ _ _ us hl => match us, hl with | [_, _], _ => rfl)) (pv 0) (pv 6) (nomark _)) (pa_cons (pe_cmpR (opOwnEq C_Round___eq__ (by exact hr.mono (by decide)) pass0 (fun _ _ _ _ _ _ us hl => match us, hl with | [_, _], _ => rfl)) (pv 6) (pv 0) (nomark _)) (pa_cons (pe_cmpR (opOwnEq C_Round___eq__ (by exact hr.mono (by decide)) pass0 (fun _ _ _ _ _ _ us hl => match us, hl with | [_, _], _ => rfl)) (pv 6) (pv 6) (nomark _)) pa_nil)))))
    (pss_cons (ps_if (pt_not (pt_val (pe_callB (callAllK (K := K) (by rfl) rfl) (by rfl) T.all (by decide +kernel) (pa_cons (pe_lc (own := [("_law_one", 8)]) (g := gName 8) rfl nd (pi_listK (K := K) (by rfl) (pv 7)) (blkOk_by (own := [("_law_one", 8)]) (N := N_law_equal) (sc := defScope s_law_equal) (by decide +kernel)) (fun _ _ _ _ _ => (pg_name (i := 8) nd rfl (Or.inl rfl))) (fun _ _ _ _ _ => pts_nil) (fun _ _ _ _ _ => (pe_callB (callIsiK (K := K) (by rfl)) (by rfl) T.isinstance (by decide +kernel) (pa_cons (pv 8) (pa_cons (pe_bltn (v := .ty "bool") (by rfl) T.bool (by decide +kernel) rfl) pa_nil))))) pa_nil))))
      (pss_one (ps_ret pe_bl))
      pss_nil)
    (pss_one (ps_if (pt_cmpR (opNeK (K := K) (by rfl) (by exact hu)) (pv 7) (pe_lst (pa_cons (pe_cmpR (opEqK (K := K) (by rfl) (by exact hu)) (pv 5) (pv 1) (nomark _)) (pa_cons (pe_cmpR (opEqK (K := K) (by rfl) (by exact hu)) (pv 5) (pv 1) (nomark _)) (pa_cons pe_bl pa_nil)))) (nomark _))
      (pss_one (ps_ret pe_bl))
      pss_nil)))))))
    (pss_one (ps_ret pe_bl))), ?_⟩
    try dsimp only [L2.cxOf, L2.Cx.nox]
    simp only [L2.start, N_law_equal, List.map_cons, List.map_nil, List.length_cons, List.length_nil, Nat.reduceAdd, Nat.reduceSub, List.replicate_succ, List.replicate_zero, List.cons_append, List.nil_append]

    have l1 := hB.l1
    have l2 := hB.l2
    walk_at "gos"
    refine Gx.for1 [] (fun i σ' H' => ∃ s4 s5 s6 s7 s8 : Option V, σ' = [some (.ref a), some (.ref p), some (.ref q), some (.int sp), s4, s5, s6, s7, s8]) (by omega) ⟨_, _, _, _, _, rfl⟩ ?_ ?_
    · rintro i σ' H' hi e ⟨s4, s5, s6, s7, s8, rfl⟩
      walk_at "go"
      refine Gx.lcL_F (fun i => (List.replicate i true).map V.bl) rfl (fun i hi => by simp at hi; simp; omega) (fun D i x H' hx hD e hp' hz => ?_) (fun D H' hD e hp' => ?_)
      · obtain ⟨t, rfl⟩ : ∃ t : Bool, x = V.bl t := by
          have hx := List.mem_of_getElem? hx
          simp only [List.mem_cons, List.mem_nil_iff, or_false] at hx
          rcases hx with rfl | rfl | rfl <;> exact ⟨_, rfl⟩
        walk_at "gos"
        exact ⟨Gx.rel, by rw [List.replicate_succ', List.map_append]; rfl⟩
      · walk_at "gos"
        refine Gx.g_neD (b := true) sh3 sh3 (ev3 bs _) ?_
        walk_at "gos"
        exact Gx.li ⟨_, _, _, _, _, rfl⟩
    · rintro σ' H' e ⟨s4, s5, s6, s7, s8, rfl⟩
      walk_at "gos"
      exact k _ Gx.rel

local macro_rules | `(tactic| walk_at "call") => `(tactic| ((with_reducible show spEqu _ _ _ _ _ _); refine ⟨_, _, _, _, _, _, rfl, ⟨by infer_instance, by infer_instance, by infer_instance, by assumption, by assumption, by assumption, by omega, by omega⟩, ?_⟩; intro H_ e_))
theorem use_radd {C a b : Addr} {bs cs : List Int} {H : Hp} {Q : VK} {E : XK} [h1 : RdC C H a bs] [h2 : RdC C H b cs] (hB : RB (bs ++ cs)) (q : ∀ d H', Nw H d → Ex H H' → RdC C H' d (bs ++ cs) → Q (.ref d) H') :
    spRadd C [.ref a, .ref b] H (fun v H' => (∃ q, v = .ref q) ∧ Q v H') E := ⟨a, b, bs, cs, rfl, ⟨h1, h2, hB⟩, fun d H' n e r => ⟨⟨_, rfl⟩, q d H' n e r⟩⟩
local macro_rules | `(tactic| walk_at "call") => `(tactic| ((with_reducible show spRadd _ _ _ _ _); refine use_radd (by assumption) ?_; intro d_ H_ np_ e_ hd_))
def spAdd (C : Addr) (K : PySem.W.Frag) : Sp := fun vs H Q _ => ∃ (a p b q : Addr) (bs os : List Int) (cut : Int), vs = [.ref a, .ref p, .ref b, .ref q, .int cut] ∧ (RdC C H a bs ∧ RdC C H b os ∧ At H p (.lst (bs.map V.int)) ∧ At H q (.lst (os.map V.int)) ∧ RB bs ∧ RB os ∧ 0 ≤ cut ∧ cut < bs.length) ∧
  ∀ H', Ex H H' → Q (.bl true) H'
abbrev s_law_added : Stmt := (top 24)
abbrev N_law_added : List Str := ["_law_made", "_law_row_here", "_law_mate", "_law_other", "_law_cut", "_law_parts"]
theorem sc_law_added : FnScope N_law_added ["_law_made", "_law_row_here", "_law_mate", "_law_other", "_law_cut"] (defScope s_law_added) := ⟨rfl, rfl, rfl, by decide +kernel, rfl, by decide +kernel, by decide +kernel⟩
theorem cl_law_added (T : Bl mg) (R : RdF K mg c_Round) (D : DfG K mg "_law_added" s_law_added [] []) (C_law_has : ClG CX0 P w K mg base 5 "_law_has" s_law_has ["_law_made", "_law_row_here"] [] [] (spHas c_Round K)) (C_Round___eq__ : ClM CX0 P w K mg base 3 c_Round "__eq__" "Round.__eq__" s_Round___eq__ ["self", "other"] [] [] (spREq c_Round)) (C_Round___add__ : ClM CX0 P w K mg base 7 c_Round "__add__" "Round.__add__" s_Round___add__ ["self", "other"] [] [] (spRadd c_Round)) (C_law_round : ClG CX0 P w K mg base 7 "_law_round" s_law_round ["_law_row_here"] [] [] (spLR1 c_Round K)) : ClG CX0 P w K mg base 9 "_law_added" s_law_added ["_law_made", "_law_row_here", "_law_mate", "_law_other", "_law_cut"] [] [] (spAdd c_Round K) := by
  have nd := sc_law_added.nd
  refine D.okP sc_law_added (fun vs H Q E h => ?_) (fun f cdv A outer s H vs Q E hr h => ?_)
  · obtain ⟨a, p, b, q, bs, os, cut, rfl, _⟩ := h
    rfl
  · obtain ⟨a, p, b, q, bs, os, cut, rfl, ⟨ha, hb, hp, hq, hB, hO, c0, c1⟩, k⟩ := h
    have hu := hu64 hr
    refine ⟨_, (pss_cons (ps_if (pt_cmpR opLe (pe_op (opAddK (K := K) (by rfl)) (pe_callB (callLenK (K := K) (by rfl)) (by rfl) T.len (by decide +kernel) (pa_cons (pv 1) pa_nil)) (pe_callB (callLenK (K := K) (by rfl)) (by rfl) T.len (by decide +kernel) (pa_cons (pv 3) pa_nil))) pe_int (nomark _))
      (pss_one (ps_if (PW.pt (pw_or (pt_not (pt_val (pe_g C_law_has (by exact hr.mono (by decide)) (E := fun _ => E0) (fun σ => passC0 σ) (fun _ _ _ _ _ _ us hl => match us, hl with | [_, _], _ => rfl) (pa_cons (pe_op (opOwnAdd C_Round___add__ R.sf (by exact hr.mono (by decide)) pass0 (fun _ _ _ _ _ _ us hl => match us, hl with | [_, _], _ => rfl)) (pv 0) (pv 2)) (pa_cons (pe_op (opAddK (K := K) (by rfl)) (pv 1) (pv 3)) pa_nil))))) (pw_or1 (pt_not (pt_val (pe_g C_law_has (by exact hr.mono (by decide)) (E := fun _ => E0) (fun σ => passC0 σ) (fun _ _ _ _ _ _ us hl => match us, hl with | [_, _], _ => rfl) (pa_cons (pe_op (opOwnAdd C_Round___add__ R.sf (by exact hr.mono (by decide)) pass0 (fun _ _ _ _ _ _ us hl => match us, hl with | [_, _], _ => rfl)) (pv 2) (pv 0)) (pa_cons (pe_op (opAddK (K := K) (by rfl)) (pv 3) (pv 1)) pa_nil))))))))
      (pss_one (ps_ret pe_bl))
      pss_nil))
      pss_nil)
    (pss_cons (ps_if (PW.pt (pw_and (pt_cmpR opLt pe_int (pv 4) (nomark _)) (pw_and1 (pt_cmpR opLt (pv 4) (pe_callB (callLenK (K := K) (by rfl)) (by rfl) T.len (by decide +kernel) (pa_cons (pv 1) pa_nil)) (nomark _)))))
      (pss_cons (ps_set (i := 5) nd rfl (Or.inl rfl) (pe_op (opOwnAdd C_Round___add__ R.sf (by exact hr.mono (by decide)) pass0 (fun _ _ _ _ _ _ us hl => match us, hl with | [_, _], _ => rfl)) (pe_g C_law_round (by exact hr.mono (by decide)) (E := fun _ => E0) (fun σ => passC0 σ) (fun _ _ _ _ _ _ us hl => match us, hl with | [_], _ => rfl) (pa_cons (pe_slice (slAnyK (K := K) (by rfl)) (pv 1) po_none (po_some (pv 4))) pa_nil)) (pe_g C_law_round (by exact hr.mono (by decide)) (E := fun _ => E0) (fun σ => passC0 σ) (fun _ _ _ _ _ _ us hl => match us, hl with | [_], _ => rfl) (pa_cons (pe_slice (slAnyK (K := K) (by rfl)) (pv 1) (po_some (pv 4)) po_none) pa_nil))))
    (pss_one (ps_if (PW.pt (pw_or (pt_not (pt_val (pe_g C_law_has (by exact hr.mono (by decide)) (E := fun _ => E0) (fun σ => passC0 σ) (fun _ _ _ _ _ _ us hl => match us, hl with | [_, _], _ => rfl) (pa_cons (pv 5) (pa_cons (pv 1) pa_nil))))) (pw_or1 (pt_not (pt_cmpR (opOwnEq C_Round___eq__ (by exact hr.mono (by decide)) pass0 (fun _ _ _ _ _ _ us hl => match us, hl with | [_, _], _ => rfl)) (pv 0) (pv 5) (nomark _))))))
      (pss_one (ps_ret pe_bl))
      pss_nil)))
      pss_nil)
    (pss_one (ps_ret (pe_and (pe_g C_law_has (by exact hr.mono (by decide)) (E := fun _ => E0) (fun σ => passC0 σ) (fun _ _ _ _ _ _ us hl => match us, hl with | [_, _], _ => rfl) (pa_cons (pv 0) (pa_cons (pv 1) pa_nil))) (pe_one (pe_g C_law_has (by exact hr.mono (by decide)) (E := fun _ => E0) (fun σ => passC0 σ) (fun _ _ _ _ _ _ us hl => match us, hl with | [_, _], _ => rfl) (pa_cons (pv 2) (pa_cons (pv 3) pa_nil))))))))), ?_⟩
    try dsimp only [L2.cxOf, L2.Cx.nox]
    simp only [L2.start, N_law_added, List.map_cons, List.map_nil, List.length_cons, List.length_nil, Nat.reduceAdd, Nat.reduceSub, List.replicate_succ, List.replicate_zero, List.cons_append, List.nil_append]

    have l1 := hB.l1
    have l2 := hB.l2
    have l3 := hO.l1
    have l4 := hO.l2
    have hT : RB (bs.take cut.toNat ++ bs.drop cut.toNat) := by rw [List.take_append_drop]; exact hB
    by_cases hs : bs.length + os.length ≤ 12
    · have hbo : RB (bs ++ os) := ⟨by simp; omega, by simp; omega, fun x hx => (List.mem_append.mp hx).elim (hB.h0 x) (hO.h0 x), fun x hx => (List.mem_append.mp hx).elim (hB.h1 x) (hO.h1 x)⟩
      have hob : RB (os ++ bs) := ⟨by simp; omega, by simp; omega, fun x hx => (List.mem_append.mp hx).elim (hO.h0 x) (hB.h0 x), fun x hx => (List.mem_append.mp hx).elim (hO.h1 x) (hB.h1 x)⟩
      walk_at "gos"
      rename_i h9
      rw [← List.map_append] at h9
      walk_at "gos"
      rename_i h9
      rw [← List.map_append] at h9
      walk_at "gos"
      · have hTk : RB (bs.take cut.toNat) := rb_mem hB (fun x hx => List.mem_of_mem_take hx) (by simp; omega) (by simp; omega)
        have hDk : RB (bs.drop cut.toNat) := rb_mem hB (fun x hx => List.mem_of_mem_drop hx) (by simp; omega) (by simp; omega)
        rename_i h9
        rw [Gx.cutV_int, cutI_to c0] at h9
        walk_at "gos"
        rename_i h9
        rw [Gx.cutV_int, cutI_from c0] at h9
        walk_at "gos"
        rename_i h9
        rw [List.take_append_drop] at h9
        walk_at "gos"
        exact k _ Gx.rel
      · exact k _ Gx.rel
    · walk_at "gos"
      · have hTk : RB (bs.take cut.toNat) := rb_mem hB (fun x hx => List.mem_of_mem_take hx) (by simp; omega) (by simp; omega)
        have hDk : RB (bs.drop cut.toNat) := rb_mem hB (fun x hx => List.mem_of_mem_drop hx) (by simp; omega) (by simp; omega)
        rename_i h9
        rw [Gx.cutV_int, cutI_to c0] at h9
        walk_at "gos"
        rename_i h9
        rw [Gx.cutV_int, cutI_from c0] at h9
        walk_at "gos"
        rename_i h9
        rw [List.take_append_drop] at h9
        walk_at "gos"
        exact k _ Gx.rel
      · exact k _ Gx.rel

local macro_rules | `(tactic| walk_at "call") => `(tactic| first
  | ((with_reducible show spAdd _ _ _ _ _ _); refine ⟨_, _, _, _, _, _, _, rfl, ⟨by infer_instance, by infer_instance, by infer_instance, by infer_instance, by assumption, by assumption, by omega, by omega⟩, ?_⟩; intro H_ e_)
  | ((with_reducible show Gx.rRepr _ _ _ _); refine Gx.g_repr (by assumption) ?_))
theorem ite_join {c : Prop} [Decidable c] {A B : Ends → L2.St → Hp → Prop} {D : Ends} {σ : L2.St} {H : Hp} (P : L2.St → Hp → Prop) (h : ∀ N : L2.St → Hp → Prop, (∀ σ' H', P σ' H' → N σ' H') → if c then A { D with nx := N } σ H else B { D with nx := N } σ H) (hk : ∀ σ' H', P σ' H' → D.nx σ' H') : if c then A D σ H else B D σ H := h D.nx hk
theorem has_one {C a p : Addr} {K : PySem.W.Frag} {d : Int} {H : Hp} {Q : VK} {E : XK} [h1 : RdC C H a [d]] [h2 : At H p (.lst [.int d])] (d0 : 0 ≤ d) (d1 : d ≤ 10 ^ 30) (q : ∀ H', Ex H H' → Q (.bl true) H') : spHas C K ([.ref a, .ref p] ++ []) H Q E :=
  ⟨a, p, [d], rfl, ⟨h1, (inferInstance : SqC K H p [V.int d]), rb_one d0 (by omega)⟩, q⟩
theorem ans_one {C a p b : Addr} {K : PySem.W.Frag} {d : Int} {H : Hp} {Q : VK} {E : XK} [h1 : RdC C H a [d]] [h2 : At H p (.lst [.int d])] [h3 : NeC p b] [h4 : Bg b H] (d0 : 0 ≤ d) (d1 : d ≤ 10 ^ 30) (q : ∀ H', ExB b H H' → Bg b H' → Q (.bl true) H') : spAns C K ([.ref a, .ref p, .ref b] ++ []) H Q E :=
  ⟨a, p, b, [d], rfl, ⟨h1, (inferInstance : SqC K H p [V.int d]), h3, rb_one d0 (by omega), h4⟩, q⟩
local macro_rules | `(tactic| walk_at "call") => `(tactic| first
  | ((with_reducible show spHas _ _ _ _ _ _); refine has_one (by omega) (by omega) ?_; intro H_ e_)
  | ((with_reducible show spAns _ _ _ _ _ _); refine ans_one (by omega) (by omega) ?_; intro H_ e_ hB_))
def spCase : Sp := fun vs H Q _ => ∃ (b : Addr), vs = [.ref b] ∧ Bg b H ∧ ∀ H', ExB b H H' → Q (.bl true) H'
abbrev s_law_case : Stmt := (top 25)
abbrev N_law_case : List Str := ["_law_bag_here", "_law_size", "_law_row_here", "_law_other", "_law_made", "_law_mate", "_law_told", "_law_kept", "_law_single", "_law_lone"]
theorem sc_law_case : FnScope N_law_case ["_law_bag_here"] (defScope s_law_case) := ⟨rfl, rfl, rfl, by decide +kernel, rfl, by decide +kernel, by decide +kernel⟩
theorem cl_law_case (T : Bl mg) (R : RdF K mg c_Round) (D : DfG K mg "_law_case" s_law_case [] []) (C_law_answers : ClG CX0 P w K mg base 9 "_law_answers" s_law_answers ["_law_made", "_law_row_here", "_law_bag_here"] [] [] (spAns c_Round K)) (C_Round___eq__ : ClM CX0 P w K mg base 3 c_Round "__eq__" "Round.__eq__" s_Round___eq__ ["self", "other"] [] [] (spREq c_Round)) (C_Round___init__ : ClI CX0 P w K mg base 5 c_Round) (C_law_has : ClG CX0 P w K mg base 5 "_law_has" s_law_has ["_law_made", "_law_row_here"] [] [] (spHas c_Round K)) (C_Round_constant : ClT CX0 P w K mg base 7 c_Round "constant" "Round.constant" s_Round_constant ["budget"] (spConst c_Round)) (C_law_number : ClG CX0 P w K mg base 5 "_law_number" s_law_number ["_law_bag_here", "_law_most"] [] [] spNumber) (C_law_equal : ClG CX0 P w K mg base 9 "_law_equal" s_law_equal ["_law_made", "_law_row_here", "_law_other", "_law_spot"] [] [] (spEqu c_Round K)) (C_law_take : ClG CX0 P w K mg base 3 "_law_take" s_law_take ["_law_bag_here", "_law_size"] [] [] spTake) (C_law_added : ClG CX0 P w K mg base 9 "_law_added" s_law_added ["_law_made", "_law_row_here", "_law_mate", "_law_other", "_law_cut"] [] [] (spAdd c_Round K)) (C_law_shifts : ClG CX0 P w K mg base 11 "_law_shifts" s_law_shifts ["_law_made", "_law_row_here", "_law_bag_here"] [] [] (spShf c_Round K)) (C_Round_budgets : ClP CX0 P w K mg base 3 c_Round "budgets" "Round.budgets" s_Round_budgets (spBud c_Round)) (C_law_round : ClG CX0 P w K mg base 7 "_law_round" s_law_round ["_law_row_here"] [] [] (spLR1 c_Round K)) (C_law_row : ClG CX0 P w K mg base 7 "_law_row" s_law_row ["_law_bag_here", "_law_size"] [] [] spRow) : ClGG CX0 P w K mg base 13 "_law_case" s_law_case ["_law_bag_here"] [] [] spCase := by
  have nd := sc_law_case.nd
  refine D.okG sc_law_case (fun vs H Q E h => ?_) (fun f cdv A outer s H vs Q E hgd hr h => ?_)
  · obtain ⟨b, rfl, _⟩ := h
    rfl
  · obtain ⟨b, rfl, hb, k⟩ := h
    have hu := hu64 hr
    refine ⟨_, (pss_cons (ps_set (i := 1) nd rfl (Or.inl rfl) (pe_op (opAddK (K := K) (by rfl)) pe_int (pe_g C_law_take (by exact hr.mono (by decide)) (E := fun _ => E0) (fun σ => passC0 σ) (fun _ _ _ _ _ _ us hl => match us, hl with | [_, _], _ => rfl) (pa_cons (pv 0) (pa_cons pe_int pa_nil)))))
    (pss_cons (ps_set (i := 2) nd rfl (Or.inl rfl) (pe_g C_law_row (by exact hr.mono (by decide)) (E := fun _ => E0) (fun σ => passC0 σ) (fun _ _ _ _ _ _ us hl => match us, hl with | [_, _], _ => rfl) (pa_cons (pv 0) (pa_cons (pv 1) pa_nil))))
    (pss_cons (ps_set (i := 3) nd rfl (Or.inl rfl) (pe_g C_law_row (by exact hr.mono (by decide)) (E := fun _ => E0) (fun σ => passC0 σ) (fun _ _ _ _ _ _ us hl => match us, hl with | [_, _], _ => rfl) (pa_cons (pv 0) (pa_cons (pe_op (opAddK (K := K) (by rfl)) pe_int (pe_g C_law_take (by exact hr.mono (by decide)) (E := fun _ => E0) (fun σ => passC0 σ) (fun _ _ _ _ _ _ us hl => match us, hl with | [_, _], _ => rfl) (pa_cons (pv 0) (pa_cons (pe_callB (callMax2 rfl) (by rfl) T.max (by decide +kernel) (pa_cons pe_int (pa_cons (pe_op opSub pe_int (pv 1)) pa_nil))) pa_nil)))) pa_nil))))
    (pss_cons (ps_if (pt_cmpR (opEqK (K := K) (by rfl) (by exact hu)) (pe_g C_law_take (by exact hr.mono (by decide)) (E := fun _ => E0) (fun σ => passC0 σ) (fun _ _ _ _ _ _ us hl => match us, hl with | [_, _], _ => rfl) (pa_cons (pv 0) (pa_cons pe_int pa_nil))) pe_int (nomark _))
      (pss_one (ps_set (i := 3) nd rfl (Or.inl rfl) (pe_g C_law_row (by exact hr.mono (by decide)) (E := fun _ => E0) (fun σ => passC0 σ) (fun _ _ _ _ _ _ us hl => match us, hl with | [_, _], _ => rfl) (pa_cons (pv 0) (pa_cons (pe_op (opAddK (K := K) (by rfl)) pe_int (pe_g C_law_take (by exact hr.mono (by decide)) (E := fun _ => E0) (fun σ => passC0 σ) (fun _ _ _ _ _ _ us hl => match us, hl with | [_, _], _ => rfl) (pa_cons (pv 0) (pa_cons pe_int pa_nil)))) pa_nil)))))
      pss_nil)
    (pss_cons (ps_set (i := 4) nd rfl (Or.inl rfl) (pe_g C_law_round (by exact hr.mono (by decide)) (E := fun _ => E0) (fun σ => passC0 σ) (fun _ _ _ _ _ _ us hl => match us, hl with | [_], _ => rfl) (pa_cons (pe_callTy (callListOfK (K := K) (by rfl)) (by rfl) T.list (by decide +kernel) (pa_cons (pv 2) pa_nil)) pa_nil)))
    (pss_cons (ps_set (i := 5) nd rfl (Or.inl rfl) (pe_g C_law_round (by exact hr.mono (by decide)) (E := fun _ => E0) (fun σ => passC0 σ) (fun _ _ _ _ _ _ us hl => match us, hl with | [_], _ => rfl) (pa_cons (pe_callTy (callListOfK (K := K) (by rfl)) (by rfl) T.list (by decide +kernel) (pa_cons (pv 3) pa_nil)) pa_nil)))
    (pss_cons (ps_if (PW.pt (pw_or (pt_not (pt_val (pe_g C_law_has (by exact hr.mono (by decide)) (E := fun _ => E0) (fun σ => passC0 σ) (fun _ _ _ _ _ _ us hl => match us, hl with | [_, _], _ => rfl) (pa_cons (pv 4) (pa_cons (pv 2) pa_nil))))) (pw_or (pt_not (pt_val (pe_g C_law_answers (by exact hr.mono (by decide)) (E := fun _ => E0) (fun σ => passC0 σ) (fun _ _ _ _ _ _ us hl => match us, hl with | [_, _, _], _ => rfl) (pa_cons (pv 4) (pa_cons (pv 2) (pa_cons (pv 0) pa_nil)))))) (pw_or1 (pt_not (pt_val (pe_g C_law_answers (by exact hr.mono (by decide)) (E := fun _ => E0) (fun σ => passC0 σ) (fun _ _ _ _ _ _ us hl => match us, hl with | [_, _, _], _ => rfl) (pa_cons (pv 5) (pa_cons (pv 3) (pa_cons (pv 0) pa_nil))))))))))
      (pss_one (ps_ret pe_bl))
      pss_nil)
    (pss_cons (ps_set (i := 6) nd rfl (Or.inl rfl) (pe_p C_Round_budgets R.c (by exact hr.mono (by decide)) pass0 (fun _ _ _ _ _ _ us hl => match us, hl with | [_], _ => rfl) (pv 4)))
    (pss_cons (ps_asg (pe_op (opAddK (K := K) (by rfl)) (pe_ix (ixSeqK (K := K) (by rfl)) (pv 6) pe_int (fun _ _ => rfl)) pe_int) (pg_sub (pv 6) pe_int set_list))
    (pss_cons (ps_expr (pe_bmK (K := K) (by rfl) PySem.F.plainAttrs_list PySem.F.slot_list_append PySem.F.type_list_append mt_append (pv 6) (pa_cons pe_int pa_nil)))
    (pss_cons (ps_set (i := 7) nd rfl (Or.inl rfl) (pe_callB (callRepr (K := K) (by rfl) (by exact hgd) (by exact hu)) (by rfl) T.repr (by decide +kernel) (pa_cons (pv 6) pa_nil)))
    (pss_cons (ps_if (PW.pt (pw_or (pt_not (pt_val (pe_g C_law_has (by exact hr.mono (by decide)) (E := fun _ => E0) (fun σ => passC0 σ) (fun _ _ _ _ _ _ us hl => match us, hl with | [_, _], _ => rfl) (pa_cons (pv 4) (pa_cons (pv 2) pa_nil))))) (pw_or (pt_not (pt_val (pe_g C_law_answers (by exact hr.mono (by decide)) (E := fun _ => E0) (fun σ => passC0 σ) (fun _ _ _ _ _ _ us hl => match us, hl with | [_, _, _], _ => rfl) (pa_cons (pv 4) (pa_cons (pv 2) (pa_cons (pv 0) pa_nil)))))) (pw_or1 (pt_cmpR (opNeK (K := K) (by rfl) (by exact hu)) (pe_callB (callRepr (K := K) (by rfl) (by exact hgd) (by exact hu)) (by rfl) T.repr (by decide +kernel) (pa_cons (pv 6) pa_nil)) (pv 7) (nomark _))))))
      (pss_one (ps_ret pe_bl))
      pss_nil)
    (pss_cons (ps_if (PW.pt (pw_or (pt_not (pt_val (pe_g C_law_shifts (by exact hr.mono (by decide)) (E := fun _ => E0) (fun σ => passC0 σ) (fun _ _ _ _ _ _ us hl => match us, hl with | [_, _, _], _ => rfl) (pa_cons (pv 4) (pa_cons (pv 2) (pa_cons (pv 0) pa_nil)))))) (pw_or1 (pt_not (pt_val (pe_g C_law_shifts (by exact hr.mono (by decide)) (E := fun _ => E0) (fun σ => passC0 σ) (fun _ _ _ _ _ _ us hl => match us, hl with | [_, _, _], _ => rfl) (pa_cons (pv 5) (pa_cons (pv 3) (pa_cons (pv 0) pa_nil)))))))))
      (pss_one (ps_ret pe_bl))
      pss_nil)
    (pss_cons (ps_if (pt_not (pt_val (pe_g C_law_added (by exact hr.mono (by decide)) (E := fun _ => E0) (fun σ => passC0 σ) (fun _ _ _ _ _ _ us hl => match us, hl with | [_, _, _, _, _], _ => rfl) (pa_cons (pv 4) (pa_cons (pv 2) (pa_cons (pv 5) (pa_cons (pv 3) (pa_cons (pe_g C_law_take (by exact hr.mono (by decide)) (E := fun _ => E0) (fun σ => passC0 σ) (fun _ _ _ _ _ _ us hl => match us, hl with | [_, _], _ => rfl) (pa_cons (pv 0) (pa_cons (pv 1) pa_nil))) pa_nil))))))))
      (pss_one (ps_ret pe_bl))
      pss_nil)
    (pss_cons (ps_if (pt_not (pt_val (pe_g C_law_equal (by exact hr.mono (by decide)) (E := fun _ => E0) (fun σ => passC0 σ) (fun _ _ _ _ _ _ us hl => match us, hl with | [_, _, _, _], _ => rfl) (pa_cons (pv 4) (pa_cons (pv 2) (pa_cons (pv 3) (pa_cons (pe_g C_law_take (by exact hr.mono (by decide)) (E := fun _ => E0) (fun σ => passC0 σ) (fun _ _ _ _ _ _ us hl => match us, hl with | [_, _], _ => rfl) (pa_cons (pv 0) (pa_cons (pv 1) pa_nil))) pa_nil)))))))
      (pss_one (ps_ret pe_bl))
      pss_nil)
    (pss_cons (ps_set (i := 8) nd rfl (Or.inl rfl) (pe_g C_law_number (by exact hr.mono (by decide)) (E := fun _ => E0) (fun σ => passC0 σ) (fun _ _ _ _ _ _ us hl => match us, hl with | [_, _], _ => rfl) (pa_cons (pv 0) (pa_cons (pe_op opPow pe_int pe_int) pa_nil))))
    (pss_cons (ps_set (i := 9) nd rfl (Or.inl rfl) (pe_sm C_Round_constant R.most.1 (by exact hr.mono (by decide)) pass0 (fun _ _ _ _ _ _ us hl => match us, hl with | [_], _ => rfl) (pe_glob (v := .ref c_Round) (u := .ref c_Round) (by rfl) R.g rfl) (pa_cons (pv 8) pa_nil)))
    (pss_cons (ps_if (PW.pt (pw_or (pt_not (pt_val (pe_g C_law_has (by exact hr.mono (by decide)) (E := fun _ => E0) (fun σ => passC0 σ) (fun _ _ _ _ _ _ us hl => match us, hl with | [_, _], _ => rfl) (pa_cons (pv 9) (pa_cons (pe_lst (pa_cons (pv 8) pa_nil)) pa_nil))))) (pw_or (pt_not (pt_cmpR (opOwnEq C_Round___eq__ (by exact hr.mono (by decide)) pass0 (fun _ _ _ _ _ _ us hl => match us, hl with | [_, _], _ => rfl)) (pv 9) (pe_mkR C_Round___init__ (by exact hr.mono (by decide)) (by rfl) R.g pass0 (pa_cons (pv 8) pa_nil)) (nomark _))) (pw_or1 (pt_not (pt_val (pe_g C_law_answers (by exact hr.mono (by decide)) (E := fun _ => E0) (fun σ => passC0 σ) (fun _ _ _ _ _ _ us hl => match us, hl with | [_, _, _], _ => rfl) (pa_cons (pv 9) (pa_cons (pe_lst (pa_cons (pv 8) pa_nil)) (pa_cons (pv 0) pa_nil))))))))))
      (pss_one (ps_ret pe_bl))
      pss_nil)
    (pss_one (ps_ret (pe_and (pe_g C_law_answers (by exact hr.mono (by decide)) (E := fun _ => E0) (fun σ => passC0 σ) (fun _ _ _ _ _ _ us hl => match us, hl with | [_, _, _], _ => rfl) (pa_cons (pv 5) (pa_cons (pv 3) (pa_cons (pv 0) pa_nil)))) (pe_one (pe_g C_law_answers (by exact hr.mono (by decide)) (E := fun _ => E0) (fun σ => passC0 σ) (fun _ _ _ _ _ _ us hl => match us, hl with | [_, _, _], _ => rfl) (pa_cons (pv 4) (pa_cons (pv 2) (pa_cons (pv 0) pa_nil)))))))))))))))))))))))))), ?_⟩
    try dsimp only [L2.cxOf, L2.Cx.nox]
    simp only [L2.start, N_law_case, List.map_cons, List.map_nil, List.length_cons, List.length_nil, Nat.reduceAdd, Nat.reduceSub, List.replicate_succ, List.replicate_zero, List.cons_append, List.nil_append]

    walk_at "go"
    rename_i d1 H1 d10 d11 e1 hB1 p bs H2 np e2 hB2 hp hR1 d2 H3 d20 d21 e3 hB3 q0 os0 H4 nq0 e4 hB4 hq0 hR0 d3 H5 d30 d31 e5 hB5
    have hbs : RB bs := hR1.rb (by omega) (by omega)
    have hbl : (bs.length : Int) = 1 + d1 := hR1.1
    have hbx : ∀ x ∈ bs, x ≤ 10 ^ 30 := fun x hx => (hR1.2 x hx).2
    have hos0 : RB os0 := hR0.rb (by omega) (by split at d21 <;> omega)
    refine ite_join (fun σ' H' => ∃ (q : Addr) (os : List Int), σ' = [some (.ref b), some (.int (1 + d1)), some (.ref p), some (.ref q), none, none, none, none, none, none] ∧ ExB b H5 H' ∧ Bg b H' ∧ At H' q (.lst (os.map V.int)) ∧ RB os ∧ NeC q b) (fun N hk => ?_) ?_
    · refine Gx.g_ite (fun hI => ?_) (fun hI => ?_)
      · walk_at "go"
        rename_i d4 H6 d40 d41 e6 hB6 q os H7 nq e7 hB7 hq hR7
        exact hk _ _ ⟨q, os, rfl, Gx.rel, inferInstance, hq, hR7.rb (by omega) (by omega), inferInstance⟩
      · walk_at "go"
        exact hk _ _ ⟨q0, os0, rfl, Gx.rel, inferInstance, inferInstance, hos0, inferInstance⟩
    rintro σ' H6 ⟨q, os, rfl, e6, hB6, hq, hos, hqb⟩
    have l1 := hbs.l1
    have l2 := hbs.l2
    have l3 := hos.l1
    have l4 := hos.l2
    walk_at "gos"
    refine Gx.g_app (by simp; omega) fun H7 e7 h7 => ?_
    obtain ⟨ts, hts⟩ : ∃ ts : List Int, ts = bs.set (Int.toNat 0) (bs.getD (Int.toNat 0) 0 + 1) ++ [7] := ⟨_, rfl⟩
    rw [show [V.int 7] = [7].map V.int from rfl, ← List.map_append, ← hts] at h7
    have htl : ts.length ≤ 13 := by rw [hts]; simp; omega
    have hsh : Gx.ShowOk (.list (ts.map PyData.int)) := Gx.showInts (fun n hn => by
      refine Nat.lt_of_lt_of_le (PySem.Flt.log2_lt_of (k := 200) (by decide) ?_) (by decide)
      rw [hts] at hn
      rcases List.mem_append.mp hn with hn | hn
      · rcases List.mem_or_eq_of_mem_set hn with hn | hn
        · have h1 := hbs.h0 _ hn
          have h2 := hbx _ hn
          omega
        · have h0 := hbs.mem (j := Int.toNat 0) (by omega)
          have h1 := hbs.h0 _ h0
          have h2 := hbx _ h0
          omega
      · rw [List.mem_singleton.mp hn]
        decide) (by omega)
    clear hts
    walk_at "gos"
    refine Gx.g_mkR (bs := [_]) (by simp) (by simp; omega) fun a9 H9 n9 e9 r9 => ?_
    walk_at "gos"
    exact k _ Gx.rel
local macro_rules | `(tactic| walk_at "call") => `(tactic| ((with_reducible show spCase _ _ _ _); refine ⟨_, rfl, by infer_instance, ?_⟩; intro H_ e_))
def spLaw (K : PySem.W.Frag) : Sp := fun vs H Q _ => ∃ (a : Addr) (ns : List Int), vs = [.ref a] ∧ SqL K H a (ns.map V.int) ∧ ns.length ≤ 63 ∧ (∀ z ∈ ns, Builtin.Int.intBits z ≤ 1048576) ∧ ∀ H', Q (.bl true) H'
abbrev s_law : Stmt := (top 26)
abbrev N_law : List Str := ["_law_script", "_law_k"]
theorem sc_law : FnScope N_law ["_law_script"] (defScope s_law) := ⟨rfl, rfl, rfl, by decide +kernel, rfl, by decide +kernel, by decide +kernel⟩
theorem ok_law {f : Addr} {fd : FuncData} (T : Bl mg) (R : RdF K mg c_Round) (F : FunD K "law" "law" (defArgs s_law) (defBody s_law) (defScope s_law) [] [] f fd) (C_law_case : ClGG CX0 P w K mg base 13 "_law_case" s_law_case ["_law_bag_here"] [] [] spCase) (C_law_bag : ClG CX0 P w K mg base 3 "_law_bag" s_law_bag ["_law_script", "_law_k"] [] [] (spBag K)) (C_law_is_number : ClG CX0 P w K mg base 3 "_law_is_number" s_law_is_number ["_law_told"] [] [] spNum) : FnG P w K mg base CX0 15 f fd ["_law_script"] (spLaw K) := by
  have nd := sc_law.nd
  refine FunD.okG F sc_law (fun vs H Q E h => ?_) (fun cdv A outer s H vs Q E hgd hr h => ?_)
  · obtain ⟨a, ns, rfl, _⟩ := h
    rfl
  · obtain ⟨a, ns, rfl, hs, hl, hbits, k⟩ := h
    have hu := hu64 hr
    refine ⟨_, (pss_cons (ps_if (PW.pt (pw_or (pt_not (pt_val (pe_g C_law_is_number (by exact hr.mono (by decide)) (E := fun _ => E0) (fun σ => passC0 σ) (fun _ _ _ _ _ _ us hl => match us, hl with | [_], _ => rfl) (pa_cons (_root_.ClX.pe_cval (pe_glob (v := .ref c_Round) (u := .ref c_Round) (by rfl) R.g rfl)) pa_nil)))) (pw_or1 (pt_cmpR (opNeK (K := K) (by rfl) (by exact hu)) (_root_.ClX.pe_cval (pe_glob (v := .ref c_Round) (u := .ref c_Round) (by rfl) R.g rfl)) pe_int (nomark _)))))
      (pss_one (ps_ret pe_bl))
      pss_nil)
    (pss_cons (ps_for PassesOwn.never rfl (pi_range1 rfl T.range (pa_cons (pe_callB (callMax2 rfl) (by rfl) T.max (by decide +kernel) (pa_cons pe_int (pa_cons (pe_callB (callMin2 rfl) (by rfl) T.min (by decide +kernel) (pa_cons pe_int (pa_cons (pe_callB (callLenK (K := K) (by rfl)) (by rfl) T.len (by decide +kernel) (pa_cons (pv 0) pa_nil)) pa_nil))) pa_nil))) pa_nil)) (pg_name (i := 1) nd rfl (Or.inl rfl))
      (pss_one (ps_if (pt_not (pt_val (pe_gG C_law_case (by exact hr.mono (by decide)) (by exact hgd) (E := fun _ => E0) (fun σ => passC0 σ) (fun _ _ _ _ _ _ us hl => match us, hl with | [_], _ => rfl) (pa_cons (pe_g C_law_bag (by exact hr.mono (by decide)) (E := fun _ => E0) (fun σ => passC0 σ) (fun _ _ _ _ _ _ us hl => match us, hl with | [_, _], _ => rfl) (pa_cons (pv 0) (pa_cons (pv 1) pa_nil))) pa_nil))))
      (pss_one (ps_ret pe_bl))
      pss_nil)))
    (pss_one (ps_ret pe_bl)))), ?_⟩
    try dsimp only [L2.cxOf, L2.Cx.nox]
    simp only [L2.start, N_law, List.map_cons, List.map_nil, List.length_cons, List.length_nil, Nat.reduceAdd, Nat.reduceSub, List.replicate_succ, List.replicate_zero, List.cons_append, List.nil_append]

    have hs : SqC K H a (ns.map V.int) := ⟨hs⟩
    walk_at "gos"
    refine Gx.for1 [] (fun i σ' H' => ∃ s1, σ' = [some (.ref a), s1]) (by omega) ⟨_, rfl⟩ ?_ ?_
    · rintro i σ' H' hi e ⟨s1, rfl⟩
      walk_at "gos"
      exact Gx.li ⟨_, rfl⟩
    · rintro σ' H' e ⟨s1, rfl⟩
      walk_at "gos"
      exact k _

end
theorem all_mk {l : PySem.W.OpenLaw} {w : World} {K : PySem.W.Frag} {h : Heap} {mg : Str → Option Value} {fa : Addr} {c_Round : Addr} (X : K.In h) (G : h.Ns mainGlobals mg) (hfa : mg "law" = some (.ref fa)) (T : Bl mg) (R : RdF K mg c_Round) (D_at_least : DfG K mg "at_least" s_at_least [] []) (D_whole_number : DfG K mg "whole_number" s_whole_number [] []) (D_Round___init__ : DfI K c_Round "Round.__init__" s_Round___init__) (D_Round__window : DfM K c_Round "_window" "Round._window" s_Round__window [] []) (D_Round_total : DfM K c_Round "total" "Round.total" s_Round_total [] []) (D_Round__windows : DfM K c_Round "_windows" "Round._windows" s_Round__windows [] []) (D_Round_least : DfM K c_Round "least" "Round.least" s_Round_least [] []) (D_Round_at : DfM K c_Round "at" "Round.at" s_Round_at [] []) (D_Round_shifted : DfM K c_Round "shifted" "Round.shifted" s_Round_shifted [] []) (D_Round_budgets : DfP K c_Round "budgets" "Round.budgets" s_Round_budgets) (D_Round___add__ : DfM K c_Round "__add__" "Round.__add__" s_Round___add__ [] []) (D_law_bag : DfG K mg "_law_bag" s_law_bag [] []) (D_law_take : DfG K mg "_law_take" s_law_take [] []) (D_law_number : DfG K mg "_law_number" s_law_number [] []) (D_law_row : DfG K mg "_law_row" s_law_row [] []) (D_law_is_number : DfG K mg "_law_is_number" s_law_is_number [] []) (D_law_sum : DfG K mg "_law_sum" s_law_sum [] []) (D_law_moved : DfG K mg "_law_moved" s_law_moved [] []) (D_law_count : DfG K mg "_law_count" s_law_count [] []) (D_Round___len__ : DfM K c_Round "__len__" "Round.__len__" s_Round___len__ [] []) (D_Round_constant : DfT K c_Round "constant" "Round.constant" s_Round_constant) (D_Round___eq__ : DfM K c_Round "__eq__" "Round.__eq__" s_Round___eq__ [] []) (D_law_round : DfG K mg "_law_round" s_law_round [] []) (D_law_has : DfG K mg "_law_has" s_law_has [] []) (D_law_answers : DfG K mg "_law_answers" s_law_answers [] []) (D_law_shifts : DfG K mg "_law_shifts" s_law_shifts [] []) (D_law_near : DfG K mg "_law_near" s_law_near [] []) (D_law_equal : DfG K mg "_law_equal" s_law_equal [] []) (D_law_added : DfG K mg "_law_added" s_law_added [] []) (D_law_case : DfG K mg "_law_case" s_law_case [] []) (D_law : DfG K mg "law" s_law [] []) :
    ∃ fd : FuncData, (∀ (s : Shared) (u : Value), BindsTo s fd ⟨[u], []⟩ [("_law_script", u)]) ∧ ∀ base : Heap, K.In base → base.Ns mainGlobals mg → FnG l.prog w K mg base CX0 15 fa fd ["_law_script"] (spLaw K) := by
  obtain ⟨f, fd, h1, F⟩ := D_law.ex
  have e := hfa.symm.trans h1
  cases e
  refine ⟨fd, fun s u => F.bindsA (ps := ["_law_script"]) (fun _ _ _ _ _ _ us hl => match us, hl with | [_], _ => rfl) s [u] rfl, fun base _ _ => ?_⟩
  have C_at_least : ClG CX0 l.prog w K mg base 3 "at_least" s_at_least ["value", "least", "field"] [] [] spAtl := cl_at_least T R D_at_least 
  have C_whole_number : ClG CX0 l.prog w K mg base 3 "whole_number" s_whole_number ["value", "field"] [] [] spWhole := cl_whole_number T R D_whole_number 
  have C_Round___init__ : ClI CX0 l.prog w K mg base 5 c_Round := cl_Round___init__ T R D_Round___init__ C_at_least C_whole_number
  have C_Round__window : ClM CX0 l.prog w K mg base 3 c_Round "_window" "Round._window" s_Round__window ["self", "start", "count"] [] [] (spWin c_Round) := cl_Round__window T R D_Round__window 
  have C_Round_total : ClM CX0 l.prog w K mg base 5 c_Round "total" "Round.total" s_Round_total ["self", "start", "count"] [] [] (spWin c_Round) := cl_Round_total T R D_Round_total C_Round__window C_at_least
  have C_Round__windows : ClM CX0 l.prog w K mg base 5 c_Round "_windows" "Round._windows" s_Round__windows ["self", "count"] [] [] (spWins c_Round) := cl_Round__windows T R D_Round__windows C_Round__window
  have C_Round_least : ClM CX0 l.prog w K mg base 7 c_Round "least" "Round.least" s_Round_least ["self", "count"] [] [] (spLst c_Round) := cl_Round_least T R D_Round_least C_Round__windows C_at_least
  have C_Round_at : ClM CX0 l.prog w K mg base 5 c_Round "at" "Round.at" s_Round_at ["self", "t"] [] [] (spAt c_Round) := cl_Round_at T R D_Round_at C_at_least
  have C_Round_shifted : ClM CX0 l.prog w K mg base 7 c_Round "shifted" "Round.shifted" s_Round_shifted ["self", "phase"] [] [] (spShift c_Round) := cl_Round_shifted T R D_Round_shifted C_Round___init__ C_at_least
  have C_Round_budgets : ClP CX0 l.prog w K mg base 3 c_Round "budgets" "Round.budgets" s_Round_budgets (spBud c_Round) := cl_Round_budgets T R D_Round_budgets 
  have C_Round___add__ : ClM CX0 l.prog w K mg base 7 c_Round "__add__" "Round.__add__" s_Round___add__ ["self", "other"] [] [] (spRadd c_Round) := cl_Round___add__ T R D_Round___add__ C_Round___init__
  have C_law_bag : ClG CX0 l.prog w K mg base 3 "_law_bag" s_law_bag ["_law_script", "_law_k"] [] [] (spBag K) := cl_law_bag T R D_law_bag 
  have C_law_take : ClG CX0 l.prog w K mg base 3 "_law_take" s_law_take ["_law_bag_here", "_law_size"] [] [] spTake := cl_law_take T R D_law_take 
  have C_law_number : ClG CX0 l.prog w K mg base 5 "_law_number" s_law_number ["_law_bag_here", "_law_most"] [] [] spNumber := cl_law_number T R D_law_number C_law_take
  have C_law_row : ClG CX0 l.prog w K mg base 7 "_law_row" s_law_row ["_law_bag_here", "_law_size"] [] [] spRow := cl_law_row T R D_law_row C_law_take C_law_number
  have C_law_is_number : ClG CX0 l.prog w K mg base 3 "_law_is_number" s_law_is_number ["_law_told"] [] [] spNum := cl_law_is_number T R D_law_is_number 
  have C_law_sum : ClG CX0 l.prog w K mg base 3 "_law_sum" s_law_sum ["_law_row_here", "_law_start", "_law_count_here"] [] [] (spSum K) := cl_law_sum T R D_law_sum 
  have C_law_moved : ClG CX0 l.prog w K mg base 3 "_law_moved" s_law_moved ["_law_row_here", "_law_phase"] [] [] (spMoved K) := cl_law_moved T R D_law_moved 
  have C_law_count : ClG CX0 l.prog w K mg base 7 "_law_count" s_law_count ["_law_bag_here", "_law_size"] [] [] spCount := cl_law_count T R D_law_count C_law_take C_law_number
  have C_Round___len__ : ClM CX0 l.prog w K mg base 3 c_Round "__len__" "Round.__len__" s_Round___len__ ["self"] [] [] (Gx.spLen c_Round) := cl_Round___len__ T R D_Round___len__ 
  have C_Round_constant : ClT CX0 l.prog w K mg base 7 c_Round "constant" "Round.constant" s_Round_constant ["budget"] (spConst c_Round) := cl_Round_constant T R D_Round_constant C_Round___init__
  have C_Round___eq__ : ClM CX0 l.prog w K mg base 3 c_Round "__eq__" "Round.__eq__" s_Round___eq__ ["self", "other"] [] [] (spREq c_Round) := cl_Round___eq__ T R D_Round___eq__ 
  have C_law_round : ClG CX0 l.prog w K mg base 7 "_law_round" s_law_round ["_law_row_here"] [] [] (spLR1 c_Round K) := cl_law_round T R D_law_round C_Round___init__
  have C_law_has : ClG CX0 l.prog w K mg base 5 "_law_has" s_law_has ["_law_made", "_law_row_here"] [] [] (spHas c_Round K) := cl_law_has T R D_law_has C_law_is_number C_Round_budgets C_Round___len__
  have C_law_answers : ClG CX0 l.prog w K mg base 9 "_law_answers" s_law_answers ["_law_made", "_law_row_here", "_law_bag_here"] [] [] (spAns c_Round K) := cl_law_answers T R D_law_answers C_Round_total C_law_sum C_law_is_number C_law_count C_law_number C_Round_at
  have C_law_shifts : ClG CX0 l.prog w K mg base 11 "_law_shifts" s_law_shifts ["_law_made", "_law_row_here", "_law_bag_here"] [] [] (spShf c_Round K) := cl_law_shifts T R D_law_shifts C_law_has C_Round_shifted C_law_answers C_law_moved C_law_number
  have C_law_near : ClG CX0 l.prog w K mg base 5 "_law_near" s_law_near ["_law_row_here", "_law_way", "_law_other", "_law_spot"] [] [] (spNear K) := cl_law_near T R D_law_near C_law_moved
  have C_law_equal : ClG CX0 l.prog w K mg base 9 "_law_equal" s_law_equal ["_law_made", "_law_row_here", "_law_other", "_law_spot"] [] [] (spEqu c_Round K) := cl_law_equal T R D_law_equal C_Round___eq__ C_law_round C_law_near
  have C_law_added : ClG CX0 l.prog w K mg base 9 "_law_added" s_law_added ["_law_made", "_law_row_here", "_law_mate", "_law_other", "_law_cut"] [] [] (spAdd c_Round K) := cl_law_added T R D_law_added C_law_has C_Round___eq__ C_Round___add__ C_law_round
  have C_law_case : ClGG CX0 l.prog w K mg base 13 "_law_case" s_law_case ["_law_bag_here"] [] [] spCase := cl_law_case T R D_law_case C_law_answers C_Round___eq__ C_Round___init__ C_law_has C_Round_constant C_law_number C_law_equal C_law_take C_law_added C_law_shifts C_Round_budgets C_law_round C_law_row
  exact ok_law T R F C_law_case C_law_bag C_law_is_number
theorem walk {l : PySem.W.OpenLaw} {q : Program} {loose : List Str} {XP : (Str → Option Value) → Heap → Prop} {YP : World → Heap → Prop} {d : DefRec} {K : Params → PySem.W.Frag} (hn : l.most = some 63) (hdf : d.params.defaults = [])
    (hY : ∀ (w : World) (h : Heap), YP w h → (K w.params).In h)
    (F : ∀ (w : World) (mg : Str → Option Value) (fa : Addr) (h : Heap), (K w.params).In h → h.Ns mainGlobals mg → mg d.name = some (.ref fa) →
      ∃ fd : FuncData, (∀ (s : Shared) (u : Value), BindsTo s fd ⟨[u], []⟩ [("_law_script", u)]) ∧ ∀ base : Heap, (K w.params).In base → base.Ns mainGlobals mg → FnG l.prog w (K w.params) mg base CX0 15 fa fd ["_law_script"] (spLaw (K w.params))) :
    PySem.W.WalkO q loose XP YP l.row.toRowW d [] (fun f vs => PySem.call f vs) :=
  Gx.walk_ofG (n := 63) (k := 15) (x := "_law_script") (CX := fun _ => CX0) (sp := fun w => spLaw (K w.params)) hn (by decide) hdf ⟨rfl, by decide, by decide⟩ hY F (fun _ _ a ns hl hb _ hS => ⟨a, ns, rfl, hS, hl, hb, fun _ => rfl⟩) fun _ _ _ _ _ z => z
end Toy
open PySem PySem.W PyProof.Rows in
set_option maxRecDepth 100000 in
set_option maxHeartbeats 0 in
theorem PySem.Challenge.cw_carrylog_k00_round_sums_holds : PySem.Challenge.rw_carrylog_k00_round_sums.Holds := by
  w_on; o_law; k_head; (case hw => w_witness2)
  k_fill
  refine Toy.walk (l := PySem.Challenge.rw_carrylog_k00_round_sums) rfl rfl (fun w h Y => PySem.W.kIn_of Y) ?F
  case F =>
    intro w mg fa h KX G hmg
    refine' Toy.all_mk KX G hmg ?T ?R ?d0 ?d1 ?d2 ?d3 ?d4 ?d5 ?d6 ?d7 ?d8 ?d9 ?d10 ?d11 ?d12 ?d13 ?d14 ?d15 ?d16 ?d17 ?d18 ?d19 ?d20 ?d21 ?d22 ?d23 ?d24 ?d25 ?d26 ?d27 ?d28 ?d29 ?d30
    case T =>
      constructor
      all_goals (refine PySem.W.mg_none_of KX G ?_; k_is)
    (case R => (refine' Gx.rdf_mk KX G ?zza ?zzpg ?zzhd ?zzpo ?zzsa ?zznb ?zzrd ?zzga ?zzmo ?zzsf ?zzt1 ?zzt2 ?zzt3 ?zzt4; (case zza => k_is); (case zzsf => k_is); (case zzt1 => k_is); (case zzt2 => k_is); (case zzt3 => k_is); (case zzt4 => k_is); (case zzpg => k_is); (case zzhd => k_is); (case zzpo => k_is); (case zzsa => k_is); (case zznb => k_is); (case zzmo => k_is); (case zzrd => k_is); (case zzga => k_is)))
    (case d0 => (refine' Gx.dfg_mk KX G ?zza ?zzl ?zzc ?zzk ?zzd ?zzq; (case zza => k_is); (case zzl => k_is); (case zzc => k_is); (case zzk => k_is); (case zzd => exact .inl ⟨rfl, rfl⟩); (case zzq => exact .inl rfl)))
    (case d1 => (refine' Gx.dfg_mk KX G ?zza ?zzl ?zzc ?zzk ?zzd ?zzq; (case zza => k_is); (case zzl => k_is); (case zzc => k_is); (case zzk => k_is); (case zzd => exact .inl ⟨rfl, rfl⟩); (case zzq => exact .inl rfl)))
    (case d2 => (refine' Gx.dfi_mk ?zzmk ?zza ?zzb ?zzk ?zzl ?zzc; (case zzmk => k_is); (case zza => k_is); (case zzb => k_is); (case zzk => k_is); (case zzl => k_is); (case zzc => k_is)))
    (case d3 => (refine' Gx.dfm_mk ?zza ?zzb ?zzk ?zzl ?zzc ?zzd ?zzq; (case zza => k_is); (case zzb => k_is); (case zzk => k_is); (case zzl => k_is); (case zzc => k_is); (case zzd => exact .inl ⟨rfl, rfl⟩); (case zzq => exact .inl rfl)))
    (case d4 => (refine' Gx.dfm_mk ?zza ?zzb ?zzk ?zzl ?zzc ?zzd ?zzq; (case zza => k_is); (case zzb => k_is); (case zzk => k_is); (case zzl => k_is); (case zzc => k_is); (case zzd => exact .inl ⟨rfl, rfl⟩); (case zzq => exact .inl rfl)))
    (case d5 => (refine' Gx.dfm_mk ?zza ?zzb ?zzk ?zzl ?zzc ?zzd ?zzq; (case zza => k_is); (case zzb => k_is); (case zzk => k_is); (case zzl => k_is); (case zzc => k_is); (case zzd => exact .inl ⟨rfl, rfl⟩); (case zzq => exact .inl rfl)))
    (case d6 => (refine' Gx.dfm_mk ?zza ?zzb ?zzk ?zzl ?zzc ?zzd ?zzq; (case zza => k_is); (case zzb => k_is); (case zzk => k_is); (case zzl => k_is); (case zzc => k_is); (case zzd => exact .inl ⟨rfl, rfl⟩); (case zzq => exact .inl rfl)))
    (case d7 => (refine' Gx.dfm_mk ?zza ?zzb ?zzk ?zzl ?zzc ?zzd ?zzq; (case zza => k_is); (case zzb => k_is); (case zzk => k_is); (case zzl => k_is); (case zzc => k_is); (case zzd => exact .inl ⟨rfl, rfl⟩); (case zzq => exact .inl rfl)))
    (case d8 => (refine' Gx.dfm_mk ?zza ?zzb ?zzk ?zzl ?zzc ?zzd ?zzq; (case zza => k_is); (case zzb => k_is); (case zzk => k_is); (case zzl => k_is); (case zzc => k_is); (case zzd => exact .inl ⟨rfl, rfl⟩); (case zzq => exact .inl rfl)))
    (case d9 => (refine' Gx.dfp_mk ?zza ?zzb ?zzt ?zzr ?zzl ?zzc ?zzk; (case zza => k_is); (case zzb => k_is); (case zzt => k_is); (case zzr => k_is); (case zzl => k_is); (case zzc => k_is); (case zzk => k_is)))
    (case d10 => (refine' Gx.dfm_mk ?zza ?zzb ?zzk ?zzl ?zzc ?zzd ?zzq; (case zza => k_is); (case zzb => k_is); (case zzk => k_is); (case zzl => k_is); (case zzc => k_is); (case zzd => exact .inl ⟨rfl, rfl⟩); (case zzq => exact .inl rfl)))
    (case d11 => (refine' Gx.dfg_mk KX G ?zza ?zzl ?zzc ?zzk ?zzd ?zzq; (case zza => k_is); (case zzl => k_is); (case zzc => k_is); (case zzk => k_is); (case zzd => exact .inl ⟨rfl, rfl⟩); (case zzq => exact .inl rfl)))
    (case d12 => (refine' Gx.dfg_mk KX G ?zza ?zzl ?zzc ?zzk ?zzd ?zzq; (case zza => k_is); (case zzl => k_is); (case zzc => k_is); (case zzk => k_is); (case zzd => exact .inl ⟨rfl, rfl⟩); (case zzq => exact .inl rfl)))
    (case d13 => (refine' Gx.dfg_mk KX G ?zza ?zzl ?zzc ?zzk ?zzd ?zzq; (case zza => k_is); (case zzl => k_is); (case zzc => k_is); (case zzk => k_is); (case zzd => exact .inl ⟨rfl, rfl⟩); (case zzq => exact .inl rfl)))
    (case d14 => (refine' Gx.dfg_mk KX G ?zza ?zzl ?zzc ?zzk ?zzd ?zzq; (case zza => k_is); (case zzl => k_is); (case zzc => k_is); (case zzk => k_is); (case zzd => exact .inl ⟨rfl, rfl⟩); (case zzq => exact .inl rfl)))
    (case d15 => (refine' Gx.dfg_mk KX G ?zza ?zzl ?zzc ?zzk ?zzd ?zzq; (case zza => k_is); (case zzl => k_is); (case zzc => k_is); (case zzk => k_is); (case zzd => exact .inl ⟨rfl, rfl⟩); (case zzq => exact .inl rfl)))
    (case d16 => (refine' Gx.dfg_mk KX G ?zza ?zzl ?zzc ?zzk ?zzd ?zzq; (case zza => k_is); (case zzl => k_is); (case zzc => k_is); (case zzk => k_is); (case zzd => exact .inl ⟨rfl, rfl⟩); (case zzq => exact .inl rfl)))
    (case d17 => (refine' Gx.dfg_mk KX G ?zza ?zzl ?zzc ?zzk ?zzd ?zzq; (case zza => k_is); (case zzl => k_is); (case zzc => k_is); (case zzk => k_is); (case zzd => exact .inl ⟨rfl, rfl⟩); (case zzq => exact .inl rfl)))
    (case d18 => (refine' Gx.dfg_mk KX G ?zza ?zzl ?zzc ?zzk ?zzd ?zzq; (case zza => k_is); (case zzl => k_is); (case zzc => k_is); (case zzk => k_is); (case zzd => exact .inl ⟨rfl, rfl⟩); (case zzq => exact .inl rfl)))
    (case d19 => (refine' Gx.dfm_mk ?zza ?zzb ?zzk ?zzl ?zzc ?zzd ?zzq; (case zza => k_is); (case zzb => k_is); (case zzk => k_is); (case zzl => k_is); (case zzc => k_is); (case zzd => exact .inl ⟨rfl, rfl⟩); (case zzq => exact .inl rfl)))
    (case d20 => (refine' Gx.dft_mk ?zza ?zzr ?zzl ?zzc ?zzk; (case zza => k_is); (case zzr => k_is); (case zzl => k_is); (case zzc => k_is); (case zzk => k_is)))
    (case d21 => (refine' Gx.dfm_mk ?zza ?zzb ?zzk ?zzl ?zzc ?zzd ?zzq; (case zza => k_is); (case zzb => k_is); (case zzk => k_is); (case zzl => k_is); (case zzc => k_is); (case zzd => exact .inl ⟨rfl, rfl⟩); (case zzq => exact .inl rfl)))
    (case d22 => (refine' Gx.dfg_mk KX G ?zza ?zzl ?zzc ?zzk ?zzd ?zzq; (case zza => k_is); (case zzl => k_is); (case zzc => k_is); (case zzk => k_is); (case zzd => exact .inl ⟨rfl, rfl⟩); (case zzq => exact .inl rfl)))
    (case d23 => (refine' Gx.dfg_mk KX G ?zza ?zzl ?zzc ?zzk ?zzd ?zzq; (case zza => k_is); (case zzl => k_is); (case zzc => k_is); (case zzk => k_is); (case zzd => exact .inl ⟨rfl, rfl⟩); (case zzq => exact .inl rfl)))
    (case d24 => (refine' Gx.dfg_mk KX G ?zza ?zzl ?zzc ?zzk ?zzd ?zzq; (case zza => k_is); (case zzl => k_is); (case zzc => k_is); (case zzk => k_is); (case zzd => exact .inl ⟨rfl, rfl⟩); (case zzq => exact .inl rfl)))
    (case d25 => (refine' Gx.dfg_mk KX G ?zza ?zzl ?zzc ?zzk ?zzd ?zzq; (case zza => k_is); (case zzl => k_is); (case zzc => k_is); (case zzk => k_is); (case zzd => exact .inl ⟨rfl, rfl⟩); (case zzq => exact .inl rfl)))
    (case d26 => (refine' Gx.dfg_mk KX G ?zza ?zzl ?zzc ?zzk ?zzd ?zzq; (case zza => k_is); (case zzl => k_is); (case zzc => k_is); (case zzk => k_is); (case zzd => exact .inl ⟨rfl, rfl⟩); (case zzq => exact .inl rfl)))
    (case d27 => (refine' Gx.dfg_mk KX G ?zza ?zzl ?zzc ?zzk ?zzd ?zzq; (case zza => k_is); (case zzl => k_is); (case zzc => k_is); (case zzk => k_is); (case zzd => exact .inl ⟨rfl, rfl⟩); (case zzq => exact .inl rfl)))
    (case d28 => (refine' Gx.dfg_mk KX G ?zza ?zzl ?zzc ?zzk ?zzd ?zzq; (case zza => k_is); (case zzl => k_is); (case zzc => k_is); (case zzk => k_is); (case zzd => exact .inl ⟨rfl, rfl⟩); (case zzq => exact .inl rfl)))
    (case d29 => (refine' Gx.dfg_mk KX G ?zza ?zzl ?zzc ?zzk ?zzd ?zzq; (case zza => k_is); (case zzl => k_is); (case zzc => k_is); (case zzk => k_is); (case zzd => exact .inl ⟨rfl, rfl⟩); (case zzq => exact .inl rfl)))
    (case d30 => (refine' Gx.dfg_mk KX G ?zza ?zzl ?zzc ?zzk ?zzd ?zzq; (case zza => k_is); (case zzl => k_is); (case zzc => k_is); (case zzk => k_is); (case zzd => exact .inl ⟨rfl, rfl⟩); (case zzq => exact .inl rfl)))
#print axioms PySem.Challenge.cw_carrylog_k00_round_sums_holds

