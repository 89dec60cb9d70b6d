import PyProof.Rows.All
import Wide.All
import OpenK.AllK
import Wide.FinOn
import HandS.ForMost
import HandS.Wide
import HandS.WideBits
import HandS.IsInst
import HandS.StrMore
import HandS.TupAny
import HandS.EndBits
import PyProof.StrOps2
import HandS.Style
import HandS.Iter
import HandS.Comp
import HandS.Zip
import HandS.Codes
import KE.GoesMore
import PyProof.EnumMake
import PyProof.Draws
import HandS.Defaults
import HandS.MakeKwOnly
import HandS.ExcInit
import HandS.ExcSuper
import HandS.NestedK
import HandS.ClsMeth
import KE.KSuper
import KE.KExcSuper
import HandS.FStr
import HandS.WordsExc
import HandS.ExcIs
import HandS.ExcField
import HandS.HotCalls
import KE.KExcIs
import KE.KIsAll
import HandS.ExcInitHot
import HandS.TryOnly
import PySem.Challenge.RW_carrylog_k10_whole_domination_is_kept
set_option Elab.async false
set_option linter.all false
set_option maxRecDepth 100000
set_option maxHeartbeats 2000000
/-! Gx: short words over the hand layer: callable defs by name (Df, Cl), operators by the values' kinds, steps of a reading (g_..), heaps that only grow (Ex, ExB). -/
namespace Gx
open PySem PySem.Spec PyProof.Rows L2

/-- n times the text z -/
def repS (z : Str) (n : Nat) : Str := ⟨((List.replicate n z.cps.toList).flatten).toArray⟩
theorem foldl_app (l : List (Array Nat)) : ∀ a : Array Nat, (l.foldl (· ++ ·) a).toList = a.toList ++ (l.map Array.toList).flatten := by
  induction l with
  | nil => intro a; simp
  | cons x r ih => intro a; rw [List.foldl_cons, ih]; simp
theorem repS_fold (z : Str) (n : Nat) : (⟨(List.replicate n z.cps).foldl (· ++ ·) #[]⟩ : Str) = repS z n := by
  unfold repS
  congr 1
  apply Array.toList_inj.mp
  rw [foldl_app]
  simp
theorem repS_one (z : Str) : repS z 1 = z := by
  unfold repS
  simp
theorem repS_nil (z : Str) (n : Nat) (h : z.length = 0) : repS z n = z := by
  obtain ⟨a⟩ := z
  have h' : a = #[] := Array.size_eq_zero_iff.mp h
  subst h'
  unfold repS
  simp
theorem repS_zero (z : Str) : repS z 0 = Str.empty := by
  unfold repS
  simp
  rfl
theorem repS_length (z : Str) (n : Nat) : (repS z n).length = z.length * n := by
  unfold repS Str.length
  simp [Nat.mul_comm]
section
variable {P : Program} {w : World} {K : PySem.W.Frag} {mg : Str → Option Value} {base : Heap}
/-- the def x of the text st as the top left it -/
structure Df (K : PySem.W.Frag) (mg : Str → Option Value) (x : Str) (st : Stmt) (ps : List Str) : Prop where
  ex : ∃ (f : Addr) (fd : FuncData), mg x = some (.ref f) ∧ Fun K x x st f fd ∧ ∀ us : List Value, us.length = ps.length → bindArgs fd ⟨us, []⟩ = pure (ps.zip us)
/-- the def x may be called -/
structure Cl (P : Program) (w : World) (K : PySem.W.Frag) (mg : Str → Option Value) (base : Heap) (k : Nat) (x : Str) (ps : List Str) (sp : Sp) : Prop where
  ex : ∃ (f : Addr) (fd : FuncData), mg x = some (.ref f) ∧ PySem.W.keepIn K (.ref f) = true ∧ (∀ us : List Value, us.length = ps.length → bindArgs fd ⟨us, []⟩ = pure (ps.zip us)) ∧ FnOk P w K mg base CX0 k f fd ps sp
theorem df_mk {h : Heap} {x : Str} {st : Stmt} {ps : List Str} {f : Addr} {oc : Value} {od an : Option Addr} {osl : Array (Option Value)} {kV doc pm cdv ct : Value} (X : K.In h) (G : h.Ns mainGlobals mg)
    (a : PySem.W.nsIn K mainGlobals x = some (some (.ref f))) (l : K.lookup f = some ⟨oc, od, .func (PySem.W.fnOf x x (defArgs st) (defBody st) (defScope st) .none kV doc pm an cdv ct), osl⟩)
    (c : PySem.W.codeIn K cdv x = true) (k : PySem.W.keepIn K (.ref f) = true)
    (b : ∀ us : List Value, us.length = ps.length → bindArgs (PySem.W.fnOf x x (defArgs st) (defBody st) (defScope st) .none kV doc pm an cdv ct) ⟨us, []⟩ = pure (ps.zip us)) : Df K mg x st ps :=
  ⟨f, _, PySem.W.mg_of X G a, fun_mk l c k, b⟩
theorem Df.ok {x : Str} {st : Stmt} {N ps : List Str} {k : Nat} {sp : Sp} (D : Df K mg x st ps) (S : FnScope N ps (defScope st)) (len : ∀ vs H Q E, sp vs H Q E → vs.length = ps.length)
    (hbody : ∀ (f : Addr) (cdv : Value) (A : Around) (outer : List Env) (s : Shared) (H : Hp) (vs : List V) (Q : VK) (E : XK), Room k (A.deeper (envOfC x (defScope st) s.heap.objs.size f cdv)) → sp vs H Q E →
      ∃ t, PSs (cxOf CX0 P w K mg base N x (defScope st) f cdv A outer s H E).nox (defBody st) t ∧ t { nx := fun _ H' => Q .non H', rt := Q } (start N vs) H) : Cl P w K mg base (k + 1) x ps sp := by
  obtain ⟨f, fd, h1, h2, h3⟩ := D.ex
  exact ⟨f, fd, h1, h2.kp, h3, h2.ok S len fun cdv A outer s H vs Q E hr h => hbody f cdv A outer s H vs Q E hr h⟩
theorem Cl.mono {x : Str} {ps : List Str} {j k : Nat} {sp : Sp} (C : Cl P w K mg base j x ps sp) (h : j ≤ k) : Cl P w K mg base k x ps sp := by
  obtain ⟨f, fd, h1, h2, h3, h4⟩ := C.ex
  exact ⟨f, fd, h1, h2, h3, h4.mono h⟩
end

section
variable {X : Cx} {x : Str} {p pos : Pos} {e a b : Expr} {es : List Expr} {t : TA} {ta tb : TE} {k : Nat} {ps : List Str} {sp : Sp}
theorem pe_cl (C : Cl X.prog X.w X.K X.mg X.base k x ps sp) (hr : Room k X.A) (ha : PA X (e :: es) t) (hg : Gl X x := by rfl) (hdb : (x == ("__debug__" : Str)) = false := by decide)
    (he : starEach (e :: es) X.env = (false, eval e X.env) :: starEach es X.env := by rfl) (hpl : (backTo pos (starEach es X.env)).any (·.1) = false := by rfl) :
    PE X (.Call (.Name x p) (e :: es) [] pos) (tCall sp [] E0 t) := by
  obtain ⟨f, fd, h1, h2, h3, h4⟩ := C.ex
  exact pe_call h4 hr hg h1 h2 (Binds.all h3) .nil pass0 ha hdb he hpl
theorem pe_cl0 (C : Cl X.prog X.w X.K X.mg X.base k x ps sp) (hr : Room k X.A) (hg : Gl X x := by rfl) (hdb : (x == ("__debug__" : Str)) = false := by decide) :
    PE X (.Call (.Name x p) [] [] pos) (tCall sp [] E0 tNil) := by
  obtain ⟨f, fd, h1, h2, h3, h4⟩ := C.ex
  exact pe_call0 h4 hr hg h1 h2 (Binds.all h3) .nil pass0 hdb
end


/-! ### keyword-only parameters -/
section
variable {P : Program} {w : World} {K : PySem.W.Frag} {mg : Str → Option Value} {base : Heap}
structure DfK (K : PySem.W.Frag) (mg : Str → Option Value) (x : Str) (st : Stmt) (kws : List (Str × V)) : Prop where
  ex : ∃ (f : Addr) (fd : FuncData), mg x = some (.ref f) ∧ FunD K x x (defArgs st) (defBody st) (defScope st) [] kws f fd
structure ClK (P : Program) (w : World) (K : PySem.W.Frag) (mg : Str → Option Value) (base : Heap) (k : Nat) (x : Str) (st : Stmt) (ps : List Str) (kws : List (Str × V)) (sp : Sp) : Prop where
  ex : ∃ (f : Addr) (fd : FuncData), mg x = some (.ref f) ∧ FunD K x x (defArgs st) (defBody st) (defScope st) [] kws f fd ∧ FnOk P w K mg base CX0 k f fd ps sp
theorem dfk_mk {h : Heap} {x : Str} {st : Stmt} {f D : Addr} {oc : Value} {od an : Option Addr} {osl : Array (Option Value)} {doc pm cdv ct : Value} {kws : List (Str × V)} (X : K.In h) (G : h.Ns mainGlobals mg)
    (a : PySem.W.nsIn K mainGlobals x = some (some (.ref f))) (l : K.lookup f = some ⟨oc, od, .func (PySem.W.fnOf x x (defArgs st) (defBody st) (defScope st) .none (.ref D) doc pm an cdv ct), osl⟩)
    (c : PySem.W.codeIn K cdv x = true) (k : PySem.W.keepIn K (.ref f) = true) (d : ∀ q ∈ kws, ∃ u, PySem.W.nsIn K D q.1 = some (some u) ∧ RelV q.2 u) : DfK K mg x st kws :=
  ⟨f, _, PySem.W.mg_of X G a, ⟨⟨oc, od, .none, .ref D, doc, pm, an, cdv, ct, osl, rfl, l, c, .inl ⟨rfl, rfl⟩, .inr ⟨D, rfl, d⟩⟩, k⟩⟩
theorem DfK.ok {x : Str} {st : Stmt} {N ps : List Str} {kws : List (Str × V)} {k : Nat} {sp : Sp} (D : DfK K mg x st kws) (S : FnScope N ps (defScope st)) (len : ∀ vs H Q E, sp vs H Q E → vs.length = ps.length)
    (hbody : ∀ (f : Addr) (cdv : Value) (A : Around) (outer : List Env) (s : Shared) (H : Hp) (vs : List V) (Q : VK) (E : XK), Room k (A.deeper (envOfC x (defScope st) s.heap.objs.size f cdv)) → sp vs H Q E →
      ∃ t, PSs (cxOf CX0 P w K mg base N x (defScope st) f cdv A outer s H E).nox (defBody st) t ∧ t { nx := fun _ H' => Q .non H', rt := Q } (start N vs) H) : ClK P w K mg base (k + 1) x st ps kws sp := by
  obtain ⟨f, fd, h1, h2⟩ := D.ex
  exact ⟨f, fd, h1, h2, h2.ok S len fun cdv A outer s H vs Q E hr h => by
    obtain ⟨t, a, b⟩ := hbody f cdv A outer s H vs Q E hr h
    exact ⟨t, a.nox, b⟩⟩
end
section
variable {X : Cx} {x : Str} {p pos : Pos} {e : Expr} {es : List Expr} {kw : List Keyword} {t tk : TA} {k : Nat} {ps : List Str} {sp : Sp} {st : Stmt} {kws : List (Str × V)}
theorem pe_clk0 (C : ClK X.prog X.w X.K X.mg X.base k x st ps kws sp) (hr : Room k X.A) (n : Nat) (hk : kws ≠ []) (hn : n + kws.length = ps.length)
    (h : ∀ (D : Addr) (doc pm : Value) (an : Option Addr) (cdv ct : Value) (us ks : List Value), us.length = n → ks.length = kws.length →
      KwChain D ((kws.map (·.1)).zip ks) (bindArgs (PySem.W.fnOf x x (defArgs st) (defBody st) (defScope st) .none (.ref D) doc pm an cdv ct) ⟨us, []⟩) (ps.zip (us ++ ks)))
    (ha : PA X (e :: es) t) (hg : Gl X x := by rfl) (hdb : (x == ("__debug__" : Str)) = false := by decide)
    (he : starEach (e :: es) X.env = (false, eval e X.env) :: starEach es X.env := by rfl) (hpl : (backTo pos (starEach es X.env)).any (·.1) = false := by rfl) :
    PE X (.Call (.Name x p) (e :: es) [] pos) (tCall sp (kws.map (·.2)) E0 t) := by
  obtain ⟨f, fd, h1, h2, h4⟩ := C.ex
  obtain ⟨ds, r, b⟩ := h2.binds0 n hk hn h
  exact pe_call h4 hr hg h1 h2.kp b r pass0 ha hdb he hpl
theorem pe_clk (C : ClK X.prog X.w X.K X.mg X.base k x st ps kws sp) (hr : Room k X.A) (n : Nat) (ks : List Str) (ms : List (Str × V)) (g : {α : Type} → List α → List α → List α → List α) (hk : kws ≠ []) (hms : ∀ q ∈ ms, q ∈ kws)
    (hrel : ∀ {vs mz zs : List V} {us mv ws : List Value}, Vals vs us → Vals mz mv → Vals zs ws → Vals (g vs mz zs) (g us mv ws))
    (h : ∀ (D : Addr) (doc pm : Value) (an : Option Addr) (cdv ct : Value) (us mv ws : List Value), us.length = n → mv.length = ms.length → ws.length = ks.length →
      KwChain D ((ms.map (·.1)).zip mv) (bindArgs (PySem.W.fnOf x x (defArgs st) (defBody st) (defScope st) .none (.ref D) doc pm an cdv ct) ⟨us, ks.zip ws⟩) (ps.zip (g us mv ws)))
    (ha : PA X (e :: es) t) (hkw : PK X kw tk) (hg : Gl X x := by rfl) (hall : (backToKw pos (keywordEach kw X.env)).all (·.1.isSome) = true := by rfl) (hks : (backToKw pos (keywordEach kw X.env)).filterMap (·.1) = ks := by rfl)
    (hdb : (x == ("__debug__" : Str)) = false := by decide) (he : starEach (e :: es) X.env = (false, eval e X.env) :: starEach es X.env := by rfl)
    (hpl : ((backTo pos (starEach (e :: es) X.env)).any (·.1) || (backToKw pos (keywordEach kw X.env)).any (·.1.isNone)) = false := by rfl) :
    PE X (.Call (.Name x p) (e :: es) kw pos) (tCallN n ks.length sp (fun vs zs => g vs (ms.map (·.2)) zs) E0 t tk) := by
  obtain ⟨f, fd, h1, h2, h4⟩ := C.ex
  obtain ⟨mv, b⟩ := h2.kbinds0 n ks ms g hk hms hrel h
  exact pe_callN h4 hr hg h1 h2.kp b pass0 ha hkw hall hks hdb he hpl
end

/-! ### operators by the kinds of the values -/
section
variable {X : Cx}
def rRepS : R2 := fun x y H Q => ∃ (z : Str) (n : Int), x = .str z ∧ y = .int n ∧ (n < 2 ^ 40 ∧ -(2 ^ 40) ≤ n ∧ z.length * n.toNat ≤ 100000) ∧ Q (.str (repS z n.toNat)) H
theorem op_repS : OpR X (binaryOp .Mult) rRepS := by
  intro pins s σ H x y v u Q I rx ry h
  obtain ⟨z, n, rfl, rfl, ⟨h1, h2, h3⟩, q⟩ := h
  obtain ⟨t, rfl⟩ := rx
  obtain ⟨t', rfl⟩ := ry
  have hs : sizeLine = 16777216 := sizeLine_eq
  have hz : Builtin.Str.tooLong (z.length * n.toNat) = false := by
    unfold Builtin.Str.tooLong
    exact decide_eq_false (by omega)
  refine PySem.P.mul_str ?_ (fun h4 h5 => ?_) (fun _ _ => hz) ?_
  · rw [decide_eq_false (by omega), decide_eq_false (by omega)]; rfl
  · intro h6
    have h7 : 0 < n := by omega
    have h8 : ((z.length : Int)) * n ≤ 100000 := by
      have : ((z.length * n.toNat : Nat) : Int) ≤ 100000 := by omega
      rw [Int.natCast_mul, Int.toNat_of_nonneg (by omega)] at this
      exact this
    have h9 : ((2 ^ 63 - 1 : Int) / n + 1) ≤ (z.length : Int) := by omega
    have ha : ((2 ^ 63 - 1 : Int) / n + 1) * n ≤ (z.length : Int) * n := Int.mul_le_mul_of_nonneg_right h9 (by omega)
    have hb : (2 ^ 63 - 1 : Int) < ((2 ^ 63 - 1 : Int) / n + 1) * n := Int.lt_ediv_add_one_mul_self _ h7
    omega
  · by_cases h4 : n < 1
    · rw [if_pos h4]
      refine ⟨by decide, .str Str.empty, H, I.tok _, ⟨_, rfl⟩, ?_⟩
      have e : n.toNat = 0 := by omega
      rw [e, repS_zero] at q
      exact q
    · rw [if_neg h4]
      by_cases h5 : (n == 1 || z.length == 0) = true
      · rw [if_pos h5]
        refine ⟨.str z, H, I, ⟨_, rfl⟩, ?_⟩
        have e : repS z n.toNat = z := by
          rw [Bool.or_eq_true] at h5
          rcases h5 with h5 | h5
          · have e : n.toNat = 1 := by
              have := beq_iff_eq.mp h5
              omega
            rw [e, repS_one]
          · exact repS_nil _ _ (beq_iff_eq.mp h5)
        rw [e] at q
        exact q
      · rw [if_neg h5, repS_fold]
        refine ⟨by rw [repS_length]; omega, .str _, H, I.tok _, ⟨_, rfl⟩, q⟩
end
def rAdd (K : PySem.W.Frag) : R2 := fun x y H Q => rI0 (fun i j => .int (i + j)) x y H Q ∨ (∃ i j, x = .str i ∧ y = .str j ∧ i.length + j.length ≤ sizeLine ∧ Q (.str (i ++ j)) H) ∨ rCat x y H Q ∨ rCatA K x y H Q
def rMul (K : PySem.W.Frag) : R2 := fun x y H Q => rI CMul (fun i j => .int (i * j)) x y H Q ∨ rI CMulX (fun i j => .int (i * j)) x y H Q ∨ rRepS x y H Q ∨ rRep x y H Q
def rSub : R2 := rI0 fun i j => .int (i - j)
def rMod : R2 := rI (fun _ j => 0 < j) fun i j => .int (i % j)
def rDiv : R2 := rI CDivW fun i j => .int (i / j)
def rPow : R2 := rI CPow fun i j => .int (i ^ j.toNat)
def rEqX (K : PySem.W.Frag) : R2 := fun x y H Q => rEq x y H Q ∨ rEqD K x y H Q
def rNeX (K : PySem.W.Frag) : R2 := fun x y H Q => rNe x y H Q ∨ rNeD K x y H Q
def rLt : R2 := rI0 fun i j => .bl (decide (i < j))
def rLe : R2 := rI0 fun i j => .bl (decide (i ≤ j))
def rGt : R2 := rI0 fun i j => .bl (decide (j < i))
def rGe : R2 := rI0 fun i j => .bl (decide (j ≤ i))
def rIsN : R2 := fun x y H Q => y = .non ∧ Q (.bl (decide (x = .non))) H
def rNotN : R2 := fun x y H Q => y = .non ∧ Q (.bl (!decide (x = .non))) H
section
variable {X : Cx}
theorem opAdd : OpR X (binaryOp .Add) (rAdd X.K) := op_add.or (op_add_str.or (op_cat.or op_catA))
theorem opMul : OpR X (binaryOp .Mult) (rMul X.K) := op_mul.or (op_mulX.or (op_repS.or op_rep))
theorem opSub : OpR X (binaryOp .Sub) rSub := op_sub
theorem opMod : OpR X (binaryOp .Mod) rMod := op_mod
theorem opDiv : OpR X (binaryOp .FloorDiv) rDiv := op_fdivW
theorem opPow : OpR X (binaryOp .Pow) rPow := op_pow
theorem opEq (hu : X.A.units + 64 < cLine) : OpR X (compareOp .Eq) (rEqX X.K) := op_eq.or (op_eqD hu)
theorem opNe (hu : X.A.units + 64 < cLine) : OpR X (compareOp .NotEq) (rNeX X.K) := op_ne.or (op_neD hu)
theorem opLt : OpR X (compareOp .Lt) rLt := op_lt
theorem opLe : OpR X (compareOp .LtE) rLe := op_le
theorem opGt : OpR X (compareOp .Gt) rGt := op_gt
theorem opGe : OpR X (compareOp .GtE) rGe := op_ge
theorem opIsN : OpR X (compareOp .Is) rIsN := op_isN
theorem opNotN : OpR X (compareOp .IsNot) rNotN := op_notN
def rInt : List V → Hp → VK → Prop := fun xs H Q => (∃ i, xs = [.int i] ∧ Q (.int i) H) ∨ ∃ k, xs = [.bl k] ∧ Q (.int (if k then 1 else 0)) H
def rAbs : List V → Hp → VK → Prop := fun xs H Q => ∃ i, xs = [.int i] ∧ Q (.int (if i < 0 then -i else i)) H
def rMax2 : List V → Hp → VK → Prop := fun xs H Q => ∃ i j, xs = [.int i, .int j] ∧ Q (.int (if j > i then j else i)) H
def rMin2 : List V → Hp → VK → Prop := fun xs H Q => ∃ i j, xs = [.int i, .int j] ∧ Q (.int (if j < i then j else i)) H
def rLen (K : PySem.W.Frag) : List V → Hp → VK → Prop := fun xs H Q => ∃ x n, xs = [x] ∧ LenV K x H n ∧ Q (.int n) H
def rListOf (K : PySem.W.Frag) : List V → Hp → VK → Prop := fun xs H Q => ∃ p ys, xs = [.ref p] ∧ (SqL K H p ys ∨ SqT K H p ys) ∧ ∀ l, H l = none → Q (.ref l) (upd H l (.lst ys))
def rStr : List V → Hp → VK → Prop := fun xs H Q => ∃ i, xs = [.int i] ∧ i.natAbs.log2 < 1920 ∧ Q (.str (toString i)) H
theorem callStr : CallR X (.type "str") rStr := call_str_int
theorem callInt : CallR X (.type "int") rInt := call_int1
theorem callAbs : CallR X (.builtin "abs") rAbs := call_abs
theorem callMax2 (hc : X.calm = true) : CallR X (.builtin "max") rMax2 := call_max2 hc
theorem callMin2 (hc : X.calm = true) : CallR X (.builtin "min") rMin2 := call_min2 hc
theorem callLen : CallR X (.builtin "len") (rLen X.K) := call_len
theorem callListOf : CallR X (.type "list") (rListOf X.K) := call_list_of
def rSlX (K : PySem.W.Frag) : V → Option Int → Option Int → Hp → VK → Prop := fun x lo hi H Q => rSlL K x lo hi H Q ∨ rSlS x lo hi H Q ∨ rSlA K x lo hi H Q
theorem slAny : SlR X (rSlX X.K) := sl_list.or (sl_str.or sl_tupA)
theorem hu64 {A : Around} {k : Nat} (hr : Room k A) : A.units + 64 < cLine := by
  have := hr.un
  omega
end

/-- the built-in names are not the module's own -/
structure Bl (mg : Str → Option Value) : Prop where
  abs : mg "abs" = none
  all : mg "all" = none
  any : mg "any" = none
  bool : mg "bool" = none
  dict : mg "dict" = none
  divmod : mg "divmod" = none
  enumerate : mg "enumerate" = none
  int : mg "int" = none
  isinstance : mg "isinstance" = none
  len : mg "len" = none
  list : mg "list" = none
  max : mg "max" = none
  min : mg "min" = none
  range : mg "range" = none
  repr : mg "repr" = none
  reversed : mg "reversed" = none
  sorted : mg "sorted" = none
  str : mg "str" = none
  sum : mg "sum" = none
  tuple : mg "tuple" = none
  zip : mg "zip" = none
  ValueError' : mg "ValueError" = none

/-! ### heaps -/
/-- what stood stands, but for what is in bs -/
class Chg (bs : outParam (List Addr)) (H : outParam Hp) (H' : Hp) : Prop where
  keep : ∀ a o, a ∉ bs → H a = some o → H' a = some o
  live : ∀ a, H' a = none → H a = none
abbrev Ex (H : Hp) (H' : Hp) : Prop := Chg [] H H'
abbrev ExB (b : Addr) (H : Hp) (H' : Hp) : Prop := Chg [b] H H'
class Nw (H : outParam Hp) (p : Addr) : Prop where
  eq : H p = none
class At (H : Hp) (p : Addr) (o : outParam HO) : Prop where
  eq : H p = some o
class Live (H : Hp) (p : Addr) : Prop where
  ex : ∃ o, H p = some o
class NeC (p q : Addr) : Prop where
  ne : p ≠ q
class NotIn (p : Addr) (bs : List Addr) : Prop where
  out : p ∉ bs
class Anc (H H' : Hp) : Prop where
  none : ∀ a, H' a = none → H a = none
class Nu (H : Hp) (p : Addr) : Prop where
  eq : H p = none
class InNew (c : Addr) (bs : List Addr) (H : Hp) : Prop where
  or : c ∈ bs ∨ H c = none
class SubC (cs bs : List Addr) (H : Hp) : Prop where
  sub : ∀ c ∈ cs, c ∈ bs ∨ H c = none
class RelC (bs : List Addr) (H H' : Hp) : Prop where
  keep : ∀ a o, a ∉ bs → H a = some o → H' a = some o
class SqC (K : PySem.W.Frag) (H : Hp) (p : Addr) (xs : outParam (List V)) : Prop where
  sq : SqL K H p xs
class StC (K : PySem.W.Frag) (H : Hp) (p : Addr) (xs : outParam (List V)) : Prop where
  st : SqT K H p xs
section
variable {H H' H1 H0 : Hp} {p q b c : Addr} {o : HO} {bs cs : List Addr} {K : PySem.W.Frag} {xs : List V}
instance : NotIn p [] := ⟨by simp⟩
instance [h : NeC p b] [k : NotIn p bs] : NotIn p (b :: bs) := ⟨by
  intro e
  rcases List.mem_cons.mp e with e | e
  · exact h.ne e
  · exact k.out e⟩
instance (priority := low) atStep [r : Chg cs H1 H] [n : NotIn p cs] [h : At H1 p o] : At H p o := ⟨r.keep p o n.out h.eq⟩
instance ancRefl : Anc H H := ⟨fun _ h => h⟩
instance (priority := low) ancStep [r : Chg cs H1 H'] [k : Anc H H1] : Anc H H' := ⟨fun a h => k.none a (r.live a h)⟩
instance nuOf [n : Nw H1 p] [k : Anc H H1] : Nu H p := ⟨k.none p n.eq⟩
instance liveAt [h : At H p o] : Live H p := ⟨⟨o, h.eq⟩⟩
instance (priority := low) liveStep [r : Chg cs H1 H] [h : Live H1 p] : Live H p := ⟨by
  cases e : H p with
  | none => obtain ⟨o, h⟩ := h.ex; rw [r.live p e] at h; cases h
  | some o => exact ⟨o, rfl⟩⟩
instance neNew [n : Nw H q] [h : Live H p] : NeC p q := ⟨by
  obtain ⟨o, h⟩ := h.ex
  intro e
  rw [e, n.eq] at h
  cases h⟩
instance neNew' [n : Nw H q] [h : Live H p] : NeC q p := ⟨(neNew (H := H)).ne.symm⟩
instance inHere : InNew c (c :: bs) H := ⟨.inl (List.mem_cons_self ..)⟩
instance (priority := low) inThere [h : InNew c bs H] : InNew c (b :: bs) H := ⟨h.or.imp (List.mem_cons_of_mem _) _root_.id⟩
instance inNew [h : Nu H c] : InNew c bs H := ⟨.inr h.eq⟩
instance : SubC [] bs H := ⟨by simp⟩
instance [h : InNew c bs H] [k : SubC cs bs H] : SubC (c :: cs) bs H := ⟨by
  intro d hd
  rcases List.mem_cons.mp hd with e | e
  · rw [e]; exact h.or
  · exact k.sub d e⟩
instance relRefl : RelC bs H H := ⟨fun _ _ _ h => h⟩
instance (priority := low) relStep [r : Chg cs H1 H'] [s : SubC cs bs H] [k : RelC bs H H1] : RelC bs H H' := ⟨fun a o n h => r.keep a o (fun hc => by
  rcases s.sub a hc with e | e
  · exact n e
  · rw [e] at h; cases h) (k.keep a o n h)⟩
theorem rel [r : RelC bs H H'] [k : Anc H H'] : Chg bs H H' := ⟨r.keep, k.none⟩
theorem new [h : Nu H p] : Nw H p := ⟨h.eq⟩
theorem at_ [h : At H p o] : At H p o := h
theorem ne_ [h : NeC p q] : p ≠ q := h.ne
instance sqAt [h : At H p (.lst xs)] : SqC K H p xs := ⟨.inl (.inl h.eq)⟩
instance stAt [h : At H p (.tup xs)] : StC K H p xs := ⟨.inl (.inl h.eq)⟩
theorem Chg.rd {a : Addr} {u : HO} (e : Chg bs H H') (n : a ∉ bs) (h : Rd H a u) : Rd H' a u := by
  rcases h with h | ⟨o, h⟩
  · exact .inl (e.keep a _ n h)
  · exact .inr ⟨o, e.keep a _ n h⟩
theorem Chg.l {a : Addr} (e : Chg bs H H') (n : a ∉ bs) (h : SqL K H a xs) : SqL K H' a xs := by
  rcases h with h | h
  · exact .inl (e.rd n h)
  · exact .inr h
theorem Chg.t {a : Addr} (e : Chg bs H H') (n : a ∉ bs) (h : SqT K H a xs) : SqT K H' a xs := by
  rcases h with h | h
  · exact .inl (e.rd n h)
  · exact .inr h
instance (priority := low) sqStep [r : Chg cs H1 H] [n : NotIn p cs] [h : SqC K H1 p xs] : SqC K H p xs := ⟨r.l n.out h.sq⟩
instance (priority := low) stStep [r : Chg cs H1 H] [n : NotIn p cs] [h : StC K H1 p xs] : StC K H p xs := ⟨r.t n.out h.st⟩
theorem Chg.refl (bs : List Addr) (H : Hp) : Chg bs H H := ⟨fun _ _ _ h => h, fun _ h => h⟩
theorem Ex.refl (H : Hp) : Ex H H := Chg.refl _ H
theorem ExB.refl (b : Addr) (H : Hp) : ExB b H H := Chg.refl _ H
theorem Chg.trans {H1 H2 : Hp} (a : Chg bs H H1) (c : Chg bs H1 H2) : Chg bs H H2 := ⟨fun x o n h => c.keep x o n (a.keep x o n h), fun x h => a.live x (c.live x h)⟩
theorem Ex.l {a : Addr} (e : Ex H H') (h : SqL K H a xs) : SqL K H' a xs := Chg.l e (by simp) h
theorem Ex.t {a : Addr} (e : Ex H H') (h : SqT K H a xs) : SqT K H' a xs := Chg.t e (by simp) h
theorem ExB.l {a b : Addr} (e : ExB b H H') (n : a ≠ b) (h : SqL K H a xs) : SqL K H' a xs := Chg.l e (by simpa using n) h
theorem Ex.mk (h : H p = none) : Ex H (upd H p o) := ⟨fun a u _ e => by
  rw [upd_ne (ne_of_none e h)]
  exact e, fun a e => by
  by_cases z : a = p
  · rw [z]; exact h
  · rw [upd_ne z] at e; exact e⟩
theorem ExB.upd : ExB b H (upd H b o) := ⟨fun a u n e => by
  rw [upd_ne (by simpa using n)]
  exact e, fun a e => by
  by_cases z : a = b
  · rw [z, upd_same] at e; cases e
  · rw [upd_ne z] at e; exact e⟩
end

/-! ### steps of a reading -/
section
variable {K : PySem.W.Frag} {σ : L2.St} {H H1 H2 : Hp} {Q : VK} {QB : Bool → Hp → Prop} {QL : List V → Hp → Prop} {v x y : V} {i j : Nat} {te ta tb : TE} {tt tu : TT} {tl tr : TA} {r : R2} {D : Ends} {t u : TS} {b c : Bool} {sp : Sp} {dvs : List V} {E : XK}
theorem g_var (h : σ[i]? = some (some v)) (q : Q v H) : tVar i σ H Q := ⟨v, h, q⟩
theorem g_c (q : Q v H) : tC v σ H Q := q
theorem g_op (q : ta σ H fun x H1 => tb σ H1 fun y H2 => r x y H2 Q) : tOp r ta tb σ H Q := q
theorem g_un {r : V → Hp → VK → Prop} (q : ta σ H fun x H1 => r x H1 Q) : tUn r ta σ H Q := q
theorem g_test (q : te σ H fun x H' => ∃ k, x = .bl k ∧ QB k H') : tTest te σ H QB := q
theorem g_tB (q : te σ H fun x H' => ∃ k, x = .bl k ∧ QB k H') : tB te σ H QB := q
theorem g_not (q : tt σ H fun c H1 => QB (!c) H1) : tNot tt σ H QB := q
theorem g_and (q : tt σ H fun c H1 => if c = true then tu σ H1 QB else QB false H1) : tAnd tt tu σ H QB := q
theorem g_or (q : tt σ H fun c H1 => if c = true then QB true H1 else tu σ H1 QB) : tOr tt tu σ H QB := q
theorem g_notV (q : te σ H fun x H1 => ∃ c, x = .bl c ∧ Q (.bl (!c)) H1) : tNotV te σ H Q := q
theorem g_andV (q : ta σ H fun x H1 => ∃ c, x = .bl c ∧ if c = true then tb σ H1 Q else Q (.bl false) H1) : tAndV ta tb σ H Q := q
theorem g_orV (q : ta σ H fun x H1 => ∃ c, x = .bl c ∧ if c = true then Q (.bl true) H1 else tb σ H1 Q) : tOrV ta tb σ H Q := q
theorem g_if (q : tt σ H fun c H1 => if c = true then ta σ H1 Q else tb σ H1 Q) : tIf tt ta tb σ H Q := q
theorem g_ifs (q : tt σ H fun c H1 => if c = true then t D σ H1 else u D σ H1) : tIfS tt t u D σ H := q
theorem g_ex {R : Bool → Prop} (q : R b) : ∃ k, V.bl b = .bl k ∧ R k := ⟨b, rfl, q⟩
theorem g_seq (q : t { D with nx := u D } σ H) : tSeq t u D σ H := q
theorem g_seqM {a : L2.St → Hp → Prop} {rt : VK} {bk ct : L2.St → Hp → Prop} (q : t (Ends.mk (u (Ends.mk a rt bk ct)) rt bk ct) σ H) : tSeq t u (Ends.mk a rt bk ct) σ H := q
theorem g_asg (q : te σ H fun x H1 => D.nx (σ.set i (some x)) H1) : tAsg te (gName i) D σ H := q
theorem g_asgG {g : TG} (q : te σ H fun x H1 => g x σ H1 D.nx) : tAsg te g D σ H := q
theorem g_ret (q : te σ H D.rt) : tRet te D σ H := q
theorem g_drop (q : te σ H fun _ H1 => D.nx σ H1) : tDrop te D σ H := q
theorem g_next (q : D.nx σ H) : tNext D σ H := q
theorem g_nx {a : L2.St → Hp → Prop} {rt : VK} {bk ct : L2.St → Hp → Prop} (q : a σ H) : (Ends.mk a rt bk ct).nx σ H := q
theorem g_rt {a : L2.St → Hp → Prop} {rt : VK} {bk ct : L2.St → Hp → Prop} (q : rt v H) : (Ends.mk a rt bk ct).rt v H := q
theorem g_call (q : tl σ H fun vs H1 => sp (vs ++ dvs) H1 Q E) : tCall sp dvs E tl σ H Q := q
theorem g_cons (q : te σ H fun x H1 => tl σ H1 fun xs H2 => QL (x :: xs) H2) : tCons te tl σ H QL := q
theorem g_nil (q : QL [] H) : tNil σ H QL := q
theorem g_cb {r : List V → Hp → VK → Prop} (q : tl σ H fun vs H1 => r vs H1 Q) : tCB r tl σ H Q := q
theorem g_lst (q : tl σ H fun xs H1 => xs.length ≤ sizeLine ∧ ∀ p, H1 p = none → Q (.ref p) (upd H1 p (.lst xs))) : tLst tl σ H Q := q
theorem g_tup (q : tl σ H fun xs H1 => xs.length ≤ sizeLine ∧ ∀ p, H1 p = none → Q (.ref p) (upd H1 p (.tup xs))) : tTup tl σ H Q := q
theorem g_sz {n : Nat} {R : Prop} (h : n ≤ 100000) (q : R) : n ≤ sizeLine ∧ R := ⟨Nat.le_trans h (by decide), q⟩
theorem g_len {y : V} {n : Nat} (h : LenV K y H n) (q : Q (.int n) H) : rLen K [y] H Q := ⟨y, n, rfl, h, q⟩
theorem len_l {p : Addr} {xs : List V} [h : SqC K H p xs] : LenV K (.ref p) H xs.length := .inl ⟨xs, h.sq, rfl⟩
theorem len_t {p : Addr} {xs : List V} [h : StC K H p xs] : LenV K (.ref p) H xs.length := .inr ⟨xs, h.st, rfl⟩
theorem len_s {z : Str} (h : z.length ≤ 100000) : LenV K (.str z) H z.length := ⟨Nat.le_trans h (by decide), rfl⟩
theorem g_int {i : Int} (q : Q (.int i) H) : rInt [V.int i] H Q := .inl ⟨i, rfl, q⟩
theorem g_intB {k : Bool} (q : Q (.int (if k then 1 else 0)) H) : rInt [V.bl k] H Q := .inr ⟨k, rfl, q⟩
theorem g_abs {i : Int} (q : Q (.int (if i < 0 then -i else i)) H) : rAbs [V.int i] H Q := ⟨i, rfl, q⟩
theorem g_max2 {i j : Int} (q : Q (.int (if j > i then j else i)) H) : rMax2 [V.int i, .int j] H Q := ⟨i, j, rfl, q⟩
theorem g_min2 {i j : Int} (q : Q (.int (if j < i then j else i)) H) : rMin2 [V.int i, .int j] H Q := ⟨i, j, rfl, q⟩
theorem g_ixL {p : Addr} {xs : List V} {i : Int} [h : SqC K H p xs] (a : atI xs i = some v) (q : Q v H) : rIx K (.ref p) (.int i) H Q := .inl ⟨p, xs, i, v, rfl, rfl, h.sq, a, q⟩
theorem g_ixT {p : Addr} {xs : List V} {i : Int} [h : StC K H p xs] (a : atI xs i = some v) (q : Q v H) : rIx K (.ref p) (.int i) H Q := .inr (.inl ⟨p, xs, i, v, rfl, rfl, h.st, a, q⟩)
theorem g_ixI {p : Addr} {ns : List Int} {i : Int} [h : SqC K H p (ns.map V.int)] (h0 : 0 ≤ i) (h1 : i < (ns.length : Int)) (q : Q (.int (ns.getD i.toNat 0)) H) : rIx K (.ref p) (.int i) H Q := by
  refine g_ixL ?_ q
  obtain ⟨j, rfl⟩ : ∃ j : Nat, i = (j : Int) := ⟨i.toNat, by omega⟩
  refine atI_nat ?_
  have h2 : j < ns.length := by omega
  rw [List.getElem?_map, List.getElem?_eq_getElem h2, Option.map_some, Int.toNat_natCast, List.getD_eq_getElem?_getD, List.getElem?_eq_getElem h2, Option.getD_some]
theorem g_ixS {z : Str} {i : Int} {c : Nat} (h : z.length ≤ 100000) (a : atI z.cps.toList i = some c) (q : Q (.str ⟨#[c]⟩) H) : rIx K (.str z) (.int i) H Q := .inr (.inr ⟨z, i, c, rfl, rfl, Nat.le_trans h (by decide), a, q⟩)
theorem g_gsub {to ti : TE} {ts : TSet} {R : L2.St → Hp → Prop} (q : to σ H fun o H1 => ti σ H1 fun i H2 => ts o i v H2 fun H3 => R σ H3) : gSub to ti ts v σ H R := q
theorem g_set {p : Addr} {xs : List V} {k : Int} {j : Nat} {R : Hp → Prop} [h : At H p (.lst xs)] (hj : ixN xs.length k = some j) (q : ∀ H2, ExB p H H2 → At H2 p (.lst (xs.set j v)) → R H2) : rSetL (.ref p) (.int k) v H R :=
  ⟨p, xs, k, j, rfl, rfl, h.eq, hj, q _ ExB.upd ⟨upd_same⟩⟩
theorem g_sl {r : V → Option Int → Option Int → Hp → VK → Prop} {t1 t2 : TO} (q : te σ H fun x H1 => t1 σ H1 fun l H2 => t2 σ H2 fun u H3 => r x l u H3 Q) : tSl r te t1 t2 σ H Q := q
theorem g_noPart {R : Option Int → Hp → Prop} (q : R none H) : tNoPart σ H R := q
theorem g_part {R : Option Int → Hp → Prop} (q : te σ H fun x H1 => ∃ i, x = .int i ∧ R (some i) H1) : tPart te σ H R := q
theorem g_exI {i : Int} {R : Int → Prop} (q : R i) : ∃ k, V.int i = .int k ∧ R k := ⟨i, rfl, q⟩
theorem g_bm {T : String} {r : V → List V → Hp → VK → Prop} (q : te σ H fun x H1 => tyV K T x H1 ∧ tl σ H1 fun xs H2 => r x xs H2 Q) : tBM K T r te tl σ H Q := q
theorem g_bm0 {T : String} {r : V → List V → Hp → VK → Prop} (q : te σ H fun x H1 => tyV K T x H1 ∧ r x [] H1 Q) : tBM0 K T r te σ H Q := q
theorem g_tyL {p : Addr} {xs : List V} {R : Prop} [h : SqC K H p xs] (q : R) : tyV K "list" (.ref p) H ∧ R := ⟨.inl ⟨rfl, xs, h.sq⟩, q⟩
theorem g_tyS {z : Str} {R : Prop} (q : R) : tyV K "str" (.str z) H ∧ R := ⟨rfl, q⟩
theorem g_app {p : Addr} {xs : List V} [h : At H p (.lst xs)] (hz : xs.length < 100000) (q : ∀ H2, ExB p H H2 → At H2 p (.lst (xs ++ [v])) → Q .non H2) : rAppend (.ref p) [v] H Q :=
  ⟨p, xs, v, rfl, rfl, h.eq, Nat.lt_of_lt_of_le hz (by decide), q _ ExB.upd ⟨upd_same⟩⟩
theorem g_new {o : HO} {R : Addr → Hp → Prop} (q : ∀ p H2, Nw H p → Ex H H2 → At H2 p o → R p H2) : ∀ p, H p = none → R p (upd H p o) := fun p hp => q p _ ⟨hp⟩ (Ex.mk hp) ⟨upd_same⟩

theorem g_I0 {g : Int → Int → V} {i j : Int} (q : Q (g i j) H) : rI0 g (.int i) (.int j) H Q := ⟨i, j, rfl, rfl, q⟩
theorem g_add {i j : Int} (q : Q (.int (i + j)) H) : rAdd K (.int i) (.int j) H Q := .inl ⟨i, j, rfl, rfl, q⟩
theorem g_addS {a b : Str} (h : a.length + b.length ≤ 100000) (q : Q (.str (a ++ b)) H) : rAdd K (.str a) (.str b) H Q := .inr (.inl ⟨a, b, rfl, rfl, Nat.le_trans h (by decide), q⟩)
theorem g_mulL {i j : Int} (h : -(2 ^ 64) < i ∧ i < 2 ^ 64) (q : Q (.int (i * j)) H) : rMul K (.int i) (.int j) H Q := .inl ⟨i, j, rfl, rfl, .inl h, q⟩
theorem g_mulR {i j : Int} (h : -(2 ^ 64) < j ∧ j < 2 ^ 64) (q : Q (.int (i * j)) H) : rMul K (.int i) (.int j) H Q := .inl ⟨i, j, rfl, rfl, .inr h, q⟩
theorem g_mulX {i j : Int} (h : CMulX i j) (q : Q (.int (i * j)) H) : rMul K (.int i) (.int j) H Q := .inr (.inl ⟨i, j, rfl, rfl, h, q⟩)
theorem g_mulS {z : Str} {n : Int} (h : n < 2 ^ 40 ∧ -(2 ^ 40) ≤ n ∧ z.length * n.toNat ≤ 100000) (q : Q (.str (repS z n.toNat)) H) : rMul K (.str z) (.int n) H Q := .inr (.inr (.inl ⟨z, n, rfl, rfl, h, q⟩))
theorem g_sub {i j : Int} (q : Q (.int (i - j)) H) : rSub (.int i) (.int j) H Q := ⟨i, j, rfl, rfl, q⟩
theorem g_mod {i j : Int} (h : 0 < j) (q : Q (.int (i % j)) H) : rMod (.int i) (.int j) H Q := ⟨i, j, rfl, rfl, h, q⟩
theorem g_div {i j : Int} (h : CDivW i j) (q : Q (.int (i / j)) H) : rDiv (.int i) (.int j) H Q := ⟨i, j, rfl, rfl, h, q⟩
theorem cpow_ok {i j : Int} (h1 : 0 ≤ j) (h2 : j ≤ 1000000) (h3 : i.natAbs < 2 ^ 64) : CPow i j := ⟨h1, h2, h3⟩
theorem g_pow {i j k : Int} (h : CPow i j) (e : i ^ j.toNat = k) (q : Q (.int k) H) : rPow (.int i) (.int j) H Q := ⟨i, j, rfl, rfl, h, by show Q (.int (i ^ j.toNat)) H; rw [e]; exact q⟩
theorem g_lt {i j : Int} (q : Q (.bl (decide (i < j))) H) : rLt (.int i) (.int j) H Q := ⟨i, j, rfl, rfl, q⟩
theorem g_le {i j : Int} (q : Q (.bl (decide (i ≤ j))) H) : rLe (.int i) (.int j) H Q := ⟨i, j, rfl, rfl, q⟩
theorem g_gt {i j : Int} (q : Q (.bl (decide (j < i))) H) : rGt (.int i) (.int j) H Q := ⟨i, j, rfl, rfl, q⟩
theorem g_ge {i j : Int} (q : Q (.bl (decide (j ≤ i))) H) : rGe (.int i) (.int j) H Q := ⟨i, j, rfl, rfl, q⟩
theorem dI {i j : Int} : decide (V.int i = V.int j) = decide (i = j) := by
  by_cases h : i = j <;> simp [h]
theorem dB {i j : Bool} : decide (V.bl i = V.bl j) = (i == j) := dec_bl
theorem dS {i j : Str} : decide (V.str i = V.str j) = decide (i = j) := by
  by_cases h : i = j <;> simp [h]
theorem g_eq {i j : Int} (q : Q (.bl (decide (i = j))) H) : rEqX K (.int i) (.int j) H Q := .inl ⟨rfl, by rw [dI]; exact q⟩
theorem g_ne {i j : Int} (q : Q (.bl (!decide (i = j))) H) : rNeX K (.int i) (.int j) H Q := .inl ⟨rfl, by rw [dI]; exact q⟩
theorem g_eqB {i j : Bool} (q : Q (.bl (i == j)) H) : rEqX K (.bl i) (.bl j) H Q := .inl ⟨rfl, by rw [dB]; exact q⟩
theorem g_neB {i j : Bool} (q : Q (.bl (!(i == j))) H) : rNeX K (.bl i) (.bl j) H Q := .inl ⟨rfl, by rw [dB]; exact q⟩
theorem g_eqS {i j : Str} (q : Q (.bl (decide (i = j))) H) : rEqX K (.str i) (.str j) H Q := .inl ⟨rfl, by rw [dS]; exact q⟩
theorem g_neS {i j : Str} (q : Q (.bl (!decide (i = j))) H) : rNeX K (.str i) (.str j) H Q := .inl ⟨rfl, by rw [dS]; exact q⟩
theorem g_isN (q : Q (.bl (decide (x = .non))) H) : rIsN x .non H Q := ⟨rfl, q⟩
theorem g_notN (q : Q (.bl (!decide (x = .non))) H) : rNotN x .non H Q := ⟨rfl, q⟩

theorem g_ite {p : Prop} {_ : Decidable p} {A B : Prop} (h1 : p → A) (h2 : ¬ p → B) : if decide p = true then A else B := by
  by_cases h : p
  · rw [if_pos (decide_eq_true h)]; exact h1 h
  · rw [if_neg (by rw [decide_eq_false h]; exact Bool.false_ne_true)]; exact h2 h
theorem g_iteN {p : Prop} {_ : Decidable p} {A B : Prop} (h1 : ¬ p → A) (h2 : p → B) : if (!decide p) = true then A else B := by
  by_cases h : p
  · rw [if_neg (by rw [decide_eq_true h]; exact Bool.false_ne_true)]; exact h2 h
  · rw [if_pos (by rw [decide_eq_false h]; rfl)]; exact h1 h
theorem iteNT {A B : Prop} (h : A) : if (!false) = true then A else B := iteT h
theorem iteNF {A B : Prop} (h : B) : if (!true) = true then A else B := iteF h
theorem g_itB {A B : Prop} (h1 : b = true → A) (h2 : b = false → B) : if b = true then A else B := by
  cases b
  · rw [if_neg Bool.false_ne_true]; exact h2 rfl
  · rw [if_pos rfl]; exact h1 rfl
theorem g_itNB {A B : Prop} (h1 : b = false → A) (h2 : b = true → B) : if (!b) = true then A else B := by
  cases b
  · exact iteT (h1 rfl)
  · exact iteF (h2 rfl)
end


/-! ### steps found by their head -/
/-- G follows from G' -/
class Step (G : Prop) (G' : outParam Prop) : Prop where
  run : G' → G
class Look (σ : L2.St) (i : Nat) (v : outParam V) : Prop where
  at_ : σ[i]? = some (some v)
instance {v : V} {σ : L2.St} : Look (some v :: σ) 0 v := ⟨rfl⟩
instance {a : Option V} {σ : L2.St} {i : Nat} {v : V} [h : Look σ i v] : Look (a :: σ) (i + 1) v := ⟨by simpa using h.at_⟩
class SetL (σ : L2.St) (i : Nat) (x : Option V) (τ : outParam L2.St) : Prop where
  eq : σ.set i x = τ
instance {a x : Option V} {σ : L2.St} : SetL (a :: σ) 0 x (x :: σ) := ⟨rfl⟩
instance {a x : Option V} {σ τ : L2.St} {i : Nat} [h : SetL σ i x τ] : SetL (a :: σ) (i + 1) x (a :: τ) := ⟨by rw [← h.eq]; rfl⟩
section
variable {K : PySem.W.Frag} {σ τ : L2.St} {H H1 H2 : Hp} {Q : VK} {QB : Bool → Hp → Prop} {QL : List V → Hp → Prop} {v x y : V} {i j : Nat} {te ta tb : TE} {tt tu : TT} {tl tr : TA} {r : R2} {D : Ends} {t u : TS} {b c : Bool} {sp : Sp} {dvs : List V} {E : XK}
instance [h : Look σ i v] : Step (tVar i σ H Q) (Q v H) := ⟨g_var h.at_⟩
instance : Step (tC v σ H Q) (Q v H) := ⟨g_c⟩
instance : Step (tOp r ta tb σ H Q) (ta σ H fun x H1 => tb σ H1 fun y H2 => r x y H2 Q) := ⟨g_op⟩
instance {r : V → Hp → VK → Prop} : Step (tUn r ta σ H Q) (ta σ H fun x H1 => r x H1 Q) := ⟨g_un⟩
instance : Step (tTest te σ H QB) (te σ H fun x H' => ∃ k, x = .bl k ∧ QB k H') := ⟨g_test⟩
instance : Step (tB te σ H QB) (te σ H fun x H' => ∃ k, x = .bl k ∧ QB k H') := ⟨g_tB⟩
instance : Step (tNot tt σ H QB) (tt σ H fun c H1 => QB (!c) H1) := ⟨g_not⟩
instance : Step (tAnd tt tu σ H QB) (tt σ H fun c H1 => if c = true then tu σ H1 QB else QB false H1) := ⟨g_and⟩
instance : Step (tOr tt tu σ H QB) (tt σ H fun c H1 => if c = true then QB true H1 else tu σ H1 QB) := ⟨g_or⟩
instance : Step (tNotV te σ H Q) (te σ H fun x H1 => ∃ c, x = .bl c ∧ Q (.bl (!c)) H1) := ⟨g_notV⟩
instance : Step (tAndV ta tb σ H Q) (ta σ H fun x H1 => ∃ c, x = .bl c ∧ if c = true then tb σ H1 Q else Q (.bl false) H1) := ⟨g_andV⟩
instance : Step (tOrV ta tb σ H Q) (ta σ H fun x H1 => ∃ c, x = .bl c ∧ if c = true then Q (.bl true) H1 else tb σ H1 Q) := ⟨g_orV⟩
instance : Step (tIf tt ta tb σ H Q) (tt σ H fun c H1 => if c = true then ta σ H1 Q else tb σ H1 Q) := ⟨g_if⟩
instance : Step (tIfS tt t u D σ H) (tt σ H fun c H1 => if c = true then t D σ H1 else u D σ H1) := ⟨g_ifs⟩
instance {R : Bool → Prop} : Step (∃ k, V.bl b = .bl k ∧ R k) (R b) := ⟨g_ex⟩
instance {i : Int} {R : Int → Prop} : Step (∃ k, V.int i = .int k ∧ R k) (R i) := ⟨g_exI⟩
instance : Step (tSeq t u D σ H) (t { D with nx := u D } σ H) := ⟨g_seq⟩
instance (priority := high) {a : L2.St → Hp → Prop} {rt : VK} {bk ct : L2.St → Hp → Prop} : Step (tSeq t u (Ends.mk a rt bk ct) σ H) (t (Ends.mk (u (Ends.mk a rt bk ct)) rt bk ct) σ H) := ⟨g_seqM⟩
instance : Step (tAsg te (gName i) D σ H) (te σ H fun x H1 => gName i x σ H1 D.nx) := ⟨fun q => q⟩
instance {R : L2.St → Hp → Prop} [h : SetL σ i (some v) τ] : Step (gName i v σ H R) (R τ H) := ⟨fun q => by show R _ H; rw [h.eq]; exact q⟩
instance : Step (tRet te D σ H) (te σ H D.rt) := ⟨g_ret⟩
instance : Step (tRetN D σ H) (D.rt .non H) := ⟨fun q => q⟩
instance : Step (tDrop te D σ H) (te σ H fun _ H1 => D.nx σ H1) := ⟨g_drop⟩
instance : Step (tNext D σ H) (D.nx σ H) := ⟨g_next⟩
instance : Step (tBreak D σ H) (D.bk σ H) := ⟨fun q => q⟩
instance : Step (tCont D σ H) (D.ct σ H) := ⟨fun q => q⟩
instance {a : L2.St → Hp → Prop} {rt : VK} {bk ct : L2.St → Hp → Prop} : Step ((Ends.mk a rt bk ct).nx σ H) (a σ H) := ⟨g_nx⟩
instance {a : L2.St → Hp → Prop} {rt : VK} {bk ct : L2.St → Hp → Prop} : Step ((Ends.mk a rt bk ct).rt v H) (rt v H) := ⟨g_rt⟩
instance {a : L2.St → Hp → Prop} {rt : VK} {bk ct : L2.St → Hp → Prop} : Step ((Ends.mk a rt bk ct).bk σ H) (bk σ H) := ⟨fun q => q⟩
instance {a : L2.St → Hp → Prop} {rt : VK} {bk ct : L2.St → Hp → Prop} : Step ((Ends.mk a rt bk ct).ct σ H) (ct σ H) := ⟨fun q => q⟩
instance : Step (tCall sp dvs E tl σ H Q) (tl σ H fun vs H1 => sp (vs ++ dvs) H1 Q E) := ⟨g_call⟩
instance : Step (tCons te tl σ H QL) (te σ H fun x H1 => tl σ H1 fun xs H2 => QL (x :: xs) H2) := ⟨g_cons⟩
instance : Step (tNil σ H QL) (QL [] H) := ⟨g_nil⟩
instance {n m : Nat} {gV : List V → List V → List V} : Step (tCallN n m sp gV E tl tr σ H Q) (tl σ H fun vs H1 => tr σ H1 fun zs H2 => vs.length = n ∧ zs.length = m ∧ sp (gV vs zs) H2 Q E) := ⟨fun q => q⟩
instance {r : List V → Hp → VK → Prop} : Step (tCB r tl σ H Q) (tl σ H fun vs H1 => r vs H1 Q) := ⟨g_cb⟩
def rNewL (xs : List V) (H1 : Hp) (Q : VK) : Prop := xs.length ≤ sizeLine ∧ ∀ p, H1 p = none → Q (.ref p) (upd H1 p (.lst xs))
def rNewT (xs : List V) (H1 : Hp) (Q : VK) : Prop := xs.length ≤ sizeLine ∧ ∀ p, H1 p = none → Q (.ref p) (upd H1 p (.tup xs))
theorem g_newL {xs : List V} (hz : xs.length ≤ 100000) (q : ∀ p H2, Nw H p → Ex H H2 → At H2 p (.lst xs) → Q (.ref p) H2) : rNewL xs H Q := ⟨Nat.le_trans hz (by decide), fun p hp => q p _ ⟨hp⟩ (Ex.mk hp) ⟨upd_same⟩⟩
theorem g_newT {xs : List V} (hz : xs.length ≤ 100000) (q : ∀ p H2, Nw H p → Ex H H2 → At H2 p (.tup xs) → Q (.ref p) H2) : rNewT xs H Q := ⟨Nat.le_trans hz (by decide), fun p hp => q p _ ⟨hp⟩ (Ex.mk hp) ⟨upd_same⟩⟩
instance : Step (tLst tl σ H Q) (tl σ H fun xs H1 => rNewL xs H1 Q) := ⟨g_lst⟩
instance : Step (tTup tl σ H Q) (tl σ H fun xs H1 => rNewT xs H1 Q) := ⟨g_tup⟩
instance {i j : Int} : Step (rAdd K (.int i) (.int j) H Q) (Q (.int (i + j)) H) := ⟨g_add⟩
instance {i j : Int} : Step (rSub (.int i) (.int j) H Q) (Q (.int (i - j)) H) := ⟨g_sub⟩
instance {i j : Int} : Step (rLt (.int i) (.int j) H Q) (Q (.bl (decide (i < j))) H) := ⟨g_lt⟩
instance {i j : Int} : Step (rLe (.int i) (.int j) H Q) (Q (.bl (decide (i ≤ j))) H) := ⟨g_le⟩
instance {i j : Int} : Step (rGt (.int i) (.int j) H Q) (Q (.bl (decide (j < i))) H) := ⟨g_gt⟩
instance {i j : Int} : Step (rGe (.int i) (.int j) H Q) (Q (.bl (decide (j ≤ i))) H) := ⟨g_ge⟩
instance {i j : Int} : Step (rEqX K (.int i) (.int j) H Q) (Q (.bl (decide (i = j))) H) := ⟨g_eq⟩
instance {i j : Int} : Step (rNeX K (.int i) (.int j) H Q) (Q (.bl (!decide (i = j))) H) := ⟨g_ne⟩
instance {i j : Bool} : Step (rEqX K (.bl i) (.bl j) H Q) (Q (.bl (i == j)) H) := ⟨g_eqB⟩
instance {i j : Bool} : Step (rNeX K (.bl i) (.bl j) H Q) (Q (.bl (!(i == j))) H) := ⟨g_neB⟩
instance {i j : Str} : Step (rEqX K (.str i) (.str j) H Q) (Q (.bl (decide (i = j))) H) := ⟨g_eqS⟩
instance {i j : Str} : Step (rNeX K (.str i) (.str j) H Q) (Q (.bl (!decide (i = j))) H) := ⟨g_neS⟩
theorem g_isNn (q : Q (.bl true) H) : rIsN .non .non H Q := ⟨rfl, q⟩
theorem g_notNn (q : Q (.bl false) H) : rNotN .non .non H Q := ⟨rfl, q⟩
instance : Step (rIsN .non .non H Q) (Q (.bl true) H) := ⟨g_isNn⟩
instance : Step (rNotN .non .non H Q) (Q (.bl false) H) := ⟨g_notNn⟩
instance {i : Int} : Step (rIsN (.int i) .non H Q) (Q (.bl false) H) := ⟨fun q => ⟨rfl, q⟩⟩
instance {i : Int} : Step (rNotN (.int i) .non H Q) (Q (.bl true) H) := ⟨fun q => ⟨rfl, q⟩⟩
instance {p : Addr} : Step (rIsN (.ref p) .non H Q) (Q (.bl false) H) := ⟨fun q => ⟨rfl, q⟩⟩
instance {p : Addr} : Step (rNotN (.ref p) .non H Q) (Q (.bl true) H) := ⟨fun q => ⟨rfl, q⟩⟩
instance {z : Str} : Step (rIsN (.str z) .non H Q) (Q (.bl false) H) := ⟨fun q => ⟨rfl, q⟩⟩
instance {z : Str} : Step (rNotN (.str z) .non H Q) (Q (.bl true) H) := ⟨fun q => ⟨rfl, q⟩⟩
instance {i : Int} : Step (rInt [V.int i] H Q) (Q (.int i) H) := ⟨g_int⟩
instance {k : Bool} : Step (rInt [V.bl k] H Q) (Q (.int (if k then 1 else 0)) H) := ⟨g_intB⟩
instance {i : Int} : Step (rAbs [V.int i] H Q) (Q (.int (if i < 0 then -i else i)) H) := ⟨g_abs⟩
instance {i j : Int} : Step (rMax2 [V.int i, .int j] H Q) (Q (.int (if j > i then j else i)) H) := ⟨g_max2⟩
instance {i j : Int} : Step (rMin2 [V.int i, .int j] H Q) (Q (.int (if j < i then j else i)) H) := ⟨g_min2⟩
instance {g : Int → V} {i : Int} : Step (rU g (.int i) H Q) (Q (g i) H) := ⟨fun q => ⟨i, rfl, q⟩⟩
instance {to ti : TE} {ts : TSet} {R : L2.St → Hp → Prop} : Step (gSub to ti ts v σ H R) (to σ H fun o H1 => ti σ H1 fun i H2 => ts o i v H2 fun H3 => R σ H3) := ⟨g_gsub⟩
instance (priority := low) {g : TG} : Step (tAsg te g D σ H) (te σ H fun x H1 => g x σ H1 D.nx) := ⟨g_asgG⟩
instance {r : V → Option Int → Option Int → Hp → VK → Prop} {t1 t2 : TO} : Step (tSl r te t1 t2 σ H Q) (te σ H fun x H1 => t1 σ H1 fun l H2 => t2 σ H2 fun u H3 => r x l u H3 Q) := ⟨g_sl⟩
instance {R : Option Int → Hp → Prop} : Step (tNoPart σ H R) (R none H) := ⟨g_noPart⟩
instance {R : Option Int → Hp → Prop} : Step (tPart te σ H R) (te σ H fun x H1 => ∃ i, x = .int i ∧ R (some i) H1) := ⟨g_part⟩
instance {T : String} {r : V → List V → Hp → VK → Prop} : Step (tBM K T r te tl σ H Q) (te σ H fun x H1 => tyV K T x H1 ∧ tl σ H1 fun xs H2 => r x xs H2 Q) := ⟨g_bm⟩
instance {T : String} {r : V → List V → Hp → VK → Prop} : Step (tBM0 K T r te σ H Q) (te σ H fun x H1 => tyV K T x H1 ∧ r x [] H1 Q) := ⟨g_bm0⟩
instance {z : Str} {R : Prop} : Step (tyV K "str" (.str z) H ∧ R) R := ⟨g_tyS⟩
instance {A B : Prop} : Step (if true = true then A else B) A := ⟨iteT⟩
instance {A B : Prop} : Step (if false = true then A else B) B := ⟨iteF⟩
instance {A B : Prop} : Step (if (!false) = true then A else B) A := ⟨iteNT⟩
instance {A B : Prop} : Step (if (!true) = true then A else B) B := ⟨iteNF⟩
end

/-! ### enumerate(text) -/
def Itse (x : Str) : It :=
  ⟨fun i _ => i < x.cps.size, fun i H v H' => ∃ T c, v = .ref T ∧ H T = none ∧ H' = upd H T (.tup [.int (i : Nat), .str ⟨#[c]⟩]) ∧ x.cps[i]? = some c, fun i _ => x.cps.size ≤ i⟩
theorem turn_enumS {P : Program} {w : World} {K : PySem.W.Frag} {elts : List Expr} {kk : Nat} {tpos : Pos} (x : Str) (t : Tok) (e it : Addr) (hne : e ≠ it) :
    Turn P w K (.Tuple elts kk tpos) (Itse x) [e, it] e (fun i h => ((∃ old, IsEnum h e it ((i : Nat) : Int) old) ∧ h.IsStrIter it (strIterType x) x t i) ∧ i ≤ x.cps.size) where
  mem := by simp
  obj := fun i h st b hb => by
    obtain ⟨⟨⟨old, he⟩, o, ho, hc, hd⟩, hle⟩ := st
    have e' : b = e ∨ b = it := by simpa using hb
    rcases e' with z | z
    · rw [z]; exact ⟨_, he, fun v q => nomatch q⟩
    · rw [z]; exact ⟨o, ho, fun v q => by rw [hd] at q; cases q⟩
  keep := fun i h h' st k => by
    obtain ⟨⟨⟨old, he⟩, o, ho, r⟩, hle⟩ := st
    exact ⟨⟨⟨old, k e (by simp) _ he⟩, o, k it (by simp) o ho, r⟩, hle⟩
  item := by
    intro X hP hw hK hc i pins s σ H E I hf st hg
    subst hP hw hK
    obtain ⟨⟨⟨old, he⟩, hit⟩, hle⟩ := st
    have hlt : i < x.cps.size := hg
    have hel : e < s.heap.objs.size := Heap.lt_size he
    have hil : it < s.heap.objs.size := by obtain ⟨_, q, _⟩ := hit; exact Heap.lt_size q
    have D := Draws.text (prog := X.prog) (w := X.w) (A := X.A.in1) (I.ok.hd hc) it x t
    refine wpAny_pyNext_enum_itemD D he hit hlt hne (by simpa using hne) fun v h' tk hv ho hit' hT hsz hk => ?_
    obtain ⟨c, u, hcx, rfl⟩ := hv
    refine ⟨_, rfl, wpAny_letOwnedTupleGo_enum (s := { s with heap := h', toks := tk + 1 }) ho fun h'' he' sb => ?_⟩
    have hT2 : h''.get? s.heap.objs.size = some { cls := .type "tuple", data := .seq #[.int i tk, .str ⟨#[c]⟩ u] } := (sb.2 _ (Nat.ne_of_gt hel)).trans hT
    have new : ObjOk X.prog X.w (upd H s.heap.objs.size (.tup [.int (i : Nat), .str ⟨#[c]⟩])) h'' s.heap.objs.size (.tup [.int (i : Nat), .str ⟨#[c]⟩]) :=
      ⟨by show 2 ≤ sizeLine; decide, [.int i tk, .str ⟨#[c]⟩ u], .cons ⟨_, rfl⟩ (.cons ⟨_, rfl⟩ .nil), ⟨_, hT2, rfl, _, rfl⟩⟩
    have I1 : Inv X pins σ (upd H s.heap.objs.size (.tup [.int (i : Nat), .str ⟨#[c]⟩])) { s with heap := h'', toks := tk + 1 } :=
      I.turnedNew (ch := [e, it]) (fun b ob hb q => (sb.2 b (fun z => hb (by simp [z]))).trans (hk b ob (fun z => hb (by simp [z])) (fun z => hb (by simp [z])) q)) hf (Nat.le_refl _) new
    refine ⟨.ref s.heap.objs.size, _, I1, rfl, ⟨_, c, rfl, I.hok.fresh (Nat.le_refl _), rfl, hcx⟩, ⟨⟨⟨.str ⟨#[c]⟩ u, ?_⟩, ?_⟩, hlt⟩, fun b hb => ?_⟩
    · have e1 : ((i + 1 : Nat) : Int) = (i : Int) + 1 := by omega
      rw [e1]; exact he'
    · obtain ⟨o, e1, r⟩ := hit'
      exact ⟨o, (sb.2 it (Ne.symm hne)).trans e1, r⟩
    · have hb' : b < s.heap.objs.size := by
        have e' : b = e ∨ b = it := by simpa using hb
        rcases e' with z | z
        · rw [z]; exact hel
        · rw [z]; exact hil
      rw [upd_ne (Nat.ne_of_lt hb')]
      exact (hf b hb).1
  done := by
    intro X hP hw hK hc i pins s σ H E I hf st hg
    subst hP hw hK
    obtain ⟨⟨⟨old, he⟩, hit⟩, hle⟩ := st
    have hge : x.cps.size ≤ i := hg
    obtain ⟨f0, f1, f2, f3, f4, f5⟩ := hf it (by simp)
    have ei : i = x.cps.size := Nat.le_antisymm hle hge
    subst ei
    have D := Draws.text (prog := X.prog) (w := X.w) (A := X.A.in1) (I.ok.hd hc) it x t
    exact wpAny_pyNext_enum_endD D he hit fun h' eb => ⟨rfl, I.turned (t' := s.toks) (fun b o hb q => eb b o hb q) f0 f1 f3 f4 f5⟩
  self := fun A i s Q E st h => let ⟨⟨⟨_, he⟩, _⟩, _⟩ := st; wpAny_pyIter_enum he h
def iEnumS (ta : TA) : TI := fun σ H R => ta σ H fun vs H1 => ∃ x, vs = [.str x] ∧ R (Itse x) H1
theorem pi_enumS {X : Cx} {e : Expr} {ta : TA} {p pos tpos : Pos} {elts : List Expr} {kk : Nat} (hg : Gl X "enumerate") (hm : X.mg "enumerate" = none) (ha : PA X [e] ta) (hs : starEach [e] X.env = [(false, eval e X.env)] := by rfl) :
    PI X (.Tuple elts kk tpos) (.Call (.Name "enumerate" p) [e] [] pos) (iEnumS ta) := by
  refine ⟨fun pins s σ H R I h => ?_⟩
  refine Call_ (ld_blt I hg hm boot_enumerate (PyProof.Rows.callWith_type1 (thn (ha.run pos pins s σ H _ I h) fun us s1 ⟨vs, H1, I1, r1, q1⟩ => ?_) hs rfl))
  obtain ⟨x, ex, q⟩ := q1
  subst ex
  cases r1 with
  | cons r rr =>
    cases rr
    obtain ⟨t, rfl⟩ := r
    refine call_enumerate_str fun h' he hit hsz hk => wpAny_pyIter_enum he ?_
    have I2 : Inv X pins σ H1 { s1 with heap := h' } := I1.kept (t' := s1.toks) hk
    refine ⟨s1.heap.objs.size + 1, [s1.heap.objs.size + 1, s1.heap.objs.size], _, _, H1, rfl, I2, turn_enumS x t (s1.heap.objs.size + 1) s1.heap.objs.size (Nat.succ_ne_self _), ⟨⟨⟨.none, he⟩, hit⟩, Nat.zero_le _⟩, fun b hb => ?_, q⟩
    have e' : b = s1.heap.objs.size + 1 ∨ b = s1.heap.objs.size := by simpa using hb
    have hle : s1.heap.objs.size ≤ b := by
      rcases e' with z | z
      · rw [z]; exact Nat.le_add_right _ _
      · rw [z]; exact Nat.le_refl _
    exact I1.fpOk hle (I1.hok.fresh hle)
/-! ### loops -/
section
variable {K : PySem.W.Frag} {σ τ : L2.St} {H : Hp} {Q : VK} {j : Nat} {ta : TA} {te tl : TE} {tt : TT} {D : Ends} {tb : TS} {g : TG}
/-- any iterator told by what it gives: n items, where S stands, the i-th as Y tells -/
structure Feeds (J : It) (n : Nat) (S : Hp → Prop) (Y : Nat → Hp → V → Hp → Prop) : Prop where
  go : ∀ i H, S H → i < n → J.go i H
  yld : ∀ i H x H', S H → i < n → J.yld i H x H' → Y i H x H'
  stop : ∀ H, S H → J.stop n H
abbrev ForW (J : It) (g : TG) (tb : TS) (D : Ends) (σ : L2.St) (H : Hp) : Prop := ∃ W : Nat → Nat → L2.St → Hp → Prop, (∃ m, W 0 m σ H) ∧ ∀ i m σ H, W i m σ H →
      (J.stop i H ∧ D.nx σ H) ∨ (J.go i H ∧ ∃ N : L2.St → Hp → Prop, (∀ σ' H', N σ' H' → ∃ m', m' < m ∧ W (i + 1) m' σ' H') ∧ ∀ v H', J.yld i H v H' → g v σ H' fun σ2 H2 => tb { D with nx := N, ct := N, bk := D.nx } σ2 H2)
abbrev LcW (J : It) (g : TG) (tt : TT) (te : TE) (vs : List Nat) (σ : L2.St) (H : Hp) (Q : VK) : Prop := ∀ D, H D = none → ∃ W : Nat → Nat → Hp → Prop, (∃ m, W 0 m (upd H D (.lst []))) ∧ ∀ i m H, W i m H →
      (J.stop i H ∧ Q (.ref D) H) ∨ (J.go i H ∧ ∃ Nx : Hp → Prop, (∀ H', Nx H' → ∃ m', m' < m ∧ W (i + 1) m' H') ∧ ∀ x H', J.yld i H x H' → g x (wipe σ vs) H' fun σ2 H2 => wipe σ2 vs = wipe σ vs ∧ tt σ2 H2 fun b H3 =>
        if b = true then te σ2 H3 fun y H4 => ∃ acc, H4 D = some (.lst acc) ∧ acc.length < sizeLine ∧ Nx (upd H4 D (.lst (acc ++ [y]))) else Nx H3)
/-- the invariant: what is not in bs stands as it stood at H, and Pv -/
def LI (bs : List Addr) (H : Hp) (Pv : L2.St → Hp → Prop) : L2.St → Hp → Prop := fun σ' H' => Chg bs H H' ∧ Pv σ' H'
theorem li {bs : List Addr} {H H' : Hp} {Pv : L2.St → Hp → Prop} {σ' : L2.St} [r : RelC bs H H'] [k : Anc H H'] (h : Pv σ' H') : LI bs H Pv σ' H' := ⟨rel, h⟩
theorem for_feeds {J : It} {n : Nat} {S : Hp → Prop} {Y : Nat → Hp → V → Hp → Prop} (F : Feeds J n S Y) (bs : List Addr) (Pv : Nat → L2.St → Hp → Prop) (h0 : Pv 0 σ H) (hS : ∀ H', Chg bs H H' → S H')
    (hs : ∀ (i : Nat) σ' H' x H'', i < n → Chg bs H H' → Pv i σ' H' → Y i H' x H'' → g x σ' H'' fun σ2 H2 => tb { D with nx := LI bs H (Pv (i + 1)), ct := LI bs H (Pv (i + 1)), bk := D.nx } σ2 H2) (hd : ∀ σ' H', Chg bs H H' → Pv n σ' H' → D.nx σ' H') :
    ForW J g tb D σ H := by
  refine ⟨fun i m σ' H' => m = n - i ∧ i ≤ n ∧ LI bs H (Pv i) σ' H', ⟨n, rfl, Nat.zero_le _, Chg.refl _ _, h0⟩, ?_⟩
  rintro i m σ' H' ⟨rfl, hi, r, p⟩
  have q := hS H' r
  by_cases hlt : i < n
  · exact .inr ⟨F.go i H' q hlt, LI bs H (Pv (i + 1)), fun σ' H' p' => ⟨n - (i + 1), by omega, rfl, hlt, p'⟩, fun v H'' y => hs i σ' H' v H'' hlt r p (F.yld i H' v H'' q hlt y)⟩
  · have e : i = n := by omega
    subst e
    exact .inl ⟨F.stop H' q, hd σ' H' r p⟩
/-- within a comprehension: the list made so far, at D -/
def rW (D : Addr) (P : List V → Hp → Prop) (H' : Hp) : Prop := ∃ acc, H' D = some (.lst acc) ∧ P acc H'
def rApp (D : Addr) (W : Hp → Prop) (y : V) (H4 : Hp) : Prop := ∃ acc, H4 D = some (.lst acc) ∧ acc.length < sizeLine ∧ W (upd H4 D (.lst (acc ++ [y])))
theorem g_rapp {D : Addr} {P : List V → Hp → Prop} {y : V} {acc : List V} {H4 : Hp} [h : At H4 D (.lst acc)] (hz : acc.length < 100000) (q : ∀ H5, ExB D H4 H5 → At H5 D (.lst (acc ++ [y])) → P (acc ++ [y]) H5) : rApp D (rW D P) y H4 :=
  ⟨acc, h.eq, Nat.lt_of_lt_of_le hz (by decide), _, upd_same, q _ ExB.upd ⟨upd_same⟩⟩
theorem g_rW {D : Addr} {P : List V → Hp → Prop} {acc : List V} {H4 : Hp} [h : At H4 D (.lst acc)] (q : P acc H4) : rW D P H4 := ⟨acc, h.eq, q⟩
class Wipe (σ : L2.St) (vs : List Nat) (τ : outParam L2.St) : Prop where
  eq : wipe σ vs = τ
instance : Wipe σ [] σ := ⟨rfl⟩
instance {v : Nat} {vs : List Nat} {ρ : L2.St} [h : Wipe σ vs ρ] [k : SetL ρ v none τ] : Wipe σ (v :: vs) τ := ⟨by show (wipe σ vs).set v none = τ; rw [h.eq, k.eq]⟩
instance {QB : Bool → Hp → Prop} : Step (tYes σ H QB) (QB true H) := ⟨fun q => q⟩
theorem lc_feeds {J : It} {n : Nat} {S : Hp → Prop} {Y : Nat → Hp → V → Hp → Prop} {vs : List Nat} (F : Feeds J n S Y) (bs : List Addr) (Pv : Addr → Nat → List V → Hp → Prop) [hw : Wipe σ vs τ]
    (h0 : ∀ D H1, Nw H D → Ex H H1 → At H1 D (.lst []) → Pv D 0 [] H1) (hS : ∀ H', Chg bs H H' → S H')
    (hs : ∀ D (i : Nat) acc H' x H'', i < n → Nw H D → Chg bs H H' → At H' D (.lst acc) → Pv D i acc H' → Y i H' x H'' → g x τ H'' fun σ2 H2 => wipe σ2 vs = τ ∧ tt σ2 H2 fun b H3 =>
      if b = true then te σ2 H3 (rApp D (rW D fun ac H5 => Chg bs H H5 ∧ Pv D (i + 1) ac H5)) else rW D (fun ac H5 => Chg bs H H5 ∧ Pv D (i + 1) ac H5) H3)
    (hd : ∀ D acc H', Nw H D → Chg bs H H' → At H' D (.lst acc) → Pv D n acc H' → Q (.ref D) H') : LcW J g tt te vs σ H Q := by
  intro D hD
  refine ⟨fun i m H' => m = n - i ∧ i ≤ n ∧ rW D (fun ac H5 => Chg bs H H5 ∧ Pv D i ac H5) H', ⟨n, rfl, Nat.zero_le _, [], upd_same, ⟨fun a o _ h => (Ex.mk hD).keep a o (by simp) h, (Ex.mk hD).live⟩, h0 D _ ⟨hD⟩ (Ex.mk hD) ⟨upd_same⟩⟩, ?_⟩
  rintro i m H' ⟨rfl, hi, acc, e, r, p⟩
  have q := hS H' r
  by_cases hlt : i < n
  · refine .inr ⟨F.go i H' q hlt, rW D (fun ac H5 => Chg bs H H5 ∧ Pv D (i + 1) ac H5), fun H' p' => ⟨n - (i + 1), by omega, rfl, hlt, p'⟩, fun v H'' y => ?_⟩
    rw [hw.eq]
    exact hs D i acc H' v H'' hlt ⟨hD⟩ r ⟨e⟩ p (F.yld i H' v H'' q hlt y)
  · have e' : i = n := by omega
    subst e'
    exact .inl ⟨F.stop H' q, hd D acc H' ⟨hD⟩ r ⟨e⟩ p⟩
/-- the items come out as F tells -/
theorem lc_F {J : It} {n : Nat} {S : Hp → Prop} {Y : Nat → Hp → V → Hp → Prop} {vs : List Nat} (Fd : Feeds J n S Y) (F : Nat → List V) [hw : Wipe σ vs τ] (hF : F 0 = []) (hS : ∀ H', Ex H H' → S H') (hz : ∀ i, i < n → (F i).length < 100000)
    (hs : ∀ D (i : Nat) H' x H'', i < n → Nw H D → Ex H H' → At H' D (.lst (F i)) → (F i).length < 100000 → Y i H' x H'' → g x τ H'' fun σ2 H2 => wipe σ2 vs = τ ∧ tt σ2 H2 fun b H3 =>
      if b = true then te σ2 H3 (rApp D (rW D fun ac H5 => Ex H H5 ∧ ac = F (i + 1))) else rW D (fun ac H5 => Ex H H5 ∧ ac = F (i + 1)) H3)
    (hd : ∀ D H', Nw H D → Ex H H' → At H' D (.lst (F n)) → Q (.ref D) H') : LcW J g tt te vs σ H Q :=
  lc_feeds Fd [] (fun _ i acc _ => acc = F i) (fun _ H1 _ _ _ => hF.symm) hS (fun D i acc H' x H'' hi hD e hp p y => by
    subst p
    exact hs D i H' x H'' hi hD e hp (hz i hi) y) (fun D acc H' hD e hp p => by
    subst p
    exact hd D H' hD e hp)
/-- each item is as P tells -/
theorem lc_A {J : It} {n : Nat} {S : Hp → Prop} {Y : Nat → Hp → V → Hp → Prop} {vs : List Nat} (Fd : Feeds J n S Y) (P : V → Prop) [hw : Wipe σ vs τ] (hS : ∀ H', Ex H H' → S H') (hz : n ≤ 100000)
    (hs : ∀ D (i : Nat) acc H' x H'', i < n → Nw H D → Ex H H' → At H' D (.lst acc) → acc.length < 100000 → Y i H' x H'' → g x τ H'' fun σ2 H2 => wipe σ2 vs = τ ∧ tt σ2 H2 fun b H3 =>
      if b = true then te σ2 H3 (rApp D (rW D fun ac H5 => Ex H H5 ∧ ∃ v, ac = acc ++ [v] ∧ P v)) else rW D (fun ac H5 => Ex H H5 ∧ ∃ v, ac = acc ++ [v] ∧ P v) H3)
    (hd : ∀ D acc H', Nw H D → Ex H H' → At H' D (.lst acc) → acc.length = n → (∀ v ∈ acc, P v) → Q (.ref D) H') : LcW J g tt te vs σ H Q := by
  intro D hD
  refine ⟨fun i m H' => m = n - i ∧ i ≤ n ∧ ∃ acc, H' D = some (.lst acc) ∧ acc.length = i ∧ (∀ v ∈ acc, P v) ∧ Ex H H', ⟨n, rfl, Nat.zero_le _, [], upd_same, rfl, by simp, Ex.mk hD⟩, ?_⟩
  rintro i m H' ⟨rfl, hi, acc, e, hl, hP, ex⟩
  have q := hS H' ex
  by_cases hlt : i < n
  · refine .inr ⟨Fd.go i H' q hlt, rW D (fun ac H5 => Ex H H5 ∧ ∃ v, ac = acc ++ [v] ∧ P v), fun H' p' => ?_, fun v H'' y => ?_⟩
    · obtain ⟨ac, e1, e2, v, rfl, hv⟩ := p'
      refine ⟨n - (i + 1), by omega, rfl, hlt, acc ++ [v], e1, by simp [hl], fun u hu => ?_, e2⟩
      rcases List.mem_append.mp hu with h | h
      · exact hP u h
      · rw [List.mem_singleton.mp h]; exact hv
    · rw [hw.eq]
      exact hs D i acc H' v H'' hlt ⟨hD⟩ ex ⟨e⟩ (by omega) (Fd.yld i H' v H'' q hlt y)
  · have e' : i = n := by omega
    subst e'
    exact .inl ⟨Fd.stop H' q, hd D acc H' ⟨hD⟩ ex ⟨e⟩ hl hP⟩
/-! what each kind gives -/
theorem fd_rng {lo : Int} {n : Nat} : Feeds (Itr lo n) n (fun _ => True) (fun i H x H' => H' = H ∧ x = .int (lo + (i : Nat))) := ⟨fun _ _ _ h => h, fun _ _ _ _ _ _ y => y, fun _ _ => Nat.le_refl _⟩
theorem fd_list {a : Addr} {xs : List V} : Feeds (Itl K a) xs.length (fun H => SqL K H a xs) (fun i H x H' => H' = H ∧ xs[i]? = some x) :=
  ⟨fun i H s h => ⟨xs, xs[i], s, List.getElem?_eq_getElem h⟩, fun i H x H' s _ y => ⟨y.1, y.2 xs s⟩, fun H s => ⟨xs, s, Nat.le_refl _⟩⟩
theorem fd_tup {a : Addr} {xs : List V} : Feeds (Itt K a) xs.length (fun H => SqT K H a xs) (fun i H x H' => H' = H ∧ xs[i]? = some x) :=
  ⟨fun i H s h => ⟨xs, xs[i], s, List.getElem?_eq_getElem h⟩, fun i H x H' s _ y => ⟨y.1, y.2 xs s⟩, fun H s => ⟨xs, s, Nat.le_refl _⟩⟩
def Pair (H : Hp) (x : V) (H' : Hp) (a b : V) : Prop := ∃ T, x = .ref T ∧ Nw H T ∧ Ex H H' ∧ At H' T (.tup [a, b])
theorem pair_mk {H : Hp} {T : Addr} {a b : V} (h : H T = none) : Pair H (.ref T) (upd H T (.tup [a, b])) a b := ⟨T, rfl, ⟨h⟩, Ex.mk h, ⟨upd_same⟩⟩
theorem fd_enumS {z : Str} : Feeds (Itse z) z.cps.size (fun _ => True) (fun i H x H' => ∃ c, z.cps[i]? = some c ∧ Pair H x H' (.int (i : Nat)) (.str ⟨#[c]⟩)) :=
  ⟨fun _ _ _ h => h, fun i H x H' _ _ y => by
    obtain ⟨T, c, rfl, h, rfl, hc⟩ := y
    exact ⟨c, hc, pair_mk h⟩, fun _ _ => Nat.le_refl _⟩
theorem fd_str {z : Str} : Feeds (Its z) z.cps.size (fun _ => True) (fun i H x H' => H' = H ∧ ∃ c, z.cps[i]? = some c ∧ x = .str ⟨#[c]⟩) := ⟨fun _ _ _ h => h, fun _ _ _ _ _ _ y => y, fun _ _ => Nat.le_refl _⟩
theorem fd_enum {a : Addr} {xs : List V} : Feeds (Ite K a) xs.length (fun H => SqL K H a xs) (fun i H x H' => ∃ c, xs[i]? = some c ∧ Pair H x H' (.int (i : Nat)) c) :=
  ⟨fun i H s h => ⟨xs, xs[i], s, List.getElem?_eq_getElem h⟩, fun i H x H' s _ y => by
    obtain ⟨T, c, rfl, h, rfl, hc⟩ := y
    exact ⟨c, hc xs s, pair_mk h⟩, fun H s => ⟨xs, s, Nat.le_refl _⟩⟩
theorem fd_zip {a b : Addr} {xs ys : List V} {n : Nat} (hn : min xs.length ys.length = n) : Feeds (Itz K a b) n (fun H => SqL K H a xs ∧ SqL K H b ys) (fun i H x H' => ∃ c d, xs[i]? = some c ∧ ys[i]? = some d ∧ Pair H x H' c d) :=
  ⟨fun i H s h => ⟨xs, ys, xs[i]'(by omega), ys[i]'(by omega), s.1, s.2, List.getElem?_eq_getElem _, List.getElem?_eq_getElem _⟩, fun i H x H' s _ y => by
    obtain ⟨T, c, d, rfl, h, rfl, hc, hd⟩ := y
    exact ⟨c, d, hc xs s.1, hd ys s.2, pair_mk h⟩, fun H s => ⟨xs, ys, s.1, s.2, by omega⟩⟩
/-! the heads -/
def rFor1 (vs : List V) (g : TG) (tb : TS) (D : Ends) (σ : L2.St) (H : Hp) : Prop := tFor (iRng1 fun _ H R => R vs H) g tb D σ H
def rFor2 (vs : List V) (g : TG) (tb : TS) (D : Ends) (σ : L2.St) (H : Hp) : Prop := tFor (iRng2 fun _ H R => R vs H) g tb D σ H
def rForL (K : PySem.W.Frag) (v : V) (g : TG) (tb : TS) (D : Ends) (σ : L2.St) (H : Hp) : Prop := tFor (iList K fun _ H R => R v H) g tb D σ H
def rForT (K : PySem.W.Frag) (v : V) (g : TG) (tb : TS) (D : Ends) (σ : L2.St) (H : Hp) : Prop := tFor (iTup K fun _ H R => R v H) g tb D σ H
def rForE (vs : List V) (g : TG) (tb : TS) (D : Ends) (σ : L2.St) (H : Hp) : Prop := tFor (iEnumS fun _ H R => R vs H) g tb D σ H
def rForS (v : V) (g : TG) (tb : TS) (D : Ends) (σ : L2.St) (H : Hp) : Prop := tFor (iStr fun _ H R => R v H) g tb D σ H
def rForEL (K : PySem.W.Frag) (vs : List V) (g : TG) (tb : TS) (D : Ends) (σ : L2.St) (H : Hp) : Prop := tFor (iEnum K fun _ H R => R vs H) g tb D σ H
def rForZ (K : PySem.W.Frag) (vs : List V) (g : TG) (tb : TS) (D : Ends) (σ : L2.St) (H : Hp) : Prop := tFor (iZip K fun _ H R => R vs H) g tb D σ H
instance : Step (tFor (iRng1 ta) g tb D σ H) (ta σ H fun vs H1 => rFor1 vs g tb D σ H1) := ⟨fun q => q⟩
instance : Step (tFor (iRng2 ta) g tb D σ H) (ta σ H fun vs H1 => rFor2 vs g tb D σ H1) := ⟨fun q => q⟩
instance : Step (tFor (iList K tl) g tb D σ H) (tl σ H fun v H1 => rForL K v g tb D σ H1) := ⟨fun q => q⟩
instance : Step (tFor (iTup K tl) g tb D σ H) (tl σ H fun v H1 => rForT K v g tb D σ H1) := ⟨fun q => q⟩
instance : Step (tFor (iEnumS ta) g tb D σ H) (ta σ H fun vs H1 => rForE vs g tb D σ H1) := ⟨fun q => q⟩
instance : Step (tFor (iStr tl) g tb D σ H) (tl σ H fun v H1 => rForS v g tb D σ H1) := ⟨fun q => q⟩
instance : Step (tFor (iEnum K ta) g tb D σ H) (ta σ H fun vs H1 => rForEL K vs g tb D σ H1) := ⟨fun q => q⟩
instance : Step (tFor (iZip K ta) g tb D σ H) (ta σ H fun vs H1 => rForZ K vs g tb D σ H1) := ⟨fun q => q⟩
def rLc1 (us : List V) (g : TG) (tt : TT) (te : TE) (vs : List Nat) (σ : L2.St) (H : Hp) (Q : VK) : Prop := tLc (iRng1 fun _ H R => R us H) g tt te vs σ H Q
def rLc2 (us : List V) (g : TG) (tt : TT) (te : TE) (vs : List Nat) (σ : L2.St) (H : Hp) (Q : VK) : Prop := tLc (iRng2 fun _ H R => R us H) g tt te vs σ H Q
def rLcL (K : PySem.W.Frag) (v : V) (g : TG) (tt : TT) (te : TE) (vs : List Nat) (σ : L2.St) (H : Hp) (Q : VK) : Prop := tLc (iList K fun _ H R => R v H) g tt te vs σ H Q
def rLcT (K : PySem.W.Frag) (v : V) (g : TG) (tt : TT) (te : TE) (vs : List Nat) (σ : L2.St) (H : Hp) (Q : VK) : Prop := tLc (iTup K fun _ H R => R v H) g tt te vs σ H Q
def rLcE (us : List V) (g : TG) (tt : TT) (te : TE) (vs : List Nat) (σ : L2.St) (H : Hp) (Q : VK) : Prop := tLc (iEnumS fun _ H R => R us H) g tt te vs σ H Q
def rLcS (v : V) (g : TG) (tt : TT) (te : TE) (vs : List Nat) (σ : L2.St) (H : Hp) (Q : VK) : Prop := tLc (iStr fun _ H R => R v H) g tt te vs σ H Q
def rLcEL (K : PySem.W.Frag) (us : List V) (g : TG) (tt : TT) (te : TE) (vs : List Nat) (σ : L2.St) (H : Hp) (Q : VK) : Prop := tLc (iEnum K fun _ H R => R us H) g tt te vs σ H Q
def rLcZ (K : PySem.W.Frag) (us : List V) (g : TG) (tt : TT) (te : TE) (vs : List Nat) (σ : L2.St) (H : Hp) (Q : VK) : Prop := tLc (iZip K fun _ H R => R us H) g tt te vs σ H Q
instance {vs : List Nat} : Step (tLc (iRng1 ta) g tt te vs σ H Q) (ta σ H fun us H1 => rLc1 us g tt te vs σ H1 Q) := ⟨fun q => q⟩
instance {vs : List Nat} : Step (tLc (iRng2 ta) g tt te vs σ H Q) (ta σ H fun us H1 => rLc2 us g tt te vs σ H1 Q) := ⟨fun q => q⟩
instance {vs : List Nat} : Step (tLc (iList K tl) g tt te vs σ H Q) (tl σ H fun v H1 => rLcL K v g tt te vs σ H1 Q) := ⟨fun q => q⟩
instance {vs : List Nat} : Step (tLc (iTup K tl) g tt te vs σ H Q) (tl σ H fun v H1 => rLcT K v g tt te vs σ H1 Q) := ⟨fun q => q⟩
instance {vs : List Nat} : Step (tLc (iEnumS ta) g tt te vs σ H Q) (ta σ H fun us H1 => rLcE us g tt te vs σ H1 Q) := ⟨fun q => q⟩
instance {vs : List Nat} : Step (tLc (iStr tl) g tt te vs σ H Q) (tl σ H fun v H1 => rLcS v g tt te vs σ H1 Q) := ⟨fun q => q⟩
instance {vs : List Nat} : Step (tLc (iEnum K ta) g tt te vs σ H Q) (ta σ H fun us H1 => rLcEL K us g tt te vs σ H1 Q) := ⟨fun q => q⟩
instance {vs : List Nat} : Step (tLc (iZip K ta) g tt te vs σ H Q) (ta σ H fun us H1 => rLcZ K us g tt te vs σ H1 Q) := ⟨fun q => q⟩
/-! loops by kind: bs is what the turns may change, Pv the invariant -/
theorem for1 {n : Int} (bs : List Addr) (Pv : Nat → L2.St → Hp → Prop) (hn : -(2 ^ 62) ≤ n ∧ n < 2 ^ 62) (h0 : Pv 0 σ H)
    (hs : ∀ (i : Nat) σ' H', (i : Int) < n → Chg bs H H' → Pv i σ' H' → g (.int (i : Int)) σ' H' fun σ2 H2 => tb { D with nx := LI bs H (Pv (i + 1)), ct := LI bs H (Pv (i + 1)), bk := D.nx } σ2 H2)
    (hd : ∀ σ' H', Chg bs H H' → Pv n.toNat σ' H' → D.nx σ' H') : rFor1 [.int n] g tb D σ H :=
  ⟨n, rfl, hn.1, hn.2, for_feeds (fd_rng (lo := 0)) bs Pv h0 (fun _ _ => trivial) (fun i σ' H' x H'' hi r p y => by
    obtain ⟨rfl, rfl⟩ := y
    rw [Int.zero_add]
    exact hs i σ' _ (by omega) r p) hd⟩
theorem for2 {a n : Int} (bs : List Addr) (Pv : Nat → L2.St → Hp → Prop) (hn : -(2 ^ 62) ≤ a ∧ a < 2 ^ 62 ∧ -(2 ^ 62) ≤ n ∧ n < 2 ^ 62) (h0 : Pv 0 σ H)
    (hs : ∀ (i : Nat) σ' H', a + (i : Int) < n → Chg bs H H' → Pv i σ' H' → g (.int (a + (i : Int))) σ' H' fun σ2 H2 => tb { D with nx := LI bs H (Pv (i + 1)), ct := LI bs H (Pv (i + 1)), bk := D.nx } σ2 H2)
    (hd : ∀ σ' H', Chg bs H H' → Pv (n - a).toNat σ' H' → D.nx σ' H') : rFor2 [.int a, .int n] g tb D σ H :=
  ⟨a, n, rfl, hn, for_feeds (fd_rng (lo := a)) bs Pv h0 (fun _ _ => trivial) (fun i σ' H' x H'' hi r p y => by
    obtain ⟨rfl, rfl⟩ := y
    exact hs i σ' _ (by omega) r p) hd⟩
theorem forL {a : Addr} {xs : List V} (bs : List Addr) (Pv : Nat → L2.St → Hp → Prop) [hx : SqC K H a xs] [hn : NotIn a bs] (h0 : Pv 0 σ H)
    (hs : ∀ (i : Nat) x σ' H', xs[i]? = some x → Chg bs H H' → Pv i σ' H' → g x σ' H' fun σ2 H2 => tb { D with nx := LI bs H (Pv (i + 1)), ct := LI bs H (Pv (i + 1)), bk := D.nx } σ2 H2)
    (hd : ∀ σ' H', Chg bs H H' → Pv xs.length σ' H' → D.nx σ' H') : rForL K (.ref a) g tb D σ H :=
  ⟨a, rfl, ⟨xs, hx.sq⟩, for_feeds fd_list bs Pv h0 (fun _ r => r.l hn.out hx.sq) (fun i σ' H' x H'' hi r p y => by
    obtain ⟨rfl, y⟩ := y
    exact hs i x σ' _ y r p) hd⟩
theorem forT {a : Addr} {xs : List V} (bs : List Addr) (Pv : Nat → L2.St → Hp → Prop) [hx : StC K H a xs] [hn : NotIn a bs] (h0 : Pv 0 σ H)
    (hs : ∀ (i : Nat) x σ' H', xs[i]? = some x → Chg bs H H' → Pv i σ' H' → g x σ' H' fun σ2 H2 => tb { D with nx := LI bs H (Pv (i + 1)), ct := LI bs H (Pv (i + 1)), bk := D.nx } σ2 H2)
    (hd : ∀ σ' H', Chg bs H H' → Pv xs.length σ' H' → D.nx σ' H') : rForT K (.ref a) g tb D σ H :=
  ⟨a, rfl, ⟨xs, hx.st⟩, for_feeds fd_tup bs Pv h0 (fun _ r => r.t hn.out hx.st) (fun i σ' H' x H'' hi r p y => by
    obtain ⟨rfl, y⟩ := y
    exact hs i x σ' _ y r p) hd⟩
theorem forZ {a b : Addr} {xs ys : List V} (bs : List Addr) (n : Nat) (Pv : Nat → L2.St → Hp → Prop) [hx : SqC K H a xs] [hy : SqC K H b ys] [hna : NotIn a bs] [hnb : NotIn b bs] (hn : min xs.length ys.length = n) (h0 : Pv 0 σ H)
    (hs : ∀ (i : Nat) c d x σ' H' H'', i < n → xs[i]? = some c → ys[i]? = some d → Chg bs H H' → Pv i σ' H' → Pair H' x H'' c d → g x σ' H'' fun σ2 H2 => tb { D with nx := LI bs H (Pv (i + 1)), ct := LI bs H (Pv (i + 1)), bk := D.nx } σ2 H2)
    (hd : ∀ σ' H', Chg bs H H' → Pv n σ' H' → D.nx σ' H') : rForZ K [.ref a, .ref b] g tb D σ H :=
  ⟨a, b, xs, ys, rfl, hx.sq, hy.sq, for_feeds (fd_zip hn) bs Pv h0 (fun _ r => ⟨r.l hna.out hx.sq, r.l hnb.out hy.sq⟩) (fun i σ' H' x H'' hi r p y => by
    obtain ⟨c, d, h1, h2, y⟩ := y
    exact hs i c d x σ' H' H'' hi h1 h2 r p y) hd⟩
theorem forEL {a : Addr} {xs : List V} (bs : List Addr) (Pv : Nat → L2.St → Hp → Prop) [hx : SqC K H a xs] [hn : NotIn a bs] (h0 : Pv 0 σ H)
    (hs : ∀ (i : Nat) c x σ' H' H'', xs[i]? = some c → Chg bs H H' → Pv i σ' H' → Pair H' x H'' (.int (i : Nat)) c → g x σ' H'' fun σ2 H2 => tb { D with nx := LI bs H (Pv (i + 1)), ct := LI bs H (Pv (i + 1)), bk := D.nx } σ2 H2)
    (hd : ∀ σ' H', Chg bs H H' → Pv xs.length σ' H' → D.nx σ' H') : rForEL K [.ref a] g tb D σ H :=
  ⟨a, xs, rfl, hx.sq, for_feeds fd_enum bs Pv h0 (fun _ r => r.l hn.out hx.sq) (fun i σ' H' x H'' hi r p y => by
    obtain ⟨c, h1, y⟩ := y
    exact hs i c x σ' H' H'' h1 r p y) hd⟩
/-! comprehensions by kind: _F what comes out is F, _A each item is as P tells -/
theorem lc1_F {vs : List Nat} {n : Int} (F : Nat → List V) (hn : -(2 ^ 62) ≤ n ∧ n < 2 ^ 62) [hw : Wipe σ vs τ] (hF : F 0 = []) (hz : ∀ i, i < n.toNat → (F i).length < 100000)
    (hs : ∀ D (i : Nat) H', (i : Int) < n → Nw H D → Ex H H' → At H' D (.lst (F i)) → (F i).length < 100000 → g (.int (i : Int)) τ H' fun σ2 H2 => wipe σ2 vs = τ ∧ tt σ2 H2 fun b H3 =>
      if b = true then te σ2 H3 (rApp D (rW D fun ac H5 => Ex H H5 ∧ ac = F (i + 1))) else rW D (fun ac H5 => Ex H H5 ∧ ac = F (i + 1)) H3)
    (hd : ∀ D H', Nw H D → Ex H H' → At H' D (.lst (F n.toNat)) → Q (.ref D) H') : rLc1 [.int n] g tt te vs σ H Q :=
  ⟨n, rfl, hn.1, hn.2, lc_F (fd_rng (lo := 0)) F hF (fun _ _ => trivial) hz (fun D i H' x H'' hi hD e hp z y => by
    obtain ⟨rfl, rfl⟩ := y
    rw [Int.zero_add]
    exact hs D i _ (by omega) hD e hp z) hd⟩
theorem lc2_F {vs : List Nat} {a n : Int} (F : Nat → List V) (hn : -(2 ^ 62) ≤ a ∧ a < 2 ^ 62 ∧ -(2 ^ 62) ≤ n ∧ n < 2 ^ 62) [hw : Wipe σ vs τ] (hF : F 0 = []) (hz : ∀ i, i < (n - a).toNat → (F i).length < 100000)
    (hs : ∀ D (i : Nat) H', a + (i : Int) < n → Nw H D → Ex H H' → At H' D (.lst (F i)) → (F i).length < 100000 → g (.int (a + (i : Int))) τ H' fun σ2 H2 => wipe σ2 vs = τ ∧ tt σ2 H2 fun b H3 =>
      if b = true then te σ2 H3 (rApp D (rW D fun ac H5 => Ex H H5 ∧ ac = F (i + 1))) else rW D (fun ac H5 => Ex H H5 ∧ ac = F (i + 1)) H3)
    (hd : ∀ D H', Nw H D → Ex H H' → At H' D (.lst (F (n - a).toNat)) → Q (.ref D) H') : rLc2 [.int a, .int n] g tt te vs σ H Q :=
  ⟨a, n, rfl, hn, lc_F (fd_rng (lo := a)) F hF (fun _ _ => trivial) hz (fun D i H' x H'' hi hD e hp z y => by
    obtain ⟨rfl, rfl⟩ := y
    exact hs D i _ (by omega) hD e hp z) hd⟩
theorem lcL_F {vs : List Nat} {a : Addr} {xs : List V} (F : Nat → List V) [hx : SqC K H a xs] [hw : Wipe σ vs τ] (hF : F 0 = []) (hz : ∀ i, i < xs.length → (F i).length < 100000)
    (hs : ∀ D (i : Nat) x H', xs[i]? = some x → Nw H D → Ex H H' → At H' D (.lst (F i)) → (F i).length < 100000 → g x τ H' fun σ2 H2 => wipe σ2 vs = τ ∧ tt σ2 H2 fun b H3 =>
      if b = true then te σ2 H3 (rApp D (rW D fun ac H5 => Ex H H5 ∧ ac = F (i + 1))) else rW D (fun ac H5 => Ex H H5 ∧ ac = F (i + 1)) H3)
    (hd : ∀ D H', Nw H D → Ex H H' → At H' D (.lst (F xs.length)) → Q (.ref D) H') : rLcL K (.ref a) g tt te vs σ H Q :=
  ⟨a, rfl, ⟨xs, hx.sq⟩, lc_F fd_list F hF (fun _ e => e.l hx.sq) hz (fun D i H' x H'' hi hD e hp z y => by
    obtain ⟨rfl, y⟩ := y
    exact hs D i x _ y hD e hp z) hd⟩
theorem lcT_F {vs : List Nat} {a : Addr} {xs : List V} (F : Nat → List V) [hx : StC K H a xs] [hw : Wipe σ vs τ] (hF : F 0 = []) (hz : ∀ i, i < xs.length → (F i).length < 100000)
    (hs : ∀ D (i : Nat) x H', xs[i]? = some x → Nw H D → Ex H H' → At H' D (.lst (F i)) → (F i).length < 100000 → g x τ H' fun σ2 H2 => wipe σ2 vs = τ ∧ tt σ2 H2 fun b H3 =>
      if b = true then te σ2 H3 (rApp D (rW D fun ac H5 => Ex H H5 ∧ ac = F (i + 1))) else rW D (fun ac H5 => Ex H H5 ∧ ac = F (i + 1)) H3)
    (hd : ∀ D H', Nw H D → Ex H H' → At H' D (.lst (F xs.length)) → Q (.ref D) H') : rLcT K (.ref a) g tt te vs σ H Q :=
  ⟨a, rfl, ⟨xs, hx.st⟩, lc_F fd_tup F hF (fun _ e => e.t hx.st) hz (fun D i H' x H'' hi hD e hp z y => by
    obtain ⟨rfl, y⟩ := y
    exact hs D i x _ y hD e hp z) hd⟩
theorem lcE_F {vs : List Nat} {z : Str} (F : Nat → List V) [hw : Wipe σ vs τ] (hF : F 0 = []) (hz : ∀ i, i < z.cps.size → (F i).length < 100000)
    (hs : ∀ D (i : Nat) c x H' H'', i < z.cps.size → z.cps[i]? = some c → Nw H D → Ex H H' → At H' D (.lst (F i)) → (F i).length < 100000 → Pair H' x H'' (.int (i : Nat)) (.str ⟨#[c]⟩) → g x τ H'' fun σ2 H2 => wipe σ2 vs = τ ∧ tt σ2 H2 fun b H3 =>
      if b = true then te σ2 H3 (rApp D (rW D fun ac H5 => Ex H H5 ∧ ac = F (i + 1))) else rW D (fun ac H5 => Ex H H5 ∧ ac = F (i + 1)) H3)
    (hd : ∀ D H', Nw H D → Ex H H' → At H' D (.lst (F z.cps.size)) → Q (.ref D) H') : rLcE [.str z] g tt te vs σ H Q :=
  ⟨z, rfl, lc_F fd_enumS F hF (fun _ _ => trivial) hz (fun D i H' x H'' hi hD e hp zz y => by
    obtain ⟨c, hc, y⟩ := y
    exact hs D i c x H' H'' hi hc hD e hp zz y) hd⟩
theorem lcEL_F {vs : List Nat} {a : Addr} {xs : List V} (F : Nat → List V) [hx : SqC K H a xs] [hw : Wipe σ vs τ] (hF : F 0 = []) (hz : ∀ i, i < xs.length → (F i).length < 100000)
    (hs : ∀ D (i : Nat) c x H' H'', xs[i]? = some c → Nw H D → Ex H H' → At H' D (.lst (F i)) → (F i).length < 100000 → Pair H' x H'' (.int (i : Nat)) c → g x τ H'' fun σ2 H2 => wipe σ2 vs = τ ∧ tt σ2 H2 fun b H3 =>
      if b = true then te σ2 H3 (rApp D (rW D fun ac H5 => Ex H H5 ∧ ac = F (i + 1))) else rW D (fun ac H5 => Ex H H5 ∧ ac = F (i + 1)) H3)
    (hd : ∀ D H', Nw H D → Ex H H' → At H' D (.lst (F xs.length)) → Q (.ref D) H') : rLcEL K [.ref a] g tt te vs σ H Q :=
  ⟨a, xs, rfl, hx.sq, lc_F fd_enum F hF (fun _ e => e.l hx.sq) hz (fun D i H' x H'' hi hD e hp zz y => by
    obtain ⟨c, hc, y⟩ := y
    exact hs D i c x H' H'' hc hD e hp zz y) hd⟩
theorem lcZ_F {vs : List Nat} {a b : Addr} {xs ys : List V} (n : Nat) (F : Nat → List V) [hx : SqC K H a xs] [hy : SqC K H b ys] (hn : min xs.length ys.length = n) [hw : Wipe σ vs τ] (hF : F 0 = []) (hz : ∀ i, i < n → (F i).length < 100000)
    (hs : ∀ D (i : Nat) c d x H' H'', i < n → xs[i]? = some c → ys[i]? = some d → Nw H D → Ex H H' → At H' D (.lst (F i)) → (F i).length < 100000 → Pair H' x H'' c d → g x τ H'' fun σ2 H2 => wipe σ2 vs = τ ∧ tt σ2 H2 fun b H3 =>
      if b = true then te σ2 H3 (rApp D (rW D fun ac H5 => Ex H H5 ∧ ac = F (i + 1))) else rW D (fun ac H5 => Ex H H5 ∧ ac = F (i + 1)) H3)
    (hd : ∀ D H', Nw H D → Ex H H' → At H' D (.lst (F n)) → Q (.ref D) H') : rLcZ K [.ref a, .ref b] g tt te vs σ H Q :=
  ⟨a, b, xs, ys, rfl, hx.sq, hy.sq, lc_F (fd_zip hn) F hF (fun _ e => ⟨e.l hx.sq, e.l hy.sq⟩) hz (fun D i H' x H'' hi hD e hp z y => by
    obtain ⟨c, d, h1, h2, y⟩ := y
    exact hs D i c d x H' H'' hi h1 h2 hD e hp z y) hd⟩
theorem lc1_A {vs : List Nat} {n : Int} (P : V → Prop) (hn : n ≤ 100000 ∧ -100000 ≤ n) [hw : Wipe σ vs τ]
    (hs : ∀ D (i : Nat) acc H', (i : Int) < n → Nw H D → Ex H H' → At H' D (.lst acc) → acc.length < 100000 → g (.int (i : Int)) τ H' fun σ2 H2 => wipe σ2 vs = τ ∧ tt σ2 H2 fun b H3 =>
      if b = true then te σ2 H3 (rApp D (rW D fun ac H5 => Ex H H5 ∧ ∃ v, ac = acc ++ [v] ∧ P v)) else rW D (fun ac H5 => Ex H H5 ∧ ∃ v, ac = acc ++ [v] ∧ P v) H3)
    (hd : ∀ D acc H', Nw H D → Ex H H' → At H' D (.lst acc) → acc.length = n.toNat → (∀ v ∈ acc, P v) → Q (.ref D) H') : rLc1 [.int n] g tt te vs σ H Q :=
  ⟨n, rfl, by omega, by omega, lc_A (fd_rng (lo := 0)) P (fun _ _ => trivial) (by omega) (fun D i acc H' x H'' hi hD e hp z y => by
    obtain ⟨rfl, rfl⟩ := y
    rw [Int.zero_add]
    exact hs D i acc _ (by omega) hD e hp z) hd⟩
theorem lcL_A {vs : List Nat} {a : Addr} {xs : List V} (P : V → Prop) [hx : SqC K H a xs] (hz : xs.length ≤ 100000) [hw : Wipe σ vs τ]
    (hs : ∀ D (i : Nat) x acc H', xs[i]? = some x → Nw H D → Ex H H' → At H' D (.lst acc) → acc.length < 100000 → g x τ H' fun σ2 H2 => wipe σ2 vs = τ ∧ tt σ2 H2 fun b H3 =>
      if b = true then te σ2 H3 (rApp D (rW D fun ac H5 => Ex H H5 ∧ ∃ v, ac = acc ++ [v] ∧ P v)) else rW D (fun ac H5 => Ex H H5 ∧ ∃ v, ac = acc ++ [v] ∧ P v) H3)
    (hd : ∀ D acc H', Nw H D → Ex H H' → At H' D (.lst acc) → acc.length = xs.length → (∀ v ∈ acc, P v) → Q (.ref D) H') : rLcL K (.ref a) g tt te vs σ H Q :=
  ⟨a, rfl, ⟨xs, hx.sq⟩, lc_A fd_list P (fun _ e => e.l hx.sq) hz (fun D i x' H' x H'' hi hD e hp z y => by
    obtain ⟨rfl, y⟩ := y
    exact hs D i x x' _ y hD e hp z) hd⟩
/-- _P: any invariant; what stood stands -/
theorem lcL_P {vs : List Nat} {a : Addr} {xs : List V} (Pv : Addr → Nat → List V → Hp → Prop) [hx : SqC K H a xs] [hw : Wipe σ vs τ] (h0 : ∀ D H1, Nw H D → Ex H H1 → At H1 D (.lst []) → Pv D 0 [] H1)
    (hs : ∀ D (i : Nat) x acc H', xs[i]? = some x → Nw H D → Ex H H' → At H' D (.lst acc) → Pv D i acc H' → g x τ H' fun σ2 H2 => wipe σ2 vs = τ ∧ tt σ2 H2 fun b H3 =>
      if b = true then te σ2 H3 (rApp D (rW D fun ac H5 => Ex H H5 ∧ Pv D (i + 1) ac H5)) else rW D (fun ac H5 => Ex H H5 ∧ Pv D (i + 1) ac H5) H3)
    (hd : ∀ D acc H', Nw H D → Ex H H' → At H' D (.lst acc) → Pv D xs.length acc H' → Q (.ref D) H') : rLcL K (.ref a) g tt te vs σ H Q :=
  ⟨a, rfl, ⟨xs, hx.sq⟩, lc_feeds fd_list [] Pv h0 (fun _ e => Ex.l e hx.sq) (fun D i acc H' x H'' hi hD e hp p y => by
    obtain ⟨rfl, y⟩ := y
    exact hs D i x acc _ y hD e hp p) hd⟩
theorem lc1_P {vs : List Nat} {n : Int} (bs : List Addr) (Pv : Addr → Nat → List V → Hp → Prop) (hn : -(2 ^ 62) ≤ n ∧ n < 2 ^ 62) [hw : Wipe σ vs τ] (h0 : ∀ D H1, Nw H D → Ex H H1 → At H1 D (.lst []) → Pv D 0 [] H1)
    (hs : ∀ D (i : Nat) acc H', (i : Int) < n → Nw H D → Chg bs H H' → At H' D (.lst acc) → Pv D i acc H' → g (.int (i : Int)) τ H' fun σ2 H2 => wipe σ2 vs = τ ∧ tt σ2 H2 fun b H3 =>
      if b = true then te σ2 H3 (rApp D (rW D fun ac H5 => Chg bs H H5 ∧ Pv D (i + 1) ac H5)) else rW D (fun ac H5 => Chg bs H H5 ∧ Pv D (i + 1) ac H5) H3)
    (hd : ∀ D acc H', Nw H D → Chg bs H H' → At H' D (.lst acc) → Pv D n.toNat acc H' → Q (.ref D) H') : rLc1 [.int n] g tt te vs σ H Q :=
  ⟨n, rfl, hn.1, hn.2, lc_feeds (fd_rng (lo := 0)) bs Pv h0 (fun _ _ => trivial) (fun D i acc H' x H'' hi hD e hp p y => by
    obtain ⟨rfl, rfl⟩ := y
    rw [Int.zero_add]
    exact hs D i acc _ (by omega) hD e hp p) hd⟩
theorem g_pair {H H' : Hp} {x a b : V} {u : TGs} {R : L2.St → Hp → Prop} (h : Pair H x H' a b) (q : ∀ T, Nw H T → Ex H H' → At H' T (.tup [a, b]) → u [a, b] σ H' R) : gTup K 2 u x σ H' R := by
  obtain ⟨T, rfl, h1, h2, h3⟩ := h
  exact ⟨T, _, rfl, .inl (.inl h3.eq), rfl, q T h1 h2 h3⟩
end
theorem rep_succ {i : Nat} : (List.replicate i true).map V.bl ++ [V.bl true] = (List.replicate (i + 1) true).map V.bl := by
  rw [List.replicate_succ', List.map_append]
  rfl
theorem rep_succD {i : Nat} {p : Prop} [Decidable p] (h : p) : (List.replicate i true).map V.bl ++ [V.bl (decide p)] = (List.replicate (i + 1) true).map V.bl := by
  rw [decide_eq_true h]
  exact rep_succ

section
variable {K : PySem.W.Frag} {σ : L2.St} {H : Hp} {R : L2.St → Hp → Prop} {v : V} {r : List V} {t : TG} {u : TGs}
instance : Step (gCons t u (v :: r) σ H R) (t v σ H fun σ' H' => u r σ' H' R) := ⟨fun q => ⟨v, r, rfl, q⟩⟩
instance : Step (gNil [] σ H R) (R σ H) := ⟨fun q => ⟨rfl, q⟩⟩
theorem g_gtup {a : Addr} {xs : List V} {n : Nat} [h : StC K H a xs] (hn : xs.length = n) (q : u xs σ H R) : gTup K n u (.ref a) σ H R := ⟨a, xs, rfl, h.st, hn, q⟩
end
theorem g_str {H : Hp} {Q : VK} {i : Int} (h : -(2 ^ 200) < i ∧ i < 2 ^ 200) (q : (Str.ofString (toString i)).length ≤ 1921 → Q (.str (toString i)) H) : rStr [V.int i] H Q := by
  have h2 : i.natAbs.log2 < 1920 := Nat.lt_of_lt_of_le (PySem.Flt.log2_lt_of (k := 200) (by decide) (by omega)) (by decide)
  exact ⟨i, rfl, h2, q (PyProof.Rows.int_text_len_1921 h2)⟩
theorem g_all {K : PySem.W.Frag} {H : Hp} {Q : VK} {a : Addr} {bs : List Bool} [h : SqC K H a (bs.map V.bl)] (q : Q (.bl (bs.all _root_.id)) H) : rAll K [V.ref a] H Q := ⟨a, bs, rfl, h.sq, q⟩
theorem g_allT {K : PySem.W.Frag} {H : Hp} {Q : VK} {a : Addr} {n : Nat} [h : SqC K H a ((List.replicate n true).map V.bl)] (q : Q (.bl true) H) : rAll K [V.ref a] H Q := ⟨a, _, rfl, h.sq, by simpa using q⟩
theorem g_sum {K : PySem.W.Frag} {H : Hp} {Q : VK} {a : Addr} {ns : List Int} [h : SqC K H a (ns.map V.int)] (q : Q (.int ns.sum) H) : rSum K [V.ref a] H Q := ⟨a, ns, rfl, h.sq, q⟩
theorem mulx128 {i j : Int} (h : -(2 ^ 300) < i ∧ i < 2 ^ 300) (h2 : -(2 ^ 300) < j ∧ j < 2 ^ 300) : CMulX i j := mulx_ok (a := 300) (b := 300) (by omega) (by omega) (by decide)
theorem q_int {H : Hp} {Q : VK} {a b : Int} (k : Q (.int a) H) (e : a = b) : Q (.int b) H := e ▸ k
theorem q_bl {H : Hp} {Q : VK} {a b : Bool} (k : Q (.bl a) H) (e : a = b) : Q (.bl b) H := e ▸ k
theorem q_dec {H : Hp} {Q : VK} {p : Prop} {_ : Decidable p} (k : Q (.bl true) H) (e : p) : Q (.bl (decide p)) H := by rw [decide_eq_true e]; exact k
theorem q_decN {H : Hp} {Q : VK} {p : Prop} {_ : Decidable p} (k : Q (.bl false) H) (e : ¬ p) : Q (.bl (decide p)) H := by rw [decide_eq_false e]; exact k
section
variable {K : PySem.W.Frag} {H : Hp} {Q : VK}
theorem g_isi {x c : V} {t u : Value} {b : Bool} (h1 : ClsV c u) (h2 : TyX K H x t) (h3 : PySem.W.kitOne K t u = some b) (q : Q (.bl b) H) : rIsi K [x, c] H Q := ⟨x, c, t, u, b, rfl, h1, h2, h3, q⟩
instance {i : Int} : Step (rIsi K [.int i, .ty "int"] H Q) (Q (.bl true) H) := ⟨g_isi (.ty _) (.base (.int i)) (kit_ty (by decide +kernel))⟩
instance {i : Int} : Step (rIsi K [.int i, .ty "bool"] H Q) (Q (.bl false) H) := ⟨g_isi (.ty _) (.base (.int i)) (kit_ty (by decide +kernel))⟩
instance {i : Bool} : Step (rIsi K [.bl i, .ty "int"] H Q) (Q (.bl true) H) := ⟨g_isi (.ty _) (.base (.bl i)) (kit_ty (by decide +kernel))⟩
instance {i : Bool} : Step (rIsi K [.bl i, .ty "bool"] H Q) (Q (.bl true) H) := ⟨g_isi (.ty _) (.base (.bl i)) (kit_ty (by decide +kernel))⟩
instance : Step (rIsi K [.non, .ty "int"] H Q) (Q (.bl false) H) := ⟨g_isi (.ty _) (.base .non) (kit_ty (by decide +kernel))⟩
instance : Step (rIsi K [.non, .ty "bool"] H Q) (Q (.bl false) H) := ⟨g_isi (.ty _) (.base .non) (kit_ty (by decide +kernel))⟩
instance {z : Str} : Step (rIsi K [.str z, .ty "str"] H Q) (Q (.bl true) H) := ⟨g_isi (.ty _) (.base (.str z)) (kit_ty (by decide +kernel))⟩
theorem g_isL {p : Addr} {xs : List V} [h : At H p (.lst xs)] (q : Q (.bl true) H) : rIsi K [.ref p, .ty "list"] H Q := g_isi (.ty _) (.base (.lst h.eq)) (kit_ty (by decide +kernel)) q
theorem g_isT {p : Addr} {xs : List V} [h : At H p (.tup xs)] (q : Q (.bl true) H) : rIsi K [.ref p, .ty "tuple"] H Q := g_isi (.ty _) (.base (.tup h.eq)) (kit_ty (by decide +kernel)) q
instance (priority := high) : Step (rInt [V.bl true] H Q) (Q (.int 1) H) := ⟨fun q => g_intB q⟩
instance (priority := high) : Step (rInt [V.bl false] H Q) (Q (.int 0) H) := ⟨fun q => g_intB q⟩
instance (priority := high) {p : Prop} [Decidable p] : Step (rInt [V.bl (decide p)] H Q) (Q (.int (if p then 1 else 0)) H) := ⟨fun q => g_intB (by
  by_cases h : p
  · rw [if_pos h] at q
    rw [decide_eq_true h]
    exact q
  · rw [if_neg h] at q
    rw [decide_eq_false h]
    exact q)⟩
end

/-! ### the same with the written part named (within a comprehension it must not speak of the block) -/
section
variable {X : Cx} {K : PySem.W.Frag}
theorem opAddK (h : X.K = K) : OpR X (binaryOp .Add) (rAdd K) := h ▸ opAdd
theorem opMulK (h : X.K = K) : OpR X (binaryOp .Mult) (rMul K) := h ▸ opMul
theorem opEqK (h : X.K = K) (hu : X.A.units + 64 < cLine) : OpR X (compareOp .Eq) (rEqX K) := h ▸ opEq hu
theorem opNeK (h : X.K = K) (hu : X.A.units + 64 < cLine) : OpR X (compareOp .NotEq) (rNeX K) := h ▸ opNe hu
theorem opInK (h : X.K = K) : OpR X (compareOp .In) (rIn K false) := h ▸ op_in_seq
theorem opNotInK (h : X.K = K) : OpR X (compareOp .NotIn) (rIn K true) := h ▸ op_notIn_seq
theorem ixSeqK (h : X.K = K) : IxR X (rIx K) := h ▸ ix_seq
theorem callLenK (h : X.K = K) : CallR X (.builtin "len") (rLen K) := h ▸ callLen
theorem callListOfK (h : X.K = K) : CallR X (.type "list") (rListOf K) := h ▸ callListOf
theorem slAnyK (h : X.K = K) : SlR X (rSlX K) := h ▸ slAny
theorem callSumK (h : X.K = K) (hc : X.calm = true) : CallR X (.builtin "sum") (rSum K) := h ▸ cr_sum hc
theorem callMinK (h : X.K = K) (hc : X.calm = true) : CallR X (.builtin "min") (rMin K) := h ▸ cr_min hc
theorem callMaxK (h : X.K = K) (hc : X.calm = true) : CallR X (.builtin "max") (rMax K) := h ▸ cr_max hc
theorem callAllK (h : X.K = K) (hc : X.calm = true) : CallR X (.builtin "all") (rAll K) := h ▸ cr_all hc
theorem callAnyK (h : X.K = K) (hc : X.calm = true) : CallR X (.builtin "any") (rAny K) := h ▸ cr_any hc
theorem callIsiK (h : X.K = K) : CallR X (.builtin "isinstance") (rIsi K) := h ▸ call_isi
theorem mtIndexK (h : X.K = K) : MtR X "list.index" (rIndex K) := h ▸ mt_index
variable {o e : Expr} {es : List Expr} {to : TE} {t : TA} {name : Str} {apos cpos : Pos} {T id : String} {r : V → List V → Hp → VK → Prop}
theorem pe_bm0K (h : X.K = K) (pa : PlainAttrs T) (slot : Slot T name id) (hty : typeOf (.builtin id) = pure (.type "method_descriptor")) (hm : MtR X id r) (ho : PE X o to)
    (hbase : attributeBase o name X.env (eval o X.env) = eval o X.env := by rfl) (hline : (apos.endLine == cpos.line) = true := by rfl) : PE X (.Call (.Attribute o name apos) [] [] cpos) (tBM0 K T r to) := h ▸ pe_bm0 pa slot hty hm ho hbase hline
theorem pe_bmK (h : X.K = K) (pa : PlainAttrs T) (slot : Slot T name id) (hty : typeOf (.builtin id) = pure (.type "method_descriptor")) (hm : MtR X id r) (ho : PE X o to) (ha : PA X (e :: es) t)
    (hbase : attributeBase o name X.env (eval o X.env) = eval o X.env := by rfl)
    (hfew : ((backTo cpos (starEach (e :: es) X.env)).all (fun x => !x.1) && (backToKw cpos (keywordEach [] X.env)).all (fun x => x.1.isSome)
      && decide ((e :: es).length + ([] : List Keyword).length + (if ([] : List Keyword).isEmpty then 0 else 1) < 30)) = true := by rfl)
    (hline : (apos.endLine == cpos.line) = true := by rfl) (hs : starEach (e :: es) X.env = (false, eval e X.env) :: starEach es X.env := by rfl) (hplain : (backTo cpos (starEach es X.env)).any (·.1) = false := by rfl) :
    PE X (.Call (.Attribute o name apos) (e :: es) [] cpos) (tBM K T r to t) := h ▸ pe_bm pa slot hty hm ho ha hbase hfew hline hs hplain
theorem pi_listK {tg l : Expr} {tl : TE} (h : X.K = K) (hl : PE X l tl) : PI X tg l (iList K tl) := h ▸ pi_list hl
end
theorem cdivW {j : Int} {i : Int} (h : 0 < j) (h2 : j < 2 ^ 200) : CDivW i j := wide_div (b := 200) h (by omega) (by decide) (by decide)

section
variable {K : PySem.W.Frag} {H : Hp} {Q : VK} {lo hi : Option Int}
theorem g_slL {p : Addr} {xs : List V} [h : SqC K H p xs] (q : ∀ p H2, Nw H p → Ex H H2 → At H2 p (.lst (cutV xs lo hi)) → Q (.ref p) H2) : rSlX K (.ref p) lo hi H Q :=
  .inl ⟨p, xs, rfl, h.sq, g_new q⟩
theorem g_slS {z : Str} (h : z.length ≤ 100000) (q : Q (.str (cutS z lo hi)) H) : rSlX K (.str z) lo hi H Q :=
  .inr (.inl ⟨z, rfl, Nat.le_trans h (by decide), q⟩)
theorem g_listOf {p : Addr} {xs : List V} [h : SqC K H p xs] (q : ∀ p H2, Nw H p → Ex H H2 → At H2 p (.lst xs) → Q (.ref p) H2) :
    rListOf K [V.ref p] H Q := ⟨p, xs, rfl, .inl h.sq, g_new q⟩
end
/-! ### texts over 0 and 1 -/
def bc (b : Bool) : Nat := if b then 49 else 48
theorem bc_inj {a b : Bool} (h : bc a = bc b) : a = b := by cases a <;> cases b <;> simp_all [bc]
def tx (l : List Bool) : Str := ⟨(l.map bc).toArray⟩
theorem tx_list (l : List Bool) : (tx l).cps.toList = l.map bc := by simp [tx]
theorem tx_len (l : List Bool) : (tx l).length = l.length := by simp [tx, Str.length]
theorem map_bc_inj : ∀ {a b : List Bool}, a.map bc = b.map bc → a = b
  | [], [], _ => rfl
  | [], _ :: _, h => by simp at h
  | _ :: _, [], h => by simp at h
  | x :: a, y :: b, h => by
    simp only [List.map_cons, List.cons.injEq] at h
    rw [bc_inj h.1, map_bc_inj h.2]
theorem str_ext {a b : Str} (h : a.cps.toList = b.cps.toList) : a = b := by
  obtain ⟨a⟩ := a
  obtain ⟨b⟩ := b
  congr 1
  exact Array.toList_inj.mp h
theorem tx_inj {a b : List Bool} (h : tx a = tx b) : a = b := map_bc_inj (by rw [← tx_list, ← tx_list, h])
theorem tx_eq {a b : List Bool} : tx a = tx b ↔ a = b := ⟨tx_inj, fun h => by rw [h]⟩
theorem tx_nil : tx [] = ("" : Str) := rfl
theorem tx_0 : tx [false] = ("0" : Str) := rfl
theorem tx_1 : tx [true] = ("1" : Str) := rfl
theorem tx_01 : tx [false, true] = ("01" : Str) := rfl
theorem tx_app (a b : List Bool) : tx a ++ tx b = tx (a ++ b) := by
  apply str_ext
  show ((tx a).cps ++ (tx b).cps).toList = _
  rw [Array.toList_append, tx_list, tx_list, tx_list, List.map_append]
theorem tx_rep1 (b : Bool) (n : Nat) : repS (tx [b]) n = tx (List.replicate n b) := by
  apply str_ext
  rw [tx_list]
  unfold repS
  simp only [tx_list, List.map_cons, List.map_nil, List.map_replicate]
  induction n with
  | zero => rfl
  | succ n ih => rw [List.replicate_succ, List.flatten_cons, List.replicate_succ]; simpa using ih
theorem tx_one (b : Bool) : tx [b] = ⟨#[bc b]⟩ := rfl
theorem tx_at {l : List Bool} {i c : Nat} (h : (tx l).cps[i]? = some c) : ∃ b, l[i]? = some b ∧ (⟨#[c]⟩ : Str) = tx [b] := by
  have h2 : (l.map bc)[i]? = some c := by rw [← tx_list, Array.getElem?_toList]; exact h
  rw [List.getElem?_map] at h2
  cases e : l[i]? with
  | none => rw [e] at h2; simp at h2
  | some b =>
    rw [e] at h2
    simp at h2
    exact ⟨b, rfl, by rw [tx_one, h2]⟩
theorem tx_atI {l : List Bool} {i : Int} {b : Bool} (h : atI l i = some b) : atI (tx l).cps.toList i = some (bc b) := by
  rw [tx_list]
  unfold atI at *
  rw [List.length_map]
  cases e : ixN l.length i with
  | none => rw [e] at h; simp at h
  | some j =>
    rw [e] at h
    show (l.map bc)[j]? = _
    rw [List.getElem?_map]
    have h' : l[j]? = some b := h
    rw [h']
    rfl
theorem tx_cut (l : List Bool) (lo hi : Option Int) : cutS (tx l) lo hi = tx ((l.drop (HT.sIx l.length 0 lo)).take (HT.sIx l.length l.length hi - HT.sIx l.length 0 lo)) := by
  apply str_ext
  unfold cutS
  rw [tx_list, tx_list, tx_len, List.map_take, List.map_drop]
theorem cnt_tx (b : Bool) (l : List Bool) : PyProof.Rows.cnt (bc b) (l.map bc) = (l.count b : Nat) := by
  induction l with
  | nil => rfl
  | cons x l ih =>
    rw [List.map_cons, PyProof.Rows.cnt_cons, ih, List.count_cons]
    cases b <;> cases x <;> simp [bc] <;> omega
theorem tx_count (l : List Bool) (b : Bool) : Txt.count (tx l) (tx [b]) = (l.count b : Nat) := by
  rw [← cnt_tx, ← tx_list]
  exact PyProof.Rows.count_is (tx l) (bc b)
theorem strSub_list (x : Str) (i j : Nat) : (Builtin.Str.strSub x i j).cps.toList = (x.cps.toList.drop i).take (j - i) := by
  unfold Builtin.Str.strSub
  rw [Array.toList_extract, List.extract_eq_take_drop]
theorem drop_tw {α : Type} (p : α → Bool) : ∀ l : List α, l.drop (l.takeWhile p).length = l.dropWhile p
  | [] => rfl
  | a :: r => by
    rw [List.takeWhile_cons, List.dropWhile_cons]
    split
    · rw [List.length_cons, List.drop_succ_cons, drop_tw p r]
    · rfl
theorem tx_lstrip0 (l : List Bool) : Txt.lstripChars (tx l) (tx [false]) = tx (l.dropWhile (! ·)) := by
  apply str_ext
  unfold Txt.lstripChars
  rw [PyProof.Rows.stripBy_eq, strSub_list, tx_list, tx_list]
  have hp : ∀ b, (tx [false]).cps.contains (bc b) = !b := by intro b; cases b <;> simp [tx, bc]
  have e1 : PySem.stripLo (tx [false]).cps.contains true (tx l) = (l.takeWhile (! ·)).length := by
    unfold PySem.stripLo
    simp only [if_true]
    rw [tx_list, List.takeWhile_map, List.length_map]
    congr 2
    funext b
    exact hp b
  have e2 : ∀ lo, PySem.stripHi (tx [false]).cps.contains false (tx l) lo = l.length := by
    intro lo
    unfold PySem.stripHi
    simp [tx_len]
  rw [e1, e2, ← List.map_drop, drop_tw, List.take_of_length_le]
  rw [List.length_map, ← drop_tw, List.length_drop]
  exact Nat.le_refl _
theorem tx_strip01 (l : List Bool) : Txt.stripChars (tx l) (tx [false, true]) = tx [] := by
  apply str_ext
  unfold Txt.stripChars
  rw [PyProof.Rows.stripBy_eq, strSub_list, tx_list]
  have hp : ∀ b, (tx [false, true]).cps.contains (bc b) = true := by intro b; cases b <;> simp [tx, bc]
  have e1 : PySem.stripLo (tx [false, true]).cps.contains true (tx l) = l.length := by
    unfold PySem.stripLo
    simp only [if_true]
    rw [tx_list, List.takeWhile_map, List.length_map]
    congr 1
    have hp' : ((tx [false, true]).cps.contains ∘ bc) = fun _ => true := by funext b; exact hp b
    rw [hp']
    clear hp hp'
    induction l with
    | nil => rfl
    | cons a l ih => rw [List.takeWhile_cons, if_pos rfl, ih]
  rw [e1, ← List.map_drop, List.drop_length, tx_list]
  simp
theorem tx_starts (l m : List Bool) : Txt.startswith (tx l) (tx m) = (l.take m.length == m) := by
  unfold Txt.startswith
  rw [tx_len, tx_len, Nat.zero_add]
  have e : Builtin.Str.subAt (tx l) (tx m) 0 = (l.take m.length == m) := by
    rw [Bool.eq_iff_iff]
    unfold Builtin.Str.subAt
    rw [beq_iff_eq, beq_iff_eq, ← Array.toList_inj, Array.toList_extract, List.extract_eq_take_drop, tx_list, tx_list, tx_len]
    simp only [List.drop_zero, Nat.zero_add, Nat.sub_zero]
    rw [← List.map_take]
    exact ⟨map_bc_inj, fun h => by rw [h]⟩
  rw [e]
  by_cases h : m.length ≤ l.length
  · simp [h]
  · have : ¬ (l.take m.length = m) := by
      intro q
      have := congrArg List.length q
      rw [List.length_take] at this
      omega
    simp [h, this]
theorem tx_join (ls : List (List Bool)) : Txt.join (tx []) (ls.map tx) = tx ls.flatten := by
  apply str_ext
  rw [tx_list]
  unfold Txt.join Builtin.Str.glued
  have h : ∀ (r : List (List Bool)) (acc : Array Nat), ((r.map tx).foldl (fun acc p => acc ++ (tx []).cps ++ p.cps) acc).toList = acc.toList ++ (r.flatten).map bc := by
    intro r
    induction r with
    | nil => intro acc; simp
    | cons x r ih =>
      intro acc
      rw [List.map_cons, List.foldl_cons, ih]
      simp [tx]
  cases ls with
  | nil => rfl
  | cons x r =>
    simp only [List.map_cons, List.drop_succ_cons, List.drop_zero, List.headD_cons]
    rw [h, tx_list]
    simp
/-! ### steps over texts of 0 and 1 -/
def rCnt : V → List V → Hp → VK → Prop := fun x xs H Q => ∃ a b, x = .str a ∧ xs = [.str b] ∧ Q (.int (Txt.count a b)) H
def rStarts : V → List V → Hp → VK → Prop := fun x xs H Q => ∃ a b, x = .str a ∧ xs = [.str b] ∧ Q (.bl (Txt.startswith a b)) H
def rStripC : V → List V → Hp → VK → Prop := fun x xs H Q => ∃ a b, x = .str a ∧ xs = [.str b] ∧ a.length ≤ sizeLine ∧ Q (.str (Txt.stripChars a b)) H
def rLstripC : V → List V → Hp → VK → Prop := fun x xs H Q => ∃ a b, x = .str a ∧ xs = [.str b] ∧ a.length ≤ sizeLine ∧ Q (.str (Txt.lstripChars a b)) H
def rJoin (K : PySem.W.Frag) : V → List V → Hp → VK → Prop := fun x xs H Q => ∃ a p, ∃ ys : List Str, x = .str a ∧ xs = [.ref p] ∧ (SqL K H p (ys.map V.str) ∨ SqT K H p (ys.map V.str)) ∧
    (ys.map (·.length)).sum + ys.length * a.length ≤ 16777216 ∧ Q (.str (Txt.join a ys)) H
section
variable {X : Cx} {K : PySem.W.Frag}
theorem mtCount : MtR X "str.count" rCnt := mt_count
theorem mtStarts : MtR X "str.startswith" rStarts := mt_startswith
theorem mtStripC : MtR X "str.strip" rStripC := mt_stripChars
theorem mtLstripC : MtR X "str.lstrip" rLstripC := mt_lstripChars
theorem mtJoinK (h : X.K = K) : MtR X "str.join" (rJoin K) := h ▸ mt_join
end
section
variable {K : PySem.W.Frag} {σ : L2.St} {H : Hp} {Q : VK} {l m : List Bool} {b : Bool}
theorem szT {n : Nat} (h : l.length ≤ n) (hn : n ≤ 100000 := by decide) : (tx l).length ≤ 100000 := by rw [tx_len]; omega
instance (priority := high) : Step (tC (.str ("0" : Str)) σ H Q) (Q (.str (tx [false])) H) := ⟨fun q => q⟩
instance (priority := high) : Step (tC (.str ("1" : Str)) σ H Q) (Q (.str (tx [true])) H) := ⟨fun q => q⟩
instance (priority := high) : Step (tC (.str ("" : Str)) σ H Q) (Q (.str (tx [])) H) := ⟨fun q => q⟩
instance (priority := high) : Step (tC (.str ("01" : Str)) σ H Q) (Q (.str (tx [false, true])) H) := ⟨fun q => q⟩
theorem g_addT (h : l.length + m.length ≤ 100000) (q : Q (.str (tx (l ++ m))) H) : rAdd K (.str (tx l)) (.str (tx m)) H Q := g_addS (by rw [tx_len, tx_len]; exact h) (by rw [tx_app]; exact q)
theorem g_mulT {n : Int} (h : n ≤ 100000 ∧ -100000 ≤ n) (q : Q (.str (tx (List.replicate n.toNat b))) H) : rMul K (.str (tx [b])) (.int n) H Q := by
  refine .inr (.inr (.inl ⟨tx [b], n, rfl, rfl, ⟨by omega, by omega, ?_⟩, ?_⟩))
  · rw [tx_len, List.length_singleton]; omega
  · rw [tx_rep1]; exact q
theorem g_lenT (h : l.length ≤ 100000) (q : Q (.int (l.length : Nat)) H) : rLen K [.str (tx l)] H Q := g_len (len_s (by rw [tx_len]; exact h)) (by rw [tx_len]; exact q)
instance (priority := high) : Step (rEqX K (.str (tx l)) (.str (tx m)) H Q) (Q (.bl (decide (l = m))) H) := ⟨fun q => g_eqS (by
  by_cases h : l = m
  · rw [decide_eq_true (tx_eq.mpr h)]; rw [decide_eq_true h] at q; exact q
  · rw [decide_eq_false (fun e => h (tx_inj e))]; rw [decide_eq_false h] at q; exact q)⟩
instance (priority := high) : Step (rNeX K (.str (tx l)) (.str (tx m)) H Q) (Q (.bl (!decide (l = m))) H) := ⟨fun q => g_neS (by
  by_cases h : l = m
  · rw [decide_eq_true (tx_eq.mpr h)]; rw [decide_eq_true h] at q; exact q
  · rw [decide_eq_false (fun e => h (tx_inj e))]; rw [decide_eq_false h] at q; exact q)⟩
instance : Step (rCnt (.str (tx l)) [.str (tx [b])] H Q) (Q (.int (l.count b : Nat)) H) := ⟨fun q => ⟨_, _, rfl, rfl, by rw [tx_count]; exact q⟩⟩
instance : Step (rStarts (.str (tx l)) [.str (tx m)] H Q) (Q (.bl (l.take m.length == m)) H) := ⟨fun q => ⟨_, _, rfl, rfl, by rw [tx_starts]; exact q⟩⟩
theorem g_lstrip0 (h : l.length ≤ 100000) (q : Q (.str (tx (l.dropWhile (! ·)))) H) : rLstripC (.str (tx l)) [.str (tx [false])] H Q :=
  ⟨_, _, rfl, rfl, Nat.le_trans (szT h) (by decide), by rw [tx_lstrip0]; exact q⟩
theorem g_strip01 (h : l.length ≤ 100000) (q : Q (.str (tx [])) H) : rStripC (.str (tx l)) [.str (tx [false, true])] H Q :=
  ⟨_, _, rfl, rfl, Nat.le_trans (szT h) (by decide), by rw [tx_strip01]; exact q⟩
theorem g_joinT {p : Addr} {ls : List (List Bool)} [hp : SqC K H p (ls.map fun l => V.str (tx l))] (hz : ls.flatten.length ≤ 100000) (q : Q (.str (tx ls.flatten)) H) : rJoin K (.str (tx [])) [.ref p] H Q := by
  refine ⟨tx [], p, ls.map tx, rfl, rfl, .inl (by rw [List.map_map]; exact hp.sq), ?_, by rw [tx_join]; exact q⟩
  rw [List.map_map, tx_len, List.length_nil, Nat.mul_zero, Nat.add_zero]
  have e : (ls.map (Str.length ∘ tx)).sum = ls.flatten.length := by
    rw [List.length_flatten]
    congr 1
    apply List.map_congr_left
    intro a _
    exact tx_len a
  have e2 : (ls.map ((fun x => x.length) ∘ tx)).sum = ls.flatten.length := e
  rw [e2]
  omega
theorem g_ixTx {i : Int} (hz : l.length ≤ 100000) (h : atI l i = some b) (q : Q (.str (tx [b])) H) : rIx K (.str (tx l)) (.int i) H Q :=
  .inr (.inr ⟨tx l, i, bc b, rfl, rfl, Nat.le_trans (szT hz) (by decide), tx_atI h, q⟩)
theorem atI_nat {α : Type} {l : List α} {n : Nat} {x : α} (h : l[n]? = some x) : atI l (n : Int) = some x := by
  unfold atI
  have hl := (List.getElem?_eq_some_iff.mp h).1
  have e : ixN l.length (n : Int) = some n := by
    unfold ixN
    rw [if_pos (by omega), if_pos (by omega)]
    simp
  rw [e]
  exact h
theorem g_slT {lo hi : Option Int} (h : l.length ≤ 100000) (q : Q (.str (tx ((l.drop (HT.sIx l.length 0 lo)).take (HT.sIx l.length l.length hi - HT.sIx l.length 0 lo)))) H) : rSlX K (.str (tx l)) lo hi H Q :=
  g_slS (szT h) (by rw [tx_cut]; exact q)
theorem tx_char {i c : Nat} (h : (tx l).cps[i]? = some c) : ∃ b, l[i]? = some b ∧ (⟨#[c]⟩ : Str) = tx [b] := tx_at h
theorem tx_size : (tx l).cps.size = l.length := tx_len l
end
theorem of_all {α : Type} {f : α → V} : ∀ {acc : List V}, (∀ v ∈ acc, ∃ x, v = f x) → ∃ xs : List α, acc = xs.map f
  | [], _ => ⟨[], rfl⟩
  | v :: r, h => by
    obtain ⟨x, hx⟩ := h v (List.mem_cons_self ..)
    obtain ⟨xs, e⟩ := of_all (fun u hu => h u (List.mem_cons_of_mem _ hu))
    exact ⟨x :: xs, by rw [hx, e]; rfl⟩
theorem take_snoc {α : Type} {l : List α} {i : Nat} {x : α} (h : l[i]? = some x) : l.take (i + 1) = l.take i ++ [x] := by
  rw [List.take_add_one, h]
  rfl
theorem take_map_snoc {α β : Type} {l : List α} {f : α → β} {i : Nat} {x : α} (h : l[i]? = some x) : (l.take i).map f ++ [f x] = (l.take (i + 1)).map f := by
  rw [take_snoc h, List.map_append]
  rfl
theorem map_at {α β : Type} {l : List α} {f : α → β} {i : Nat} {y : β} (h : (l.map f)[i]? = some y) : ∃ x, l[i]? = some x ∧ y = f x := by
  rw [List.getElem?_map] at h
  cases e : l[i]? with
  | none => rw [e] at h; simp at h
  | some x => rw [e] at h; simp at h; exact ⟨x, rfl, h.symm⟩
theorem g_cat {K : PySem.W.Frag} {H : Hp} {Q : VK} {l b : Addr} {xs zs : List V} [h1 : At H l (.lst xs)] [h2 : At H b (.lst zs)] (hz : xs.length + zs.length ≤ 100000) (q : ∀ p H2, Nw H p → Ex H H2 → At H2 p (.lst (xs ++ zs)) → Q (.ref p) H2) : rAdd K (.ref l) (.ref b) H Q :=
  .inr (.inr (.inl ⟨l, b, xs, zs, rfl, rfl, h1.eq, h2.eq, Nat.le_trans hz (by decide), g_new q⟩))
section
variable {X : Cx} {K : PySem.W.Frag} {e e2 : Expr} {ta : TA} {p pos tpos : Pos} {elts : List Expr} {kk : Nat}
theorem pi_zipK (h : X.K = K) (hg : Gl X "zip") (hm : X.mg "zip" = none) (ha : PA X [e, e2] ta)
    (hs : starEach [e, e2] X.env = (false, eval e X.env) :: starEach [e2] X.env := by rfl) (hpl : (backTo pos (starEach [e2] X.env)).any (·.1) = false := by rfl) :
    PI X (.Tuple elts kk tpos) (.Call (.Name "zip" p) [e, e2] [] pos) (iZip K ta) := h ▸ pi_zip hg hm ha hs hpl
theorem pi_enumK (h : X.K = K) (hg : Gl X "enumerate") (hm : X.mg "enumerate" = none) (ha : PA X [e] ta) (hs : starEach [e] X.env = [(false, eval e X.env)] := by rfl) :
    PI X (.Tuple elts kk tpos) (.Call (.Name "enumerate" p) [e] [] pos) (iEnum K ta) := h ▸ pi_enum hg hm ha hs
end
section
variable {K : PySem.W.Frag} {H : Hp} {Q : VK} {p : Addr} {xs acc : List V} {R : Prop}
instance [h : SqC K H p xs] : Step (rLen K [.ref p] H Q) (Q (.int (xs.length : Nat)) H) := ⟨g_len len_l⟩
instance (priority := high) {α : Type} {ns : List α} {f : α → V} [h : SqC K H p (ns.map f)] : Step (rLen K [.ref p] H Q) (Q (.int (ns.length : Nat)) H) := ⟨fun q => g_len len_l (by rw [List.length_map]; exact q)⟩
instance [h : StC K H p xs] : Step (rLen K [.ref p] H Q) (Q (.int (xs.length : Nat)) H) := ⟨g_len len_t⟩
instance [h : SqC K H p xs] : Step (tyV K "list" (.ref p) H ∧ R) R := ⟨g_tyL⟩
instance {P : List V → Hp → Prop} {D : Addr} [h : At H D (.lst acc)] : Step (rW D P H) (P acc H) := ⟨g_rW⟩
instance [h : At H p (.lst xs)] : Step (rIsi K [.ref p, .ty "list"] H Q) (Q (.bl true) H) := ⟨g_isL⟩
instance [h : At H p (.tup xs)] : Step (rIsi K [.ref p, .ty "tuple"] H Q) (Q (.bl true) H) := ⟨g_isT⟩
end
theorem cut1 {α : Type} {ds : List α} {f : α → V} : cutV (ds.map f) (some 1) none = (ds.drop 1).map f := by
  unfold cutV
  rw [show (some (1 : Int)) = some ((1 : Nat) : Int) from rfl, HT.sIx_nat, HT.sIx_none, List.length_map, List.map_drop]
  by_cases h : 1 ≤ ds.length
  · rw [Nat.min_eq_left h, List.take_of_length_le]
    simp
  · have e : ds = [] := List.length_eq_zero_iff.mp (by omega)
    subst e
    rfl
/-! ### lists and tuples of ints, compared -/
class IntsC (xs : List V) (ns : outParam (List Int)) : Prop where
  eq : xs = ns.map V.int
instance : IntsC [] [] := ⟨rfl⟩
instance {i : Int} {xs : List V} {ns : List Int} [h : IntsC xs ns] : IntsC (.int i :: xs) (i :: ns) := ⟨by rw [h.eq]; rfl⟩
instance {ns : List Int} : IntsC (ns.map V.int) ns := ⟨rfl⟩
instance {xs ys : List V} {ns ms : List Int} [h : IntsC xs ns] [k : IntsC ys ms] : IntsC (xs ++ ys) (ns ++ ms) := ⟨by rw [h.eq, k.eq, List.map_append]⟩
theorem dpInts {K : PySem.W.Frag} {H : Hp} : ∀ ns : List Int, DpAll K H (ns.map V.int) (ns.map PyData.int)
  | [] => .nil
  | n :: r => .cons (.int n) (dpInts r)
theorem eqInts : ∀ ns ms : List Int, PyData.eqvAll (ns.map PyData.int) (ms.map PyData.int) = decide (ns = ms)
  | [], [] => by simp [PyData.eqvAll]
  | [], _ :: _ => by simp [PyData.eqvAll]
  | _ :: _, [] => by simp [PyData.eqvAll]
  | n :: r, m :: t => by
    rw [List.map_cons, List.map_cons, PyData.eqvAll, eqInts r t]
    show ((n == m) && decide (r = t)) = _
    by_cases h : n = m <;> by_cases k : r = t <;> simp [h, k]
theorem layInts : ∀ ns : List Int, PyData.canLayAll0 (ns.map PyData.int) = true
  | [] => rfl
  | n :: r => by rw [List.map_cons, PyData.canLayAll0, layInts r]; rfl
theorem depInts : ∀ ns : List Int, PyData.depthAll (ns.map PyData.int) = 0
  | [] => rfl
  | n :: r => by rw [List.map_cons, PyData.depthAll, depInts r]; rfl
theorem shL (ns : List Int) : SeqAt.shaped (.list (ns.map PyData.int)) = true := by
  unfold SeqAt.shaped
  rw [PyData.canLay0, PyData.depth, layInts, depInts]
  rfl
theorem shT (ns : List Int) : SeqAt.shaped (.tuple (ns.map PyData.int)) = true := by
  unfold SeqAt.shaped
  rw [PyData.canLay0, PyData.depth, layInts, depInts]
  rfl
section
variable {K : PySem.W.Frag} {H : Hp} {Q : VK} {p q : Addr} {xs ys : List V} {ns ms : List Int}
instance [h : SqC K H p xs] [k : SqC K H q ys] [a : IntsC xs ns] [b : IntsC ys ms] : Step (rEqX K (.ref p) (.ref q) H Q) (Q (.bl (decide (ns = ms))) H) := ⟨fun z =>
  .inr ⟨_, _, .lst h.sq (by rw [a.eq]; exact dpInts ns), .lst k.sq (by rw [b.eq]; exact dpInts ms), shL ns, shL ms, by rw [PyData.eqv, eqInts]; exact z⟩⟩
instance [h : SqC K H p xs] [k : SqC K H q ys] [a : IntsC xs ns] [b : IntsC ys ms] : Step (rNeX K (.ref p) (.ref q) H Q) (Q (.bl (!decide (ns = ms))) H) := ⟨fun z =>
  .inr ⟨_, _, .lst h.sq (by rw [a.eq]; exact dpInts ns), .lst k.sq (by rw [b.eq]; exact dpInts ms), shL ns, shL ms, by rw [PyData.eqv, eqInts]; exact z⟩⟩
instance [h : StC K H p xs] [k : StC K H q ys] [a : IntsC xs ns] [b : IntsC ys ms] : Step (rEqX K (.ref p) (.ref q) H Q) (Q (.bl (decide (ns = ms))) H) := ⟨fun z =>
  .inr ⟨_, _, .tup h.st (by rw [a.eq]; exact dpInts ns), .tup k.st (by rw [b.eq]; exact dpInts ms), shT ns, shT ms, by rw [PyData.eqv, eqInts]; exact z⟩⟩
instance [h : StC K H p xs] [k : StC K H q ys] [a : IntsC xs ns] [b : IntsC ys ms] : Step (rNeX K (.ref p) (.ref q) H Q) (Q (.bl (!decide (ns = ms))) H) := ⟨fun z =>
  .inr ⟨_, _, .tup h.st (by rw [a.eq]; exact dpInts ns), .tup k.st (by rw [b.eq]; exact dpInts ms), shT ns, shT ms, by rw [PyData.eqv, eqInts]; exact z⟩⟩
end
theorem cutTo {α : Type} {ds : List α} {f : α → V} {n : Nat} : cutV (ds.map f) none (some (n : Int)) = (ds.take n).map f := by
  unfold cutV
  rw [HT.sIx_nat, HT.sIx_none, List.length_map, List.map_take, List.drop_zero, Nat.sub_zero]
  by_cases h : n ≤ ds.length
  · rw [Nat.min_eq_left h]
  · rw [Nat.min_eq_right (by omega), List.take_of_length_le (by simp), List.take_of_length_le (by simp; omega)]
theorem getD_mem {α : Type} {ns : List α} {i : Nat} {d : α} (h : i < ns.length) : ns.getD i d ∈ ns := by
  rw [List.getD_eq_getElem?_getD, List.getElem?_eq_getElem h, Option.getD_some]
  exact List.getElem_mem h
theorem getD_at {α : Type} {ns : List α} {i : Nat} {x d : α} (h : ns[i]? = some x) : ns.getD i d = x := by
  rw [List.getD_eq_getElem?_getD, h, Option.getD_some]
/-! ### xs[::-1], xs[k] = v, i in xs -/
section
variable {X : Cx} {K : PySem.W.Frag}
theorem pe_revLK (h : X.K = K) {e : Expr} {te : TE} {k : Nat} {p1 p2 p3 pos : Pos} (he : PE X e te) : PE X (.Subscript e (.Slice none none (some (.UnaryOp .USub (.Constant (.int 1) k p1) p2)) p3) pos) (tRevL K te) := h ▸ pe_revL he
variable {σ : L2.St} {H : Hp} {Q : VK} {p : Addr} {xs : List V} {ns : List Int} {te : TE}
def rRevL (K : PySem.W.Frag) (x : V) (H1 : Hp) (Q : VK) : Prop := ∃ a xs, x = .ref a ∧ SqL K H1 a xs ∧ ∀ p, H1 p = none → Q (.ref p) (upd H1 p (.lst xs.reverse))
instance : Step (tRevL K te σ H Q) (te σ H fun x H1 => rRevL K x H1 Q) := ⟨fun q => q⟩
theorem g_revL [h : SqC K H p xs] (q : ∀ p2 H2, Nw H p2 → Ex H H2 → At H2 p2 (.lst xs.reverse) → Q (.ref p2) H2) : rRevL K (.ref p) H Q := ⟨p, xs, rfl, h.sq, g_new q⟩
theorem ixN_nat {n i : Nat} (h : i < n) : ixN n (i : Int) = some i := by
  unfold ixN
  rw [if_pos (by omega), if_pos (by omega)]
  simp
theorem g_setI {k : Int} {v : Int} {R : Hp → Prop} [h : At H p (.lst (ns.map V.int))] (h0 : 0 ≤ k) (h1 : k < (ns.length : Int)) (q : ∀ H2, ExB p H H2 → At H2 p (.lst ((ns.set k.toNat v).map V.int)) → R H2) : rSetL (.ref p) (.int k) (.int v) H R := by
  obtain ⟨j, rfl⟩ : ∃ j : Nat, k = (j : Int) := ⟨k.toNat, by omega⟩
  refine g_set (j := j) (ixN_nat (by rw [List.length_map]; omega)) fun H2 e hp => q H2 e ?_
  rw [Int.toNat_natCast, List.map_set]
  exact hp
theorem inV_int {i : Int} : ∀ ns : List Int, inV (.int i) (ns.map V.int) = decide (i ∈ ns)
  | [] => by simp [inV]
  | n :: r => by
    have ih := inV_int (i := i) r
    unfold inV at *
    rw [List.map_cons, List.any_cons, ih]
    show ((n == i) || decide (i ∈ r)) = _
    rw [Bool.eq_iff_iff]
    simp only [Bool.or_eq_true, beq_iff_eq, decide_eq_true_eq, List.mem_cons]
    exact ⟨fun h => h.imp Eq.symm _root_.id, fun h => h.imp Eq.symm _root_.id⟩
theorem flat_ints : ∀ ns : List Int, (ns.map V.int).all flatV = true
  | [] => rfl
  | n :: r => by rw [List.map_cons, List.all_cons, flat_ints r]; rfl
instance {i : Int} [h : SqC K H p (ns.map V.int)] : Step (rIn K false (.int i) (.ref p) H Q) (Q (.bl (decide (i ∈ ns))) H) := ⟨fun q => ⟨p, _, rfl, .inl h.sq, rfl, flat_ints ns, by rw [if_neg Bool.false_ne_true, inV_int]; exact q⟩⟩
instance {i : Int} [h : SqC K H p (ns.map V.int)] : Step (rIn K true (.int i) (.ref p) H Q) (Q (.bl (!decide (i ∈ ns))) H) := ⟨fun q => ⟨p, _, rfl, .inl h.sq, rfl, flat_ints ns, by rw [if_pos rfl, inV_int]; exact q⟩⟩
theorem g_ixN {n : Nat} {v : V} [h : SqC K H p xs] (a : xs[n]? = some v) (q : Q v H) : rIx K (.ref p) (.int (n : Nat)) H Q := g_ixL (atI_nat a) q
theorem q_true {b : Bool} (k : Q (.bl b) H) (h : b = true) : Q (.bl true) H := h ▸ k
theorem q_false {b : Bool} (k : Q (.bl b) H) (h : b = false) : Q (.bl false) H := h ▸ k
end
theorem q_dec' {H : Hp} {Q : VK} {p : Prop} {_ : Decidable p} (k : Q (.bl (decide p)) H) (h : p) : Q (.bl true) H := by rw [decide_eq_true h] at k; exact k
theorem q_decN' {H : Hp} {Q : VK} {p : Prop} {_ : Decidable p} (k : Q (.bl (decide p)) H) (h : ¬ p) : Q (.bl false) H := by rw [decide_eq_false h] at k; exact k
theorem for1n {σ : L2.St} {H : Hp} {D : Ends} {tb : TS} {g : TG} {n : Int} (bs : List Addr) (Pv : Int → Nat → L2.St → Hp → Prop) (hn : -(2 ^ 62) ≤ n ∧ n < 2 ^ 62) (h0 : Pv n 0 σ H)
    (hs : ∀ (i : Nat) σ' H', (i : Int) < n → Chg bs H H' → Pv n i σ' H' → g (.int (i : Int)) σ' H' fun σ2 H2 => tb { D with nx := LI bs H (Pv n (i + 1)), ct := LI bs H (Pv n (i + 1)), bk := D.nx } σ2 H2)
    (hd : ∀ σ' H', Chg bs H H' → Pv n n.toNat σ' H' → D.nx σ' H') : rFor1 [.int n] g tb D σ H := for1 bs (Pv n) hn h0 hs hd
theorem cutFrom {α : Type} {ds : List α} {f : α → V} {n : Nat} : cutV (ds.map f) (some (n : Int)) none = (ds.drop n).map f := by
  unfold cutV
  rw [HT.sIx_nat, HT.sIx_none, List.length_map, List.map_drop]
  by_cases h : n ≤ ds.length
  · rw [Nat.min_eq_left h, List.take_of_length_le]
    simp
  · rw [Nat.min_eq_right (by omega), Nat.sub_self, List.take_zero, List.drop_eq_nil_of_le (by simp; omega)]
theorem getD_set {α : Type} {ds : List α} {p : Nat} {v d : α} (hp : p < ds.length) (i : Nat) : (ds.set p v).getD i d = if i = p then v else ds.getD i d := by
  rw [List.getD_eq_getElem?_getD, List.getElem?_set]
  by_cases e : p = i
  · subst e
    simp [hp]
  · rw [if_neg e, if_neg (fun z => e z.symm), List.getD_eq_getElem?_getD]
theorem cutB_from {α : Type} {l : List α} {n : Nat} : (l.drop (HT.sIx l.length 0 (some (n : Int)))).take (HT.sIx l.length l.length none - HT.sIx l.length 0 (some (n : Int))) = l.drop n := by
  rw [HT.sIx_nat, HT.sIx_none]
  by_cases h : n ≤ l.length
  · rw [Nat.min_eq_left h, List.take_of_length_le]
    simp
  · rw [Nat.min_eq_right (by omega), Nat.sub_self, List.take_zero, List.drop_eq_nil_of_le (by omega)]
theorem cutB_1 {α : Type} {l : List α} : (l.drop (HT.sIx l.length 0 (some 1))).take (HT.sIx l.length l.length none - HT.sIx l.length 0 (some 1)) = l.drop 1 := cutB_from (n := 1)
theorem cutB_to {α : Type} {l : List α} {n : Nat} : (l.drop (HT.sIx l.length 0 none)).take (HT.sIx l.length l.length (some (n : Int)) - HT.sIx l.length 0 none) = l.take n := by
  rw [HT.sIx_nat, HT.sIx_none, List.drop_zero, Nat.sub_zero]
  by_cases h : n ≤ l.length
  · rw [Nat.min_eq_left h]
  · rw [Nat.min_eq_right (by omega), List.take_of_length_le (Nat.le_refl _), List.take_of_length_le (by omega)]
theorem g_inT {K : PySem.W.Frag} {H : Hp} {Q : VK} {p : Addr} {xs : List V} {x : V} {neg b : Bool} [h : StC K H p xs] (hf : flatV x = true) (hx : xs.all flatV = true) (hb : inV x xs = b) (q : Q (.bl (if neg then !b else b)) H) : rIn K neg x (.ref p) H Q :=
  ⟨p, xs, rfl, .inr h.st, hf, hx, by rw [hb]; exact q⟩
theorem g_inL {K : PySem.W.Frag} {H : Hp} {Q : VK} {p : Addr} {xs : List V} {x : V} {neg b : Bool} [h : SqC K H p xs] (hf : flatV x = true) (hx : xs.all flatV = true) (hb : inV x xs = b) (q : Q (.bl (if neg then !b else b)) H) : rIn K neg x (.ref p) H Q :=
  ⟨p, xs, rfl, .inl h.sq, hf, hx, by rw [hb]; exact q⟩
end Gx

set_option linter.all false
set_option maxRecDepth 100000
set_option maxHeartbeats 2000000
/-! Gd: data compared at any depth. -/
namespace Gx
open PySem PySem.Spec PyProof.Rows L2
section
variable {K : PySem.W.Frag} {H : Hp} {Q : VK} {x y : V} {xs ys : List V} {d e : PyData} {ds es : List PyData} {p : Addr}
class DatC (K : PySem.W.Frag) (H : Hp) (x : V) (d : outParam PyData) : Prop where
  dp : Dp K H x d
class DatsC (K : PySem.W.Frag) (H : Hp) (xs : List V) (ds : outParam (List PyData)) : Prop where
  dp : DpAll K H xs ds
instance : DatC K H .non .none := ⟨.non⟩
instance {b : Bool} : DatC K H (.bl b) (.bool b) := ⟨.bl b⟩
instance {i : Int} : DatC K H (.int i) (.int i) := ⟨.int i⟩
instance {z : Str} : DatC K H (.str z) (.str z) := ⟨.str z⟩
instance [h : SqC K H p xs] [k : DatsC K H xs ds] : DatC K H (.ref p) (.list ds) := ⟨.lst h.sq k.dp⟩
instance [h : StC K H p xs] [k : DatsC K H xs ds] : DatC K H (.ref p) (.tuple ds) := ⟨.tup h.st k.dp⟩
instance : DatsC K H [] [] := ⟨.nil⟩
instance [h : DatC K H x d] [k : DatsC K H xs ds] : DatsC K H (x :: xs) (d :: ds) := ⟨.cons h.dp k.dp⟩
instance {ns : List Int} : DatsC K H (ns.map V.int) (ns.map PyData.int) := ⟨dpInts ns⟩
theorem g_eqD {b : Bool} [h : DatC K H x d] [k : DatC K H y e] (hd : SeqAt.shaped d = true) (he : SeqAt.shaped e = true) (hb : PyData.eqv d e = b) (q : Q (.bl b) H) : rEqX K x y H Q :=
  .inr ⟨_, _, h.dp, k.dp, hd, he, by rw [hb]; exact q⟩
theorem g_neD {b : Bool} [h : DatC K H x d] [k : DatC K H y e] (hd : SeqAt.shaped d = true) (he : SeqAt.shaped e = true) (hb : PyData.eqv d e = b) (q : Q (.bl (!b)) H) : rNeX K x y H Q :=
  .inr ⟨_, _, h.dp, k.dp, hd, he, by rw [hb]; exact q⟩
end
theorem g_ixIN {K : PySem.W.Frag} {H : Hp} {Q : VK} {p : Addr} {ns : List Int} {n : Nat} [h : SqC K H p (ns.map V.int)] (h1 : n < ns.length) (q : Q (.int (ns.getD n 0)) H) : rIx K (.ref p) (.int (n : Nat)) H Q :=
  g_ixI (by omega) (by omega) (by rw [Int.toNat_natCast]; exact q)
def rIsB : R2 := fun x y H Q => ∃ c d, x = .bl c ∧ y = .bl d ∧ Q (.bl (c == d)) H
def rNotB : R2 := fun x y H Q => ∃ c d, x = .bl c ∧ y = .bl d ∧ Q (.bl (c != d)) H
theorem op_isB {X : Cx} : OpR X (compareOp .Is) rIsB := by
  intro pins s σ H x y v u Q I rx ry h
  obtain ⟨c, d, rfl, rfl, q⟩ := h
  cases rx
  cases ry
  exact is_bool (fin_bl I q rfl)
theorem op_notB {X : Cx} : OpR X (compareOp .IsNot) rNotB := by
  intro pins s σ H x y v u Q I rx ry h
  obtain ⟨c, d, rfl, rfl, q⟩ := h
  cases rx
  cases ry
  exact isnot_bool (fin_bl I q rfl)
instance {H : Hp} {Q : VK} {c d : Bool} : Step (rIsB (.bl c) (.bl d) H Q) (Q (.bl (c == d)) H) := ⟨fun q => ⟨c, d, rfl, rfl, q⟩⟩
instance {H : Hp} {Q : VK} {c d : Bool} : Step (rNotB (.bl c) (.bl d) H Q) (Q (.bl (c != d)) H) := ⟨fun q => ⟨c, d, rfl, rfl, q⟩⟩
theorem sh2 {x y : Str} (hx : PyData.strOk x = true) (hy : PyData.strOk y = true) : SeqAt.shaped (.tuple [.str x, .str y]) = true := by
  simp [SeqAt.shaped, PyData.canLay0, PyData.canLayAll0, PyData.depth, PyData.depthAll, hx, hy]
theorem ev2 {x y z w : Str} : PyData.eqv (.tuple [.str x, .str y]) (.tuple [.str z, .str w]) = ((x == z) && (y == w)) := by
  simp [PyData.eqv, PyData.eqvAll]
theorem ev2_t {x y : Str} : PyData.eqv (.tuple [.str x, .str y]) (.tuple [.str x, .str y]) = true := by rw [ev2]; simp
theorem ev2_f {x y z w : Str} (h : x ≠ z) : PyData.eqv (.tuple [.str x, .str y]) (.tuple [.str z, .str w]) = false := by
  rw [ev2, show (x == z) = false from by simpa using h]; rfl
section
variable {σ : L2.St} {H : Hp} {g : TG} {tb : TS} {D : Ends}
theorem forS {z : Str} (bs : List Addr) (Pv : Nat → L2.St → Hp → Prop) (h0 : Pv 0 σ H)
    (hs : ∀ (i : Nat) c x σ' H', i < z.cps.size → z.cps[i]? = some c → x = .str ⟨#[c]⟩ → Chg bs H H' → Pv i σ' H' → g x σ' H' fun σ2 H2 => tb { D with nx := LI bs H (Pv (i + 1)), ct := LI bs H (Pv (i + 1)), bk := D.nx } σ2 H2)
    (hd : ∀ σ' H', Chg bs H H' → Pv z.cps.size σ' H' → D.nx σ' H') : rForS (.str z) g tb D σ H :=
  ⟨z, rfl, for_feeds fd_str bs Pv h0 (fun _ _ => trivial) (fun i σ' H' x H'' hi r p y => by
    obtain ⟨rfl, c, hc, rfl⟩ := y
    exact hs i c _ σ' _ hi hc rfl r p) hd⟩
end
end Gx

set_option linter.all false
set_option maxRecDepth 100000
set_option maxHeartbeats 2000000
namespace Gx
open PySem PySem.Spec PyProof.Rows L2
/-! ### an own exception class over ValueError whose __init__ begins with super().__init__(e) -/
section
open PySem.W PySem.Calls PyProof.Rows
variable {prog : Program} {w : World} {A : Around} {E : Value → Shared → Prop} {h : Heap} {g : Array GenState} {d : Drawn} {t : Nat} {os : OsState}
variable {nm q : Str} {C N : Addr} {bs bm : List Value} {hdct : Bool} {sn : List Str} {sub : List Value} {ab : Bool} {col : Option Bool} {dd : Option Addr} {k0 k1 k2 k3 k5 : Option Value}
theorem call_mw {u e t0 : Addr} {rest : List Value} {Q : Value → Shared → Prop}
    (hC : h.get? C = some (excClassObj nm q C N bs bm hdct sn sub ab col dd k0 k1 k2 k3 k5 "ValueError.__new__")) (he : h.get? e = some (HandSPX.excO C t0)) (hu : h.get? u = some (kxs_mw "ValueError.__init__" e)) (hrest : rest.length ≤ sizeLine)
    (hq : ∀ h' t1, (∀ b o, b ≠ e → h.get? b = some o → h'.get? b = some o) → h'.get? e = some (HandSPX.excO C t1) → Q .none ⟨h', g, d, t, os⟩) :
    wpAny (model prog w) A (call (.ref u) rest) Q E ⟨h, g, d, t, os⟩ := by
  refine wpAny_call (codeAny_of_tree ?_)
  show wpAny _ A.in1 (callAny (.ref u) ⟨rest, []⟩) _ _ _
  simp only [callAny]
  refine wpAny_bind (wpAny_load hu ?_)
  simp only [kxs_mw, show (Value.type "method-wrapper" == Value.type "method" || Value.type "method-wrapper" == Value.type "builtin_function_or_method" || Value.type "method-wrapper" == Value.type "method-wrapper") = true by decide, if_true]
  refine W.KFB.if_so (by decide) ?_
  refine wpAny_bind (ESX.check_bound F.excBase_ValueError hC he rfl ?_)
  refine wpAny_bind (wpAny_pure (wpAny_pure ?_))
  refine ⟨Code.quiet_builtin _ (by decide +kernel), codeAny_builtin F.excBase_ValueError.initEntry ?_⟩
  rw [Around.under_plainId F.excBase_ValueError.init.plain _]
  wp_walk
  refine hq _ h.objs.size (fun b o hb ho => ?_) ?_
  · rw [Heap.get?_update_other _ _ (Ne.symm hb)]
    exact Heap.get?_push_of_some _ ho
  · rw [Heap.get?_update_self _ (Heap.get?_push_of_some _ he) rfl]
    rfl
end
section
open PySem.W PySem.Calls PyProof.Rows NdefX
theorem look1 {x y : Str} {c c' : Addr} (h : ([(x, c)] : List (Str × Addr)).lookup y = some c') : y = x ∧ c' = c := by
  unfold List.lookup at h
  split at h
  · rename_i e
    exact ⟨eq_of_beq e, (Option.some.inj h).symm⟩
  · simp at h
/-- what the written part says of an __init__ (at f, of the class at D) that says super() -/
structure SupF (P : Program) (K : Frag) (mg : Str → Option Value) (f D : Addr) (qual : Str) (st : Stmt) (ps : List Str) (fd : FuncData) : Prop where
  ex : ∃ (c cc : Addr) (oc doc pm ct cl ccl : Value) (od cld cdd : Option Addr) (osl csl ccs : Array (Option Value)) (vs : Array Value) (file : Str) (tf : Tok) (cdD : ClassData),
    fd = fnX "__init__" qual (defArgs st) (defBody st) (defScope st) [("__class__", cc)] .none .none doc pm none (.ref c) ct ∧ K.lookup f = some ⟨oc, od, .func fd, osl⟩ ∧ codeIn K (.ref c) qual = true ∧
    K.lookup c = some ⟨ccl, cdd, .fields vs, ccs⟩ ∧ vs[2]? = some (.str file tf) ∧ ((P.main.file : Str) == file) = true ∧ K.lookup cc = some ⟨cl, cld, .cell (some (.ref D)), csl⟩ ∧ clsIn K D = some cdD
  nsup : mg "super" = none
  top : (P.main.scope.names.lookup ("super" : Str)).isSome = false
  opq : nsIn K cStatics "thirdparty.any" = some none
/-- .. of the class C whose instance it is given -/
structure SupC (K : Frag) (C D : Addr) : Prop where
  oex : OexC K C
  mro : mroIn K C (.ref D) = some true
  sup : ks_superIn K C D "__init__" = some (some (.builtin "ValueError.__init__"))
  sub : subIn K (.ref C) (.type "ValueError") = some true
variable {P : Program} {w : World} {K : Frag} {mg : Str → Option Value} {base : Heap} {k : Nat} {N ps : List Str} {f D : Addr} {qual : Str} {st : Stmt} {fd : FuncData} {sp : Sp}
theorem sup_ok {e : Expr} {rest : List Stmt} {p0 p1 p2 p3 p4 : Pos} {self : Str} {ar : Arg} (F : SupF P K mg f D qual st ps fd) (S : NScope N ps ["__class__"] (defScope st))
    (hbody : defBody st = .Expr (.Call (.Attribute (.Call (.Name "super" p0) [] [] p1) "__init__" p2) [e] [] p3) p4 :: rest)
    (hps : ps.head? = some self) (har : ((defArgs st).posonlyargs ++ (defArgs st).args).head? = some ar) (hself : ar.arg = self) (hks : (defScope st).names.lookup ("super" : Str) = some .globalImplicit)
    (hb : ∀ (c cc : Addr) (doc pm ct : Value) (us : List Value), us.length = ps.length → bindArgs (fnX "__init__" qual (defArgs st) (defBody st) (defScope st) [("__class__", cc)] .none .none doc pm none (.ref c) ct) ⟨us, []⟩ = pure (ps.zip us))
    (hsw : ∀ (c cc f L : Addr), swapsWith (.Call (.Attribute (.Call (.Name "super" p0) [] [] p1) "__init__" p2) [e] [] p3) none p4.line (envX qual (defScope st) L f (.ref c) [("__class__", cc)]) = pure false)
    (hin : ∀ (c cc f L : Addr), interactive (envX qual (defScope st) L f (.ref c) [("__class__", cc)]) = false)
    (hev : ∀ (c cc f L : Addr), ∃ pl : Sem Bool, eval (.Call (.Attribute (.Call (.Name "super" p0) [] [] p1) "__init__" p2) [e] [] p3) (envX qual (defScope st) L f (.ref c) [("__class__", cc)]) = (do
      let ov ← attributeBase (.Call (.Name "super" p0) [] [] p1) "__init__" (envX qual (defScope st) L f (.ref c) [("__class__", cc)]) (eval (.Call (.Name "super" p0) [] [] p1) (envX qual (defScope st) L f (.ref c) [("__class__", cc)]))
      standAt p2.atName
      let (f', first) ← holding [ov] (getMethod ov "__init__" pl)
      callWith p3 f' first (backTo p3 (starEach [e] (envX qual (defScope st) L f (.ref c) [("__class__", cc)]))) []))
    (hst : ∀ (c cc f L : Addr), starEach [e] (envX qual (defScope st) L f (.ref c) [("__class__", cc)]) = [(false, eval e (envX qual (defScope st) L f (.ref c) [("__class__", cc)]))])
    (len : ∀ vs H Q E, sp vs H Q E → vs.length = ps.length)
    (hread : ∀ (c cc : Addr) (A : Around) (outer : List Env) (s : Shared) (H : Hp) (vs : List V) (Q : VK) (E : XK), Room k (A.deeper (envX qual (defScope st) s.heap.objs.size f (.ref c) [("__class__", cc)])) → sp vs H Q E →
      ∃ ta ts a C r, PA (ncx CX0 P w K mg base N ⟨"__init__", qual, defArgs st, defBody st, defScope st, [("__class__", cc)], c⟩ f A outer s H E) [e] ta ∧ PSs (ncx CX0 P w K mg base N ⟨"__init__", qual, defArgs st, defBody st, defScope st, [("__class__", cc)], c⟩ f A outer s H E) rest ts ∧
        vs = .ref a :: r ∧ SupC K C D ∧ H a = some (exo a C none) ∧ ta (startF N vs [none]) H fun zs H1 => zs.length ≤ 1000 ∧ H1 a = some (exo a C none) ∧ ts { nx := fun _ H' => Q .non H', rt := Q } (startF N vs [none]) H1) :
    FnOk P w K mg base CX0 (k + 1) f fd ps sp := by
  obtain ⟨c, cc, oc, doc, pm, ct, cl, ccl, od, cld, cdd, osl, csl, ccs, vv, file, tf, cdD, rfl, lk, hcd, lc, hv2, hfile, lcc, hD⟩ := F.ex
  refine ⟨len, fun A outer s H args us vs Q E hr e0 hbd r hsp => ?_⟩
  have KX : K.In s.heap := e0.mod.kin.keeps fun b o e => (e0.bs b o e).1
  have hl := len _ _ _ _ hsp
  have lim : s.heap.NoLimit := e0.mod.nolimit.keeps fun b o e => (e0.bs b o e).1
  have hcc : H cc = none := (e0.bs cc _ (e0.mod.kin _ _ lcc)).2
  have CA : CellsAt [("__class__", cc)] ["__class__"] [none] s.heap H := by
    refine ⟨rfl, fun y c' hy => ?_, fun x y c' hx hy => ?_, fun i y hy => ?_⟩
    · obtain ⟨_, rfl⟩ := look1 hy
      exact ⟨hcc, _, _, KX _ _ lcc, rfl⟩
    · rw [(look1 hx).1, (look1 hy).1]
    · cases i with
      | zero => simp at hy; subst hy; exact ⟨cc, rfl, fun v hv => by simp at hv⟩
      | succ i => simp at hy
  refine ks_codeAny_call_defAt (body := defBody st) (binds := ps.zip us) hr.depth (KX _ _ lk) rfl lim (codeRec_of KX hcd) rfl hbd S.nocell (fun ⟨n, v⟩ hy => S.par n (List.of_mem_zip hy).1) (fun h₁ hns kp => ?_) S.co S.gen S.kind
  obtain ⟨ta, ts, a, C, r', pa, ps', rfl, SC, ha, hq⟩ := hread c cc A outer s H vs Q E (hr.deeper _) hsp
  have I : Inv (ncx CX0 P w K mg base N ⟨"__init__", qual, defArgs st, defBody st, defScope st, [("__class__", cc)], c⟩ f A outer s H E) [] (startF N (.ref a :: r') [none]) H { s with heap := h₁, toks := s.toks + (ps.zip us).length } := inv_startN S hr.hd e0 hl r CA hns kp
  show _root_.PySem.wpAt (model P w) (A.deeper (envX qual (defScope st) s.heap.objs.size f (.ref c) [("__class__", cc)])) (.func (defBody st) (envX qual (defScope st) s.heap.objs.size f (.ref c) [("__class__", cc)])) (execs (defBody st) (envX qual (defScope st) s.heap.objs.size f (.ref c) [("__class__", cc)])) _ _ _
  rw [hbody]
  obtain ⟨pl, hev'⟩ := hev c cc f s.heap.objs.size
  refine ks_wpAt_execs_cons (ks_wpAt_Expr_any (ks_wpAt_MethodCall (pl := pl) ?_ hev') (hin c cc f s.heap.objs.size) (hsw c cc f s.heap.objs.size))
  obtain ⟨tC, hoe⟩ := exo_at I.hok ha
  have XI : K.In h₁ := KX.keeps kp
  obtain ⟨oD, hD1, hD2⟩ : ∃ oD, h₁.get? D = some oD ∧ oD.data = .cls cdD := by
    unfold clsIn at hD
    split at hD
    · rename_i c d cd' sl ho
      cases hD
      exact ⟨_, XI _ _ ho, rfl⟩
    · cases hD
  have IA : InstAt h₁ a { cls := .ref C, dict := none, data := .fields #[.ref tC, .none, .none, .none, .bool false, .none] } C none := ⟨hoe, rfl, rfl, trivial⟩
  obtain ⟨mb, hmb, hmbv⟩ := I.mod.blt
  have hself' : (fun y => (ps.zip us).reverse.lookup y) ar.arg = some (.ref a) := by
    have ndP : ps.Nodup := by
      have q := S.nd.sublist (List.take_sublist (ps.length + 1) N)
      have e1 := S.pre
      rw [show (["__class__"] : List Str).length = 1 from rfl] at e1
      rw [e1] at q
      exact (List.nodup_append.mp q).1
    cases r with
    | @cons _ u0 _ ur ra rw' =>
      obtain rfl : u0 = Value.ref a := ra
      refine zip_look (i := 0) ndP ?_ rfl
      rw [hself]
      cases ps with
      | nil => simp at hps
      | cons x y => simpa using hps
  refine ks_wpAt_super_base (env := envX qual (defScope st) s.heap.objs.size f (.ref c) [("__class__", cc)]) hks (S.frk _ (by simp)) rfl rfl (XI _ _ lk) rfl har rfl (XI _ _ lc) rfl hv2 hfile F.top ?_
  refine ks_loadName_global S.kind hks (loadGlobal_builtin (env := envX qual (defScope st) s.heap.objs.size f (.ref c) [("__class__", cc)]) (I.mod.glob.keeps I.bk) F.nsup (hmb.keeps I.bk) ((hmbv _ (by decide)).trans PyProof.Rows.Boot.«super») ⟨rfl, ?_⟩)
  refine wpAny_loadName_free S.kind (S.frk _ (by simp)) rfl ⟨_, XI _ _ lcc, rfl⟩ ?_
  refine wpAny_loadName_local S.kind (S.par _ (by rw [hself]; exact List.mem_of_mem_head? hps)) hns hself' ?_
  refine ks_wpAny_isType_cls hD1 hD2 ⟨rfl, ?_⟩
  refine ks_wpAny_call_super hD1 hD2 IA.at_ IA.cls (fun c e => by cases e) (looks_mroIn XI SC.mro) (fun h' eS k' => ?_)
  have X' : K.In h' := XI.keeps k'
  have hlt : h₁.objs.size < h'.objs.size := Heap.lt_size eS
  have IA' : InstAt h' a { cls := .ref C, dict := none, data := .fields #[.ref tC, .none, .none, .none, .bool false, .none] } C none := ⟨k' _ _ hoe, rfl, rfl, trivial⟩
  have hsup := SC.sup
  cases hc : clsIn K C with
  | none => unfold ks_superIn at hsup; rw [hc] at hsup; cases hsup
  | some cd =>
  unfold ks_superIn at hsup
  rw [hc] at hsup
  have hI : Looks (model P w) h' (isInstance (.ref a) (.type "ValueError")) true := IA'.type.andThen (looks_subIn X' SC.sub)
  refine kxs_getMethod kxs_ValueError eS (looks_opaque X' F.opq) (l₀ := cd.mro) (fun A Q E s k q => wpAny_bind ((looks_clsIn X' hc) A _ E s k (wpAny_pure q))) rfl X' hsup hI (ks_ne X' IA' hc) rfl ?_
  have hk2 : ∀ b o, h₁.get? b = some o → (h'.push (kxs_mw "ValueError.__init__" a)).get? b = some o := fun b o z => Heap.get?_push_of_some _ (k' b o z)
  have hu : (h'.push (kxs_mw "ValueError.__init__" a)).get? h'.objs.size = some (kxs_mw "ValueError.__init__" a) := Heap.get?_push_at rfl rfl
  have I2 := ClX.pin_new (t' := s.toks + (ps.zip us).length + 1) (a := h'.objs.size) I hk2 (Nat.le_of_lt hlt) hu (fun v z => by cases z)
  have hpa := pa.run p3 _ _ _ _ _ I2 hq
  have hst' := hst c cc f s.heap.objs.size
  have hpa : wpAny (model P w) (A.deeper (envX qual (defScope st) s.heap.objs.size f (.ref c) [("__class__", cc)])) (spliced (backTo p3 (starEach [e] (envX qual (defScope st) s.heap.objs.size f (.ref c) [("__class__", cc)])))) _ _ _ := hpa
  rw [hst'] at hpa ⊢
  refine kxs_callWith (i := "ValueError.__init__") (x := a) rfl (evalArgs_plain (wpAny_mono hpa (fun us1 s1 hz => ?_) fun _ _ z => z))
  obtain ⟨zs, H1, I3, r1, hz1, ha1, hq1⟩ := hz
  have hu1 := ClX.pin_at I3
  obtain ⟨t1, ho1⟩ := exo_at I3.hok ha1
  obtain ⟨nm, q, N', bs, bm, sn, sub, ab, col, dd, k0, k1, k2, k3, k5, hC, hbm⟩ := SC.oex.cls
  refine ⟨hu1, ?_⟩
  obtain ⟨hp1, g1, d1, tk1, os1⟩ := s1
  refine call_mw (I3.kIn _ _ hC) ho1 hu1 (by have := r1.length; rw [List.nil_append, ← this, sizeLine_eq]; omega) fun h2 t2 kk hx => ?_
  have J := I3.write (t' := tk1) (x := a) (e := a) (o := exo a C none) (by rw [ha1]; exact True.intro) (.inl rfl) kk ⟨_, hx⟩ (exo_ok hx)
  have eu : upd H1 a (exo a C none) = H1 := by
    funext b
    by_cases hb : b = a
    · rw [hb, upd_same, ha1]
    · rw [upd_ne hb]
  rw [eu] at J
  refine wpAt_of_wpAny (wpAny_mono (ps'.run [] _ (startF N (.ref a :: r') [none]) H1 _ (ClX.unpin J) hq1) (fun fl s' hs => ?_) fun e s' hs => hs)
  have fin : ∀ {σ' : L2.St} {H' : Hp} {v : V} {u : Value}, Inv (ncx CX0 P w K mg base N ⟨"__init__", qual, defArgs st, defBody st, defScope st, [("__class__", cc)], c⟩ f A outer s H E) [] σ' H' s' → L2.RelV v u → Q v H' → CE outer P w H s Q u s' :=
    fun {σ' H' v u} J rv q => ⟨v, H', J.os, J.bare, J.base, J.hok, rv, q⟩
  cases fl with
  | ret u =>
    obtain ⟨v, σ', H', J, rv, q⟩ := hs
    exact fin J rv q
  | next =>
    obtain ⟨σ', H', J, q⟩ := hs
    exact fin (v := V.non) (u := Value.none) J rfl q
  | brk =>
    obtain ⟨_, _, _, q⟩ := hs
    exact False.elim q
  | cont =>
    obtain ⟨_, _, _, q⟩ := hs
    exact False.elim q
end
/-! ### exceptions of the program: one field -/
def FmtV (v : V) : Prop := (∃ y : Str, v = .str y ∧ y.length ≤ 1000) ∨ ∃ i : Int, v = .int i ∧ -(2 ^ 200) < i ∧ i < 2 ^ 200
def spEx1 (C : Addr) (n : Str) : Sp := fun vs H Q _ => ∃ (a : Addr) (v : V), vs = [.ref a, v] ∧ (H a = some (exo a C none) ∧ FmtV v) ∧
  ∀ d H', H d = none → d ≠ a → (∀ b o, b ≠ a → H b = some o → H' b = some o) → (∀ b, H' b = none → H b = none) → H' a = some (exo a C (some d)) → H' d = some (exd d [(n, v)]) → Q .non H'
/-- what the written part says of an own class -/
structure ExD (P : Program) (K : PySem.W.Frag) (mg : Str → Option Value) (x qual : Str) (st : Stmt) (ps : List Str) (C : Addr) : Prop where
  mgC : mg x = some (.ref C)
  sup : SupC K C C
  fld : ∀ n, ps[1]? = some n → PySem.W.findIn K (.ref C) n = some none
  ini : ∃ (f : Addr) (fd : FuncData), PySem.W.findIn K (.ref C) "__init__" = some (some (.ref f)) ∧ PySem.W.typeIn K (.ref f) = some (.type "function") ∧ SupF P K mg f C qual st ps fd
/-- the class may be called -/
structure ExK (P : Program) (w : World) (K : PySem.W.Frag) (mg : Str → Option Value) (base : Heap) (k : Nat) (x : Str) (C : Addr) (n : Str) : Prop where
  mgC : mg x = some (.ref C)
  oex : OexC K C
  ini : ∃ (f : Addr) (fd : FuncData), PySem.W.findIn K (.ref C) "__init__" = some (some (.ref f)) ∧ PySem.W.typeIn K (.ref f) = some (.type "function") ∧ FnOk P w K mg base CX0 k f fd ["self", n] (spEx1 C n) ∧ Binds K fd ["self", n] []
def rMk1 (C : Addr) (n : Str) (vs : List V) (H1 : Hp) (Q : XK) : Prop := vs.length ≤ 1000 ∧ ∀ a, H1 a = none → spEx1 C n (.ref a :: (vs ++ [])) (upd H1 a (exo a C none))
  (fun v H2 => v = .non ∧ ∃ (d : Addr) (fs : List (Str × V)), H2 a = some (exo a C (some d)) ∧ H2 d = some (exd d fs) ∧ H1 d = none ∧ Q (.ref C) (some d) (upd (del H2 a) d (.xd fs))) (fun _ _ _ => False)
def tMk1 (C : Addr) (n : Str) (ta : TA) : L2.St → Hp → XK → Prop := fun σ H Q => ta σ H fun vs H1 => rMk1 C n vs H1 Q
theorem g_mk1 {C : Addr} {n : Str} {v : V} {H1 : Hp} {Q : XK} (hv : FmtV v) (q : ∀ d H', Nw H1 d → Ex H1 H' → At H' d (.xd [(n, v)]) → Q (.ref C) (some d) H') : rMk1 C n [v] H1 Q := by
  refine ⟨by simp, fun a ha => ⟨a, v, rfl, ⟨upd_same, hv⟩, fun d H' hd hda keep live ha' hd' => ?_⟩⟩
  have hd1 : H1 d = none := by rw [upd_ne hda] at hd; exact hd
  have K1 : ∀ b o, H1 b = some o → H' b = some o := fun b o hb => by
    have hba : b ≠ a := ne_of_none hb ha
    exact keep b o hba (by rw [upd_ne hba]; exact hb)
  refine ⟨rfl, d, _, ha', hd', hd1, q d _ ⟨hd1⟩ ⟨fun b o _ hb => ?_, fun b hb => ?_⟩ ⟨upd_same⟩⟩
  · rw [upd_ne (ne_of_none hb hd1), del_ne (ne_of_none hb ha)]
    exact K1 b o hb
  · by_cases hbd : b = d
    · rw [hbd]; exact hd1
    · rw [upd_ne hbd] at hb
      by_cases hba : b = a
      · rw [hba]; exact ha
      · rw [del_ne hba] at hb
        have := live b hb
        rw [upd_ne hba] at this
        exact this
theorem pmk1 {X : Cx} {k : Nat} {x n : Str} {C : Addr} {e : Expr} {ta : TA} {p pos : Pos} (M : ExK X.prog X.w X.K X.mg X.base k x C n) (hr : Room (k + 1) X.A) (hg : Gl X x) (ha : PA X [e] ta)
    (hdb : (x == ("__debug__" : Str)) = false := by decide) (he : starEach [e] X.env = (false, eval e X.env) :: starEach [] X.env := by rfl) (hpl : (backTo pos (starEach [] X.env)).any (·.1) = false := by rfl) :
    PMk X (.Call (.Name x p) [e] [] pos) (tMk1 C n ta) := by
  obtain ⟨f, fd, i1, i2, F, b⟩ := M.ini
  exact pmk_oex (sp := spEx1 C n) (dvs := []) M.oex i1 i2 F hr b .nil pass0 hg M.mgC ha hdb he hpl
/-! defs that may raise -/
section
variable {P : Program} {w : World} {K : PySem.W.Frag} {mg : Str → Option Value} {base : Heap}
structure ClX (P : Program) (w : World) (K : PySem.W.Frag) (mg : Str → Option Value) (base : Heap) (k : Nat) (x : Str) (ps : List Str) (sp : Sp) : Prop where
  ex : ∃ (f : Addr) (fd : FuncData), mg x = some (.ref f) ∧ PySem.W.keepIn K (.ref f) = true ∧ (∀ us : List Value, us.length = ps.length → bindArgs fd ⟨us, []⟩ = pure (ps.zip us)) ∧ FnOk P w K mg base (L2.CX P w) k f fd ps sp
theorem Df.okX {x : Str} {st : Stmt} {N ps : List Str} {k : Nat} {sp : Sp} (D : Df K mg x st ps) (S : FnScope N ps (defScope st)) (len : ∀ vs H Q E, sp vs H Q E → vs.length = ps.length)
    (hbody : ∀ (f : Addr) (cdv : Value) (A : Around) (outer : List Env) (s : Shared) (H : Hp) (vs : List V) (Q : VK) (E : XK), Room k (A.deeper (envOfC x (defScope st) s.heap.objs.size f cdv)) → sp vs H Q E →
      ∃ t, PSs (cxOf (L2.CX P w) P w K mg base N x (defScope st) f cdv A outer s H E) (defBody st) t ∧ t { nx := fun _ H' => Q .non H', rt := Q } (start N vs) H) : ClX P w K mg base (k + 1) x ps sp := by
  obtain ⟨f, fd, h1, h2, h3⟩ := D.ex
  exact ⟨f, fd, h1, h2.kp, h3, h2.okX S len fun cdv A outer s H vs Q E hr h => hbody f cdv A outer s H vs Q E hr h⟩
theorem takesX {N : List Str} {qual : Str} {scope : Scope} {f : Addr} {cd : Value} {A : Around} {outer : List Env} {s : Shared} {H : Hp} {E : XK} : Takes (cxOf (L2.CX P w) P w K mg base N qual scope f cd A outer s H E) (fun cls d _ H => E cls d H) := takes_of rfl rfl rfl rfl
end
section
variable {X : Cx} {x : Str} {p pos : Pos} {e : Expr} {es : List Expr} {t : TA} {k : Nat} {ps : List Str} {sp : Sp} {W : WX}
theorem pe_clX (C : ClX X.prog X.w X.K X.mg X.base k x ps sp) (hr : Room k X.A) (tk : Takes X W) (ha : PA X (e :: es) t) (hg : Gl X x := by rfl) (hdb : (x == ("__debug__" : Str)) = false := by decide)
    (he : starEach (e :: es) X.env = (false, eval e X.env) :: starEach es X.env := by rfl) (hpl : (backTo pos (starEach es X.env)).any (·.1) = false := by rfl) :
    PE X (.Call (.Name x p) (e :: es) [] pos) (tCallS sp (WE W) t) := by
  obtain ⟨f, fd, h1, h2, h3, h4⟩ := C.ex
  exact pe_callS h4 hr hg h1 h2 (Binds.all h3) (passAt tk) ha hdb he hpl
end
section
variable {σ : L2.St} {H : Hp} {Q : VK} {E : L2.St → XK} {sp : Sp} {tl : TA}
instance : Step (tCallS sp E tl σ H Q) (tl σ H fun vs H1 => sp vs H1 Q (E σ)) := ⟨fun q => q⟩
end
/-! a def called within an except suite with the caught exception among its arguments -/
open L2H
structure FnS (P : Program) (w : World) (K : PySem.W.Frag) (mg : Str → Option Value) (base : Heap) (CX : CXT) (k : Nat) (f : Addr) (fd : FuncData) (ps : List Str) (sp : Addr → Value → Option Addr → Sp) : Prop where
  len : ∀ a c d vs H Q E, sp a c d vs H Q E → vs.length = ps.length
  run : ∀ (A : Around) (outer : List Env) (s : Shared) (H : Hp) (args : Args) (us : List Value) (vs : List V) (Q : VK) (E : XK) (a : Addr) (oe : Obj) (c : Value) (d : Option Addr), RoomH k A → PinOk outer H s (a, oe) → Zc c d oe → (∃ fv, oe.data = .fields fv) → Env0 P w K mg base A outer s H → BindsTo s fd args (ps.zip us) → Vals vs us → sp a c d vs H Q E →
    codeAny (model P w) A (.call (.ref f) args) (CR CX outer P w H s Q E) s
theorem fn_ofS {CX : CXT} {P : Program} {w : World} {K : PySem.W.Frag} {mg : Str → Option Value} {base : Heap} {k : Nat} {f : Addr} {name qual : Str} {params : Arguments} {body : List Stmt} {scope : Scope} {dV kV doc pm cdv ct oc : Value} {an od : Option Addr}
    {osl : Array (Option Value)} {N ps : List Str} {sp : Addr → Value → Option Addr → Sp} (lk : K.lookup f = some ⟨oc, od, .func (PySem.W.fnOf name qual params body scope dV kV doc pm an cdv ct), osl⟩) (hcd : PySem.W.codeIn K cdv qual = true) (S : FnScope N ps scope)
    (len : ∀ a c d vs H Q E, sp a c d vs H Q E → vs.length = ps.length)
    (hbody : ∀ (A : Around) (outer : List Env) (s : Shared) (H : Hp) (vs : List V) (Q : VK) (E : XK) (a : Addr) (oe : Obj) (c : Value) (d : Option Addr), RoomH k (A.deeper (envOfC qual scope s.heap.objs.size f cdv)) → Zc c d oe → (∃ fv, oe.data = .fields fv) → sp a c d vs H Q E →
      ∃ t, PSs (cxH CX P w K mg base N qual scope f cdv A outer s H E (a, oe)) body t ∧ t { nx := fun _ H' => Q .non H', rt := Q } (L2.start N vs) H) :
    FnS P w K mg base CX (k + 1) f (PySem.W.fnOf name qual params body scope dV kV doc pm an cdv ct) ps sp := by
  refine ⟨len, fun A outer s H args us vs Q E a oe c d hr hpin hz hf e0 hb r hsp => ?_⟩
  have hl := len _ _ _ _ _ _ _ hsp
  have KX : K.In s.heap := e0.mod.kin.keeps fun b o e => (e0.bs b o e).1
  have lim : s.heap.NoLimit := e0.mod.nolimit.keeps fun b o e => (e0.bs b o e).1
  have hkind : ∀ y ∈ ps.zip us, scope.names.lookup y.1 = some .local ∨ (scope.names.lookup y.1 = some .cell ∧ ((cellsFrom (s.heap.objs.size + 1) scope.names []).lookup y.1).isSome = true) := fun ⟨n, v⟩ hy => by
    rcases S.par n (List.of_mem_zip hy).1 with q | q
    · exact .inl q
    · exact .inr ⟨q, PySem.W.cellsFrom_some _ _ _ (.inl q)⟩
  refine codeAny_call_function hr.depth (KX _ _ lk) rfl S.co S.gen rfl (PySem.W.codeRec_of KX hcd) (hb _ _ _ _ ?_)
  refine wpAny_newFunctionEnv_cells S.kind hkind fun env he s1 x => ?_
  subst he
  refine ⟨lim.keeps x.toInCall.keep, codeAny_func ?_⟩
  obtain ⟨t, ht, hq⟩ := hbody A outer s H vs Q E a oe c d (hr.deeper _) hz hf hsp
  have I : Inv (cxH CX P w K mg base N qual scope f cdv A outer s H E (a, oe)) [] (L2.start N vs) H s1 := inv_startH S hpin e0 hl r x
  refine wpAny_mono (ht.run [] s1 (L2.start N vs) H _ I hq) (fun fl s' hs => ?_) fun e s' hs => hs
  have fin : ∀ {σ' : L2.St} {H' : Hp} {v : V} {u : Value}, Inv (cxH CX P w K mg base N qual scope f cdv A outer s H E (a, oe)) [] σ' H' s' → RelV v u → Q v H' → CE outer P w H s Q u s' :=
    fun {σ' H' v u} J rv q => ⟨v, H', J.os, J.bare, J.base, J.hok, rv, q⟩
  cases fl with
  | ret u =>
    obtain ⟨v, σ', H', J, rv, q⟩ := hs
    exact fin J rv q
  | next =>
    obtain ⟨σ', H', J, q⟩ := hs
    exact fin (v := V.non) (u := Value.none) J rfl q
  | brk =>
    obtain ⟨_, _, _, q⟩ := hs
    exact False.elim q
  | cont =>
    obtain ⟨_, _, _, q⟩ := hs
    exact False.elim q
structure ClS (P : Program) (w : World) (K : PySem.W.Frag) (mg : Str → Option Value) (base : Heap) (k : Nat) (x : Str) (ps : List Str) (sp : Addr → Value → Option Addr → Sp) : Prop where
  ex : ∃ (f : Addr) (fd : FuncData), mg x = some (.ref f) ∧ PySem.W.keepIn K (.ref f) = true ∧ (∀ us : List Value, us.length = ps.length → bindArgs fd ⟨us, []⟩ = pure (ps.zip us)) ∧ FnS P w K mg base CX0 k f fd ps sp
theorem pe_clS {X : Cx} {x : Str} {q pos : Pos} {e : Expr} {es : List Expr} {t : TA} {k : Nat} {ps : List Str} {sp : Addr → Value → Option Addr → Sp} {a : Addr} {oe : Obj} {c : Value} {d : Option Addr} (C : ClS X.prog X.w X.K X.mg X.base k x ps sp) (hr : RoomH k X.A) (hp : (a, oe) ∈ X.pn) (hz : Zc c d oe) (hf : ∃ fv, oe.data = .fields fv) (ha : PA X (e :: es) t) (hg : Gl X x := by rfl) (hdb : (x == ("__debug__" : Str)) = false := by decide)
    (he : starEach (e :: es) X.env = (false, eval e X.env) :: starEach es X.env := by rfl) (hpl : (backTo pos (starEach es X.env)).any (·.1) = false := by rfl) :
    PE X (.Call (.Name x q) (e :: es) [] pos) (tCall (sp a c d) [] E0 t) := by
  obtain ⟨f, fd, hm, hk, hb, F⟩ := C.ex
  refine ⟨fun pins s σ H Q I h => ?_⟩
  refine wpAny_Call_Name_kw (ld_glob I hg hm ?_ hdb)
  refine PySem.W.callWith_K (h₀ := X.base) I.ok.mod.kin hk (thn (ha.run pos pins s σ H _ I h) fun us s1 ⟨vs, H1, I1, r, hq⟩ => ⟨I1.kIn, ?_⟩) he hpl
  have hq : sp a c d (vs ++ []) H1 Q E0 := hq
  rw [List.append_nil] at hq
  have hl : us.length = ps.length := by rw [← r.length]; exact F.len _ _ _ _ _ _ _ hq
  have P1 := I1.pin (a, oe) (List.mem_append_left _ hp)
  have hpin : PinOk X.stack H1 s1 (a, oe) := ⟨P1.1, P1.2.1, fun hm => (List.mem_cons.mp (I1.stkSub a hm)).elim P1.2.2.1 P1.2.2.2.1, P1.2.2.2.2⟩
  show wpAny _ _ (call (.ref f) us) _ _ _
  refine wpAny_call (codeAny_mono (F.run X.A X.stack s1 H1 ⟨us, []⟩ us vs Q E0 a oe c d hr hpin hz hf I1.env0 (.of_eq (hb us hl)) r hq) fun r s' hq => ?_)
  cases r with
  | error e => exact (pass0 : Passes CX0 X E0) pins σ H1 s1 e s' I1 hq
  | ok fl =>
    cases fl with
    | ret u => exact I1.after hq
    | next => exact False.elim hq
    | brk => exact False.elim hq
    | cont => exact False.elim hq
/-! what is asked of a caught exception (at a, its class c, its dict d) -/
def rIsS (K : PySem.W.Frag) (a : Addr) (c : Value) (d : Option Addr) : List V → Hp → VK → Prop := fun xs H Q => ∃ (D dd : Addr) (fs : List (Str × V)) (t : V) (tv : Value) (b : Bool), xs = [.ref a, t] ∧ c = .ref D ∧ d = some dd ∧ ExcC K D ∧ (∀ u, RelV t u → u = tv) ∧ PySem.W.kitOne K (.ref D) tv = some b ∧ H dd = some (.xd fs) ∧ Q (.bl b) H
theorem call_isS {X : Cx} {a : Addr} {oe : Obj} {c : Value} {d : Option Addr} (hp : (a, oe) ∈ X.pn) (hz : Zc c d oe) (hf : ∃ vs, oe.data = .fields vs) : CallR X (.builtin "isinstance") (rIsS X.K a c d) := by
  intro pins s σ H xs us Q I r h
  obtain ⟨D, dd, fs, c', cv, b, rfl, rfl, rfl, C, hcv, e, hx, q⟩ := h
  cases r with
  | cons rx rr =>
    cases rr with
    | cons rt rr =>
      cases rr
      cases rx
      have ec := hcv _ rt
      subst ec
      obtain ⟨hget, _⟩ := I.pin (a, oe) (List.mem_append.mpr (.inl hp))
      obtain ⟨vs, hv⟩ := hf
      have hx : ObjOk X.prog X.w H s.heap dd (.xd fs) := I.hok dd _ hx
      obtain ⟨mA, hns, hr⟩ := hx
      obtain ⟨od, ho, hl⟩ := lookIn_ns hns
      have J : PySem.W.InstAt s.heap a oe D (some od) := ⟨hget, hz.1, by unfold PySem.W.notCls; rw [hv] <;> rfl, by rw [hz.2]; exact ho⟩
      obtain ⟨cd0, hc0, _⟩ := PySem.W.any_some C.hd
      exact PySem.W.kia_one (PySem.W.kitx_exc (od := some od) (by rw [hc0]; rfl) C.hg C.hk C.hs C.ha C.hn C.ht C.hm) I.kIn J e (fun z => nomatch z) fun tk => ⟨.bl b, H, I.kept (t' := tk) fun _ _ z => z, rfl, q⟩
/-- e.n, e the caught exception -/
def tXs (K : PySem.W.Frag) (a : Addr) (c : Value) (d : Option Addr) (n : Str) (te : TE) : TE := fun σ H Q => te σ H fun x H1 => x = .ref a ∧ ∃ (C dd : Addr) (fs : List (Str × V)) (v : V), c = .ref C ∧ d = some dd ∧ XfC K C ∧ PySem.W.findIn K (.ref C) n = some none ∧ H1 dd = some (.xd fs) ∧ fs.lookup n = some v ∧ Q v H1
theorem pe_xs {X : Cx} {a : Addr} {oe : Obj} {c : Value} {d : Option Addr} {e : Expr} {te : TE} {pos : Pos} {n : Str} (hp : (a, oe) ∈ X.pn) (hz : Zc c d oe) (hf : ∃ vs, oe.data = .fields vs) (he : PE X e te) (hb : attributeBase e n X.env (eval e X.env) = eval e X.env := by rfl) :
    PE X (.Attribute e n pos) (tXs X.K a c d n te) := by
  refine ⟨fun pins s σ H Q I h => ?_⟩
  refine attr_of hb (thn (he.run pins s σ H _ I h) fun u s1 hh => ?_)
  obtain ⟨x, H1, I1, rx, ex, C, dd, fs, v, ec, ed, T, hno, ea, l, q⟩ := hh
  subst ex
  obtain rfl : u = Value.ref a := rx
  subst ec
  subst ed
  obtain ⟨ha, _⟩ := I1.pin (a, oe) (List.mem_append_left _ hp)
  obtain ⟨vs, hd⟩ := hf
  have hx : ObjOk X.prog X.w H1 s1.heap dd (.xd fs) := I1.hok dd _ ea
  obtain ⟨mA, hns, hr⟩ := hx
  obtain ⟨od, ho, hl⟩ := lookIn_ns hns
  obtain ⟨u, hu, ru⟩ := RelO.some_of (v := v) (o := mA n) (by rw [← l]; exact hr n)
  have J : PySem.W.InstAt s1.heap a oe C (some od) := ⟨ha, hz.1, by unfold PySem.W.notCls; rw [hd] <;> rfl, by rw [hz.2]; exact ho⟩
  exact HandSPX.exc_get I1.kIn J T.ga T.gg T.exC (PySem.W.findObj_own T.hdC hno rfl (by rw [hl, hu])) (handed_of ru) ⟨v, H1, I1.tok _, ru, q⟩
theorem call_isSK {X : Cx} {K : PySem.W.Frag} (h : X.K = K) {a : Addr} {oe : Obj} {c : Value} {d : Option Addr} (hp : (a, oe) ∈ X.pn) (hz : Zc c d oe) (hf : ∃ vs, oe.data = .fields vs) : CallR X (.builtin "isinstance") (rIsS K a c d) := h ▸ call_isS hp hz hf
theorem pe_xsK {X : Cx} {K : PySem.W.Frag} (h : X.K = K) {a : Addr} {oe : Obj} {c : Value} {d : Option Addr} {e : Expr} {te : TE} {pos : Pos} {n : Str} (hp : (a, oe) ∈ X.pn) (hz : Zc c d oe) (hf : ∃ vs, oe.data = .fields vs) (he : PE X e te) (hb : attributeBase e n X.env (eval e X.env) = eval e X.env := by rfl) :
    PE X (.Attribute e n pos) (tXs K a c d n te) := h ▸ pe_xs hp hz hf he hb
/-! the body of such an __init__ -/
def Shorty (t : TE) (σ : L2.St) (H : Hp) : Prop := ∀ Q' : VK, (∀ y : Str, y.length ≤ 2000 → Q' (.str y) H) → t σ H Q'
theorem shorty_c {z : Str} {σ : L2.St} {H : Hp} (h : z.length ≤ 2000) : Shorty (tC (.str z)) σ H := fun Q' q => q z h
theorem shorty_f {i : Nat} {v : V} {σ : L2.St} {H : Hp} (hs : σ[i]? = some (some v)) (hv : FmtV v) : Shorty (tFmt (tVar i)) σ H := fun Q' q => by
  refine ⟨v, hs, ?_⟩
  rcases hv with ⟨y, rfl, hy⟩ | ⟨i, rfl, h1, h2⟩
  · exact .inl ⟨y, rfl, by rw [sizeLine_eq]; omega, q y (by omega)⟩
  · have h3 : i.natAbs.log2 < 1920 := Nat.lt_of_lt_of_le (PySem.Flt.log2_lt_of (k := 200) (by decide) (by omega)) (by decide)
    exact .inr ⟨i, rfl, h3, q _ (Nat.le_trans (PyProof.Rows.int_text_len_1921 h3) (by decide))⟩
theorem str_app_len (a b : Str) : (a ++ b).length = a.length + b.length := by
  show (a.cps ++ b.cps).size = _
  rw [Array.size_append]
  rfl
theorem js_any {σ : L2.St} {H : Hp} {Q : Str → Hp → Prop} (q : ∀ out, Q out H) : ∀ (ts : List TE) (acc : Str), (∀ t ∈ ts, Shorty t σ H) → acc.length + 2000 * ts.length ≤ 1000000 → tJs ts acc σ H Q
  | [], acc, _, _ => q acc
  | t :: ts, acc, h, hz => by
    simp only [List.length_cons] at hz
    exact h t (List.mem_cons_self ..) _ fun y hy => ⟨y, rfl, by rw [str_app_len, sizeLine_eq]; omega, js_any q ts (acc ++ y) (fun u hu => h u (List.mem_cons_of_mem _ hu)) (by rw [str_app_len]; omega)⟩
theorem g_ost {K : PySem.W.Frag} {C a : Addr} {n : Str} {v : V} {D : Ends} {σ : L2.St} {H : Hp} (ha : H a = some (exo a C none)) (T : OexC K C) (hn : PySem.W.findIn K (.ref C) n = some none) (h0 : σ[0]? = some (some (.ref a))) (h1 : σ[1]? = some (some v))
    (q : ∀ d H', H d = none → d ≠ a → (∀ b o, b ≠ a → H b = some o → H' b = some o) → (∀ b, H' b = none → H b = none) → H' a = some (exo a C (some d)) → H' d = some (exd d [(n, v)]) → D.nx σ H') : tOst K n (tVar 0) (tVar 1) D σ H := by
  refine ⟨v, h1, .ref a, h0, a, C, rfl, T, hn, .inl ⟨ha, fun dx hd hda => q dx _ hd hda (fun b o hb ho => ?_) (fun b hb => ?_) upd_same ?_⟩⟩
  · rw [upd_ne hb, upd_ne (ne_of_none ho hd)]
    exact ho
  · by_cases z : b = a
    · rw [z, upd_same] at hb; cases hb
    · rw [upd_ne z] at hb
      by_cases y : b = dx
      · rw [y]; exact hd
      · rw [upd_ne y] at hb; exact hb
  · rw [upd_ne hda, upd_same]
/-! defs with defaults, in any mode -/
section
variable {X : Cx} {CX : CXT} {k n : Nat} {f : Addr} {fd : FuncData} {ps ks : List Str} {sp : Sp} {E : L2.St → XK} {x : Str} {p pos : Pos} {e : Expr} {es : List Expr} {kws : List Keyword} {t tk : TA} {g : List Value → List Value → List Value} {gV : List V → List V → List V} {ds : List Value} {dvs : List V}
def tCallSD (sp : Sp) (dvs : List V) (E : L2.St → XK) (t : TA) : TE := fun σ H Q => t σ H fun vs H1 => sp (vs ++ dvs) H1 Q (E σ)
def tCallNS (n m : Nat) (sp : Sp) (gV : List V → List V → List V) (E : L2.St → XK) (t tk : TA) : TE := fun σ H Q => t σ H fun vs H1 => tk σ H1 fun zs H2 => vs.length = n ∧ zs.length = m ∧ sp (gV vs zs) H2 Q (E σ)
theorem run_fnSD {pins : List (Addr × Obj)} {σ : L2.St} {H : Hp} {s : Shared} {Q : VK} {us : List Value} {vs : List V} (F : FnOk X.prog X.w X.K X.mg X.base CX k f fd ps sp) (hr : Room k X.A) (hb : Binds X.K fd ps ds) (hd : Vals dvs ds) (hx : PassesAt CX X σ (E σ))
    (I : Inv X pins σ H s) (r : Vals vs us) (h : sp (vs ++ dvs) H Q (E σ)) : wpAny (model X.prog X.w) X.A (call (.ref f) us) (EP X pins σ Q) X.xe s := by
  have r2 := r.append hd
  have hl : (us ++ ds).length = ps.length := by rw [← r2.length]; exact F.len _ _ _ _ h
  refine wpAny_call (codeAny_mono (F.run X.A X.stack s H ⟨us, []⟩ (us ++ ds) (vs ++ dvs) Q (E σ) hr I.env0 (hb s us I.kIn hl) r2 h) fun r s' hq => ?_)
  cases r with
  | error e => exact hx pins H s e s' I hq
  | ok fl =>
    cases fl with
    | ret u => exact I.after hq
    | next => exact False.elim hq
    | brk => exact False.elim hq
    | cont => exact False.elim hq
theorem pe_callSD (F : FnOk X.prog X.w X.K X.mg X.base CX k f fd ps sp) (hr : Room k X.A) (hg : Gl X x) (hm : X.mg x = some (.ref f)) (hk : PySem.W.keepIn X.K (.ref f) = true) (hb : Binds X.K fd ps ds) (hd : Vals dvs ds) (hx : ∀ σ, PassesAt CX X σ (E σ))
    (ha : PA X (e :: es) t) (hdb : (x == ("__debug__" : Str)) = false := by decide) (he : starEach (e :: es) X.env = (false, eval e X.env) :: starEach es X.env := by rfl) (hpl : (backTo pos (starEach es X.env)).any (·.1) = false := by rfl) :
    PE X (.Call (.Name x p) (e :: es) [] pos) (tCallSD sp dvs E t) := by
  refine ⟨fun pins s σ H Q I h => ?_⟩
  refine wpAny_Call_Name_kw (ld_glob I hg hm ?_ hdb)
  refine PySem.W.callWith_K (h₀ := X.base) I.ok.mod.kin hk (thn (ha.run pos pins s σ H _ I h) fun us s1 ⟨vs, H1, I1, r, q⟩ => ⟨I1.kIn, ?_⟩) he hpl
  exact run_fnSD F hr hb hd (hx σ) I1 r q
theorem run_fnNS {pins : List (Addr × Obj)} {σ : L2.St} {H : Hp} {s : Shared} {Q : VK} {us ws : List Value} {vs zs : List V} (F : FnOk X.prog X.w X.K X.mg X.base CX k f fd ps sp) (hr : Room k X.A) (hb : KBn X.K fd ps n ks g gV) (hx : PassesAt CX X σ (E σ))
    (I : Inv X pins σ H s) (r : Vals vs us) (rz : Vals zs ws) (l1 : vs.length = n) (l2 : zs.length = ks.length) (h : sp (gV vs zs) H Q (E σ)) : wpAny (model X.prog X.w) X.A (call (.ref f) us (ks.zip ws)) (EP X pins σ Q) X.xe s := by
  have r2 := hb.rel r rz
  refine wpAny_call (codeAny_mono (F.run X.A X.stack s H ⟨us, ks.zip ws⟩ (g us ws) (gV vs zs) Q (E σ) hr I.env0 (hb.to s us ws I.kIn (r.length.symm.trans l1) (rz.length.symm.trans l2)) r2 h) fun r s' hq => ?_)
  cases r with
  | error e => exact hx pins H s e s' I hq
  | ok fl =>
    cases fl with
    | ret u => exact I.after hq
    | next => exact False.elim hq
    | brk => exact False.elim hq
    | cont => exact False.elim hq
theorem pe_callNS (F : FnOk X.prog X.w X.K X.mg X.base CX k f fd ps sp) (hr : Room k X.A) (hg : Gl X x) (hm : X.mg x = some (.ref f)) (hk : PySem.W.keepIn X.K (.ref f) = true) (hb : KBn X.K fd ps n ks g gV) (hx : ∀ σ, PassesAt CX X σ (E σ))
    (ha : PA X (e :: es) t) (hkw : PK X kws tk) (hall : (backToKw pos (keywordEach kws X.env)).all (·.1.isSome) = true := by rfl) (hks : (backToKw pos (keywordEach kws X.env)).filterMap (·.1) = ks := by rfl)
    (hdb : (x == ("__debug__" : Str)) = false := by decide) (he : starEach (e :: es) X.env = (false, eval e X.env) :: starEach es X.env := by rfl)
    (hpl : ((backTo pos (starEach (e :: es) X.env)).any (·.1) || (backToKw pos (keywordEach kws X.env)).any (·.1.isNone)) = false := by rfl) :
    PE X (.Call (.Name x p) (e :: es) kws pos) (tCallNS n ks.length sp gV E t tk) := by
  refine ⟨fun pins s σ H Q I h => ?_⟩
  refine wpAny_Call_Name_kw (ld_glob I hg hm ?_ hdb)
  refine PySem.W.callWith_KW (h₀ := X.base) I.ok.mod.kin hk hall (thn (ha.run pos pins s σ H _ I h) fun us s1 ⟨vs, H1, I1, r, q⟩ => ?_) hpl he
  refine thn (hkw.run pos pins s1 σ H1 _ I1 q) fun ws s2 ⟨zs, H2, I2, rz, l1, l2, q2⟩ => ⟨I2.kIn, ?_⟩
  rw [hks]
  exact run_fnNS F hr hb (hx σ) I2 r rz l1 l2 q2
variable {σ : L2.St} {H : Hp} {Q : VK}
instance : Step (tCallSD sp dvs E t σ H Q) (t σ H fun vs H1 => sp (vs ++ dvs) H1 Q (E σ)) := ⟨fun q => q⟩
instance {m : Nat} : Step (tCallNS n m sp gV E t tk σ H Q) (t σ H fun vs H1 => tk σ H1 fun zs H2 => vs.length = n ∧ zs.length = m ∧ sp (gV vs zs) H2 Q (E σ)) := ⟨fun q => q⟩
end
/-- the def x as the top left it, with its defaults -/
structure DfG (K : PySem.W.Frag) (mg : Str → Option Value) (x : Str) (st : Stmt) (dvs : List V) (kws : List (Str × V)) : Prop where
  ex : ∃ (f : Addr) (fd : FuncData), mg x = some (.ref f) ∧ FunD K x x (defArgs st) (defBody st) (defScope st) dvs kws f fd
/-- .. may be called (CX: what it may let out) -/
structure ClG (CX : CXT) (P : Program) (w : World) (K : PySem.W.Frag) (mg : Str → Option Value) (base : Heap) (k : Nat) (x : Str) (st : Stmt) (ps : List Str) (dvs : List V) (kws : List (Str × V)) (sp : Sp) : Prop where
  ex : ∃ (f : Addr) (fd : FuncData), mg x = some (.ref f) ∧ FunD K x x (defArgs st) (defBody st) (defScope st) dvs kws f fd ∧ FnOk P w K mg base CX k f fd ps sp
theorem DfG.ok {P : Program} {w : World} {K : PySem.W.Frag} {mg : Str → Option Value} {base : Heap} {CX : CXT} {x : Str} {st : Stmt} {N ps : List Str} {dvs : List V} {kws : List (Str × V)} {k : Nat} {sp : Sp} (D : DfG K mg x st dvs kws) (S : FnScope N ps (defScope st)) (len : ∀ vs H Q E, sp vs H Q E → vs.length = ps.length)
    (hbody : ∀ (f : Addr) (cdv : Value) (A : Around) (outer : List Env) (s : Shared) (H : Hp) (vs : List V) (Q : VK) (E : XK), Room k (A.deeper (envOfC x (defScope st) s.heap.objs.size f cdv)) → sp vs H Q E →
      ∃ t, PSs (cxOf CX P w K mg base N x (defScope st) f cdv A outer s H E) (defBody st) t ∧ t { nx := fun _ H' => Q .non H', rt := Q } (start N vs) H) : ClG CX P w K mg base (k + 1) x st ps dvs kws sp := by
  obtain ⟨f, fd, h1, h2⟩ := D.ex
  exact ⟨f, fd, h1, h2, h2.ok S len fun cdv A outer s H vs Q E hr h => hbody f cdv A outer s H vs Q E hr h⟩
theorem passC {X : Cx} {W : WX} (tk : Takes X W) (σ : L2.St) : PassesAt (L2.CX X.prog X.w) X σ (WE W σ) := passAt tk σ
section
variable {X : Cx} {CX : CXT} {k n : Nat} {ps ks : List Str} {sp : Sp} {E : L2.St → XK} {x : Str} {p pos : Pos} {e : Expr} {es : List Expr} {kw : List Keyword} {t tk : TA} {st : Stmt} {dvs : List V} {kws : List (Str × V)}
/-- every parameter given by place -/
theorem pe_g (C : ClG CX X.prog X.w X.K X.mg X.base k x st ps [] kws sp) (hr : Room k X.A) (hx : ∀ σ, PassesAt CX X σ (E σ))
    (h : ∀ (kV doc pm : Value) (an : Option Addr) (cdv ct : Value) (us : List Value), us.length = ps.length → bindArgs (PySem.W.fnOf x x (defArgs st) (defBody st) (defScope st) .none kV doc pm an cdv ct) ⟨us, []⟩ = pure (ps.zip us))
    (ha : PA X (e :: es) t) (hg : Gl X x := by rfl) (hdb : (x == ("__debug__" : Str)) = false := by decide)
    (he : starEach (e :: es) X.env = (false, eval e X.env) :: starEach es X.env := by rfl) (hpl : (backTo pos (starEach es X.env)).any (·.1) = false := by rfl) :
    PE X (.Call (.Name x p) (e :: es) [] pos) (tCallSD sp [] E t) := by
  obtain ⟨f, fd, h1, h2, h4⟩ := C.ex
  exact pe_callSD h4 hr hg h1 h2.kp (h2.bindsN h) .nil hx ha hdb he hpl
/-- the keyword-only ones lack -/
theorem pe_g0 (C : ClG CX X.prog X.w X.K X.mg X.base k x st ps [] kws sp) (hr : Room k X.A) (hx : ∀ σ, PassesAt CX X σ (E σ)) (n : Nat) (hk : kws ≠ []) (hn : n + kws.length = ps.length)
    (h : ∀ (D : Addr) (doc pm : Value) (an : Option Addr) (cdv ct : Value) (us ks : List Value), us.length = n → ks.length = kws.length →
      KwChain D ((kws.map (·.1)).zip ks) (bindArgs (PySem.W.fnOf x x (defArgs st) (defBody st) (defScope st) .none (.ref D) doc pm an cdv ct) ⟨us, []⟩) (ps.zip (us ++ ks)))
    (ha : PA X (e :: es) t) (hg : Gl X x := by rfl) (hdb : (x == ("__debug__" : Str)) = false := by decide)
    (he : starEach (e :: es) X.env = (false, eval e X.env) :: starEach es X.env := by rfl) (hpl : (backTo pos (starEach es X.env)).any (·.1) = false := by rfl) :
    PE X (.Call (.Name x p) (e :: es) [] pos) (tCallSD sp (kws.map (·.2)) E t) := by
  obtain ⟨f, fd, h1, h2, h4⟩ := C.ex
  obtain ⟨ds, r, b⟩ := h2.binds0 n hk hn h
  exact pe_callSD h4 hr hg h1 h2.kp b r hx ha hdb he hpl
/-- the last ones lack (places with defaults; no keyword-only parameters) -/
theorem pe_g1 (C : ClG CX X.prog X.w X.K X.mg X.base k x st ps dvs kws sp) (hr : Room k X.A) (hx : ∀ σ, PassesAt CX X σ (E σ)) (n j : Nat) (hd : dvs ≠ []) (hn : n + (dvs.length - j) = ps.length)
    (h : ∀ (T : Addr) (kV doc pm : Value) (an : Option Addr) (cdv ct : Value) (us its : List Value), us.length = n → its.length = dvs.length →
      ∃ k, bindArgs (PySem.W.fnOf x x (defArgs st) (defBody st) (defScope st) (.ref T) kV doc pm an cdv ct) ⟨us, []⟩ = seqItems? (.ref T) >>= k ∧ k (some its.toArray) = pure (ps.zip (us ++ its.drop j)))
    (ha : PA X (e :: es) t) (hg : Gl X x := by rfl) (hdb : (x == ("__debug__" : Str)) = false := by decide)
    (he : starEach (e :: es) X.env = (false, eval e X.env) :: starEach es X.env := by rfl) (hpl : (backTo pos (starEach es X.env)).any (·.1) = false := by rfl) :
    PE X (.Call (.Name x p) (e :: es) [] pos) (tCallSD sp (dvs.drop j) E t) := by
  obtain ⟨f, fd, h1, h2, h4⟩ := C.ex
  obtain ⟨ds, r, b⟩ := h2.binds1 n j hd hn h
  exact pe_callSD h4 hr hg h1 h2.kp b r hx ha hdb he hpl
theorem pe_gk (C : ClG CX X.prog X.w X.K X.mg X.base k x st ps [] kws sp) (hr : Room k X.A) (hx : ∀ σ, PassesAt CX X σ (E σ)) (n : Nat) (ks : List Str) (ms : List (Str × V)) (g : {α : Type} → List α → List α → List α → List α) (hk : kws ≠ []) (hms : ∀ q ∈ ms, q ∈ kws)
    (hrel : ∀ {vs mz zs : List V} {us mv ws : List Value}, Vals vs us → Vals mz mv → Vals zs ws → Vals (g vs mz zs) (g us mv ws))
    (h : ∀ (D : Addr) (doc pm : Value) (an : Option Addr) (cdv ct : Value) (us mv ws : List Value), us.length = n → mv.length = ms.length → ws.length = ks.length →
      KwChain D ((ms.map (·.1)).zip mv) (bindArgs (PySem.W.fnOf x x (defArgs st) (defBody st) (defScope st) .none (.ref D) doc pm an cdv ct) ⟨us, ks.zip ws⟩) (ps.zip (g us mv ws)))
    (ha : PA X (e :: es) t) (hkw : PK X kw tk) (hg : Gl X x := by rfl) (hall : (backToKw pos (keywordEach kw X.env)).all (·.1.isSome) = true := by rfl) (hks : (backToKw pos (keywordEach kw X.env)).filterMap (·.1) = ks := by rfl)
    (hdb : (x == ("__debug__" : Str)) = false := by decide) (he : starEach (e :: es) X.env = (false, eval e X.env) :: starEach es X.env := by rfl)
    (hpl : ((backTo pos (starEach (e :: es) X.env)).any (·.1) || (backToKw pos (keywordEach kw X.env)).any (·.1.isNone)) = false := by rfl) :
    PE X (.Call (.Name x p) (e :: es) kw pos) (tCallNS n ks.length sp (fun vs zs => g vs (ms.map (·.2)) zs) E t tk) := by
  obtain ⟨f, fd, h1, h2, h4⟩ := C.ex
  obtain ⟨mv, b⟩ := h2.kbinds0 n ks ms g hk hms hrel h
  exact pe_callNS h4 hr hg h1 h2.kp b hx ha hkw hall hks hdb he hpl
end
theorem passC0 {X : Cx} (σ : L2.St) : PassesAt CX0 X σ E0 := fun _ _ _ _ _ _ h => h.elim
theorem DfG.okP {P : Program} {w : World} {K : PySem.W.Frag} {mg : Str → Option Value} {base : Heap} {x : Str} {st : Stmt} {N ps : List Str} {dvs : List V} {kws : List (Str × V)} {k : Nat} {sp : Sp} (D : DfG K mg x st dvs kws) (S : FnScope N ps (defScope st)) (len : ∀ vs H Q E, sp vs H Q E → vs.length = ps.length)
    (hbody : ∀ (f : Addr) (cdv : Value) (A : Around) (outer : List Env) (s : Shared) (H : Hp) (vs : List V) (Q : VK) (E : XK), Room k (A.deeper (envOfC x (defScope st) s.heap.objs.size f cdv)) → sp vs H Q E →
      ∃ t, PSs (cxOf CX0 P w K mg base N x (defScope st) f cdv A outer s H E).nox (defBody st) t ∧ t { nx := fun _ H' => Q .non H', rt := Q } (start N vs) H) : ClG CX0 P w K mg base (k + 1) x st ps dvs kws sp :=
  D.ok S len fun f cdv A outer s H vs Q E hr h => by
    obtain ⟨t, a, b⟩ := hbody f cdv A outer s H vs Q E hr h
    exact ⟨t, a.nox, b⟩
theorem DfG.okS {P : Program} {w : World} {K : PySem.W.Frag} {mg : Str → Option Value} {base : Heap} {x : Str} {st : Stmt} {N ps : List Str} {k : Nat} {sp : Addr → Value → Option Addr → Sp} (D : DfG K mg x st [] []) (S : FnScope N ps (defScope st)) (len : ∀ a c d vs H Q E, sp a c d vs H Q E → vs.length = ps.length)
    (hb : ∀ (kV doc pm : Value) (an : Option Addr) (cdv ct : Value) (us : List Value), us.length = ps.length → bindArgs (PySem.W.fnOf x x (defArgs st) (defBody st) (defScope st) .none kV doc pm an cdv ct) ⟨us, []⟩ = pure (ps.zip us))
    (hbody : ∀ (f : Addr) (cdv : Value) (A : Around) (outer : List Env) (s : Shared) (H : Hp) (vs : List V) (Q : VK) (E : XK) (a : Addr) (oe : Obj) (c : Value) (d : Option Addr), RoomH k (A.deeper (envOfC x (defScope st) s.heap.objs.size f cdv)) → Zc c d oe → (∃ fv, oe.data = .fields fv) → sp a c d vs H Q E →
      ∃ t, PSs (cxH CX0 P w K mg base N x (defScope st) f cdv A outer s H E (a, oe)) (defBody st) t ∧ t { nx := fun _ H' => Q .non H', rt := Q } (start N vs) H) : ClS P w K mg base (k + 1) x ps sp := by
  obtain ⟨f, fd, h1, h2⟩ := D.ex
  obtain ⟨oc, od, dV, kV, doc, pm, an, cdv, ct, osl, rfl, lk, hcd, hD, _⟩ := h2.ex
  have hd : dV = .none := by
    rcases hD with ⟨_, e⟩ | ⟨e, _⟩
    · exact e
    · exact absurd rfl e
  subst hd
  exact ⟨f, _, h1, h2.kp, hb kV doc pm an cdv ct, fn_ofS lk hcd S len fun A outer s H vs Q E a oe c d hr hz hf h => hbody f cdv A outer s H vs Q E a oe c d hr hz hf h⟩
theorem ex_nox {X : Cx} {body : List Stmt} {R : TS → Prop} (h : ∃ t, PSs X.nox body t ∧ R t) : ∃ t, PSs X body t ∧ R t := by
  obtain ⟨t, a, b⟩ := h
  exact ⟨t, a.nox, b⟩
theorem hu64H {k : Nat} {A : Around} (hr : RoomH k A) : A.units + 64 < cLine := by
  have := hr.un
  omega
theorem dfg_mk {K : PySem.W.Frag} {mg : Str → Option Value} {h : Heap} {x : Str} {st : Stmt} {f : Addr} {oc dV kV : Value} {od an : Option Addr} {osl : Array (Option Value)} {doc pm cdv ct : Value} {dvs : List V} {kws : List (Str × V)} (X : K.In h) (G : h.Ns mainGlobals mg)
    (a : PySem.W.nsIn K mainGlobals x = some (some (.ref f))) (l : K.lookup f = some ⟨oc, od, .func (PySem.W.fnOf x x (defArgs st) (defBody st) (defScope st) dV kV doc pm an cdv ct), osl⟩)
    (c : PySem.W.codeIn K cdv x = true) (k : PySem.W.keepIn K (.ref f) = true) (d : DflV K dV dvs) (q : KwdV K kV kws) : DfG K mg x st dvs kws :=
  ⟨f, _, PySem.W.mg_of X G a, ⟨⟨oc, od, dV, kV, doc, pm, an, cdv, ct, osl, rfl, l, c, d, q⟩, k⟩⟩
instance {C : Addr} {n : Str} {ta : TA} {σ : L2.St} {H : Hp} {Q : XK} : Step (tMk1 C n ta σ H Q) (ta σ H fun vs H1 => rMk1 C n vs H1 Q) := ⟨fun q => q⟩

/-! ### a try's wish, a caught exception: steps -/
section
variable {K : PySem.W.Frag} {c cls : Value} {i : Nat} {ts : Addr → Value → Option Addr → TS} {Wout : WX} {D : Ends} {d : Option Addr} {σ τ : L2.St} {H H1 : Hp} {Q : VK} {a C dd : Addr} {fs : List (Str × V)} {n : Str} {v : V} {te : TE}
def rUnset (i : Nat) (R : L2.St → Hp → Prop) (σ : L2.St) (H : Hp) : Prop := R (σ.set i none) H
instance {R : L2.St → Hp → Prop} [h : SetL σ i none τ] : Step (rUnset i R σ H) (R τ H) := ⟨fun q => by show R _ H; rw [h.eq]; exact q⟩
theorem g_wasT (hb : PySem.W.exmOne K cls c = some true) (q : ∀ a, Nw H a → gName i (.ref a) σ H fun σ' H' => ts a cls d (Ends.mk (fun σ' H' => rUnset i D.nx σ' H') D.rt (fun σ' H' => rUnset i D.bk σ' H') (fun σ' H' => rUnset i D.ct σ' H')) σ' H') :
    wAs K c i ts Wout D cls d σ H := ⟨true, hb, fun _ a ha => q a ⟨ha⟩, fun h => nomatch h⟩
theorem g_wasF (hb : PySem.W.exmOne K cls c = some false) (q : Wout cls d σ H) : wAs K c i ts Wout D cls d σ H := ⟨false, hb, fun h => (nomatch h), fun _ => q⟩
theorem g_wonT (hb : PySem.W.exmOne K cls c = some true) (q : ∀ a, Nw H a → ts a cls d D σ H) : wOnly K c ts Wout D cls d σ H := ⟨true, hb, fun _ a ha => q a ⟨ha⟩, fun h => nomatch h⟩
theorem g_wonF (hb : PySem.W.exmOne K cls c = some false) (q : Wout cls d σ H) : wOnly K c ts Wout D cls d σ H := ⟨false, hb, fun h => (nomatch h), fun _ => q⟩
theorem g_isS {t : V} {tv : Value} {b : Bool} [h : At H dd (.xd fs)] (xc : ExcC K C) (hv : ∀ u, RelV t u → u = tv) (kt : PySem.W.kitOne K (.ref C) tv = some b) (q : Q (.bl b) H) : rIsS K a (.ref C) (some dd) [.ref a, t] H Q :=
  ⟨C, dd, fs, t, tv, b, rfl, rfl, rfl, xc, hv, kt, h.eq, q⟩
def rXs (K : PySem.W.Frag) (a : Addr) (c : Value) (d : Option Addr) (n : Str) (x : V) (H1 : Hp) (Q : VK) : Prop := x = .ref a ∧ ∃ (C dd : Addr) (fs : List (Str × V)) (v : V), c = .ref C ∧ d = some dd ∧ XfC K C ∧ PySem.W.findIn K (.ref C) n = some none ∧ H1 dd = some (.xd fs) ∧ fs.lookup n = some v ∧ Q v H1
instance : Step (tXs K a c d n te σ H Q) (te σ H fun x H1 => rXs K a c d n x H1 Q) := ⟨fun q => q⟩
theorem g_xs [h : At H dd (.xd fs)] (T : XfC K C) (hf : PySem.W.findIn K (.ref C) n = some none) (hl : fs.lookup n = some v) (q : Q v H) : rXs K a (.ref C) (some dd) n (.ref a) H Q :=
  ⟨rfl, C, dd, fs, v, rfl, rfl, T, hf, h.eq, hl, q⟩
end
/-! ### the end: what the written part says of the classes -/
section
open PySem.W
variable {P : Program} {K : Frag} {S T : Addr} {b : Bool}
theorem kitc_of (h2 : isClsIn K T = true) (h3 : typeIn K (.ref T) = some (.type "type")) (h4 : subIn K (.ref S) (.ref T) = some b) : kitCls K (.ref S) (.ref T) = some b := by
  have h2' : (clsIn K T).isSome = true := h2
  show (if ((clsIn K T).isSome && typeIn K (.ref T) == some (.type "type")) = true then subIn K (.ref S) (.ref T) else none) = some b
  rw [h2', h3, if_pos (by decide)]
  exact h4
theorem exm_of (h1 : subIn K (.ref T) (.type "BaseException") = some true) (h2 : isClsIn K T = true) (h3 : typeIn K (.ref T) = some (.type "type")) (h4 : subIn K (.ref S) (.ref T) = some b) : exmOne K (.ref S) (.ref T) = some b := by
  unfold exmOne
  rw [h1, if_pos (by decide)]
  exact kitc_of h2 h3 h4
theorem kit_same : kitOne K (.ref S) (.ref S) = some true := by
  unfold kitOne
  rw [if_pos (by simp)]
theorem kit_ne (h : (Value.ref S == Value.ref T) = false) (h2 : isClsIn K T = true) (h3 : typeIn K (.ref T) = some (.type "type")) (h4 : subIn K (.ref S) (.ref T) = some b) : kitOne K (.ref S) (.ref T) = some b := by
  unfold kitOne
  rw [h, if_neg Bool.false_ne_true]
  exact kitc_of h2 h3 h4
theorem kit_tyB {x : String} (h1 : kitMeta x = true) (h4 : subIn K (.ref S) (.type x) = some b) : kitOne K (.ref S) (.type x) = some b := by
  unfold kitOne
  rw [if_neg (by intro h; cases (beq_iff_eq.mp h))]
  show (if kitMeta x = true then subIn K (.ref S) (.type x) else none) = some b
  rw [if_pos h1]
  exact h4
theorem exm_tyB {x : String} (h1 : kitMeta x = true) (h2 : subIn K (.type x) (.type "BaseException") = some true) (h4 : subIn K (.ref S) (.type x) = some b) : exmOne K (.ref S) (.type x) = some b := by
  unfold exmOne
  rw [h2, if_pos (by decide)]
  show (if kitMeta x = true then subIn K (.ref S) (.type x) else none) = some b
  rw [if_pos h1]
  exact h4
theorem find_mro {C : Addr} {cd : ClassData} {n : Str} (h : clsIn K C = some cd) : findIn K (.ref C) n = alongIn K n cd.mro := by
  unfold clsIn at h
  unfold findIn
  split at h
  · rename_i e
    cases h
    simp only [e]
  · cases h
theorem drop_head {v : Value} {r : List Value} : ((v :: r).dropWhile (· != v)).drop 1 = r := by
  rw [List.dropWhile_cons_of_neg]
  · rfl
  · simp
theorem sup_of {C : Addr} {cd cdS : ClassData} {n : Str} {r : Option Value} (h1 : clsIn K C = some cd) (h2 : clsIn K S = some cdS) (hm : cd.mro = .ref C :: cdS.mro) (hf : findIn K (.ref S) n = some r) : ks_superIn K C C n = some r := by
  unfold ks_superIn
  rw [h1, Option.bind_some, hm, drop_head, ← find_mro h2]
  exact hf
theorem dfl1 {A : Addr} {v : V} {u oc : Value} {od : Option Addr} {n : Nat} {sl : Array (Option Value)} (l : K.lookup A = some ⟨oc, od, .seq #[u] n, sl⟩) (r : RelV v u) : DflV K (.ref A) [v] := .inr ⟨by simp, A, _, [u], n, rfl, l, rfl, .cons r .nil⟩
theorem dfl2 {A : Addr} {v v2 : V} {u u2 oc : Value} {od : Option Addr} {n : Nat} {sl : Array (Option Value)} (l : K.lookup A = some ⟨oc, od, .seq #[u, u2] n, sl⟩) (r : RelV v u) (r2 : RelV v2 u2) : DflV K (.ref A) [v, v2] := .inr ⟨by simp, A, _, [u, u2], n, rfl, l, rfl, .cons r (.cons r2 .nil)⟩
theorem exd_mk {mg : Str → Option Value} {sx : Str} {h : Heap} {x qual : Str} {st : Stmt} {ps : List Str} {C f c cc N : Addr} {nm q n : Str} {bs bm : List Value} {sn : List Str} {sub : List Value} {ab : Bool} {col : Option Bool} {dd : Option Addr} {k0 k1 k2 k3 k5 : Option Value}
    {cd cdS : ClassData} {oc doc pm ct cl ccl : Value} {od cld cdd : Option Addr} {osl csl ccs : Array (Option Value)} {vs : Array Value} {file : Str} {tf : Tok} (X : K.In h) (G : h.Ns mainGlobals mg) (aS : nsIn K mainGlobals sx = some (some (.ref S)))
    (a : nsIn K mainGlobals x = some (some (.ref C))) (xL : K.lookup C = some (excClassObj nm q C N bs bm true sn sub ab col dd k0 k1 k2 k3 k5 "ValueError.__new__")) (hbm : PySem.HandSPX.refsVE bm = true)
    (sa : findIn K (.ref C) "__setattr__" = some (some (.builtin "object.__setattr__"))) (exC : subIn K (.ref C) (.type "BaseException") = some true) (tyC : typeIn K (.ref C) = some (.type "type")) (kC : keepIn K (.ref C) = true)
    (mro : mroIn K C (.ref C) = some true) (h1 : clsIn K C = some cd) (h2 : clsIn K S = some cdS) (hm : cd.mro = .ref C :: cdS.mro) (hf : findIn K (.ref S) "__init__" = some (some (.builtin "ValueError.__init__"))) (sub' : subIn K (.ref C) (.type "ValueError") = some true)
    (hn : ps[1]? = some n) (fl : findIn K (.ref C) n = some none) (i1 : findIn K (.ref C) "__init__" = some (some (.ref f))) (i2 : typeIn K (.ref f) = some (.type "function"))
    (lf : K.lookup f = some ⟨oc, od, .func (fnX "__init__" qual (defArgs st) (defBody st) (defScope st) [("__class__", cc)] .none .none doc pm none (.ref c) ct), osl⟩) (cf : codeIn K (.ref c) qual = true)
    (lc : K.lookup c = some ⟨ccl, cdd, .fields vs, ccs⟩) (hv : vs[2]? = some (.str file tf)) (hfile : ((P.main.file : Str) == file) = true) (lcc : K.lookup cc = some ⟨cl, cld, .cell (some (.ref C)), csl⟩)
    (ns : nsIn K mainGlobals "super" = some none) (top : (P.main.scope.names.lookup ("super" : Str)).isSome = false) (op : nsIn K cStatics "thirdparty.any" = some none) : ExD P K mg x qual st ps C :=
  ⟨mg_of X G a, ⟨⟨⟨nm, q, N, bs, bm, sn, sub, ab, col, dd, k0, k1, k2, k3, k5, xL, hbm⟩, sa, exC, tyC, kC⟩, mro, sup_of h1 h2 hm hf, sub'⟩, fun m hm => by rw [hn] at hm; cases hm; exact fl,
    f, _, i1, i2, ⟨c, cc, oc, doc, pm, ct, cl, ccl, od, cld, cdd, osl, csl, ccs, vs, file, tf, cd, rfl, lf, cf, lc, hv, hfile, lcc, h1⟩, mg_none_of X G ns, top, op⟩
end
end Gx


set_option Elab.async false
set_option linter.all false
set_option maxRecDepth 100000
set_option maxHeartbeats 4000000
set_option pp.deepTerms false
set_option pp.maxSteps 300
namespace Toy
open PySem PySem.Spec PyProof.Rows L2 Gx
open L2H (RoomH roomH_mark cxH)
def top (i : Nat) : Stmt := PySem.Challenge.pw_carrylog_k10_whole_domination_is_kept.main.body.getD i (.Pass ⟨0, 0, 0, 0⟩)
section
variable {P : Program} {w : World} {K : PySem.W.Frag} {mg : Str → Option Value} {base : Heap}

set_option synthInstance.maxHeartbeats 400000
set_option synthInstance.maxSize 4000
local macro_rules | `(tactic| walk_at "szt") => `(tactic| first | assumption | exact Nat.le_of_ble_eq_true rfl | omega | (simp only [List.length_append, List.length_cons, List.length_nil, List.length_map, List.length_replicate, List.length_take, List.length_drop]; omega))
local macro_rules | `(tactic| walk_at "call") => `(tactic| fail)
local macro_rules | `(tactic| walk_at "go1") => `(tactic| first
  | refine Gx.Step.run ?_
  | ((with_reducible show Gx.rAdd _ _ _ _ _); first
    | with_reducible refine Gx.g_addT (by walk_at "szt") ?_
    | (with_reducible refine Gx.g_cat (by walk_at "szt") ?_; intro p_ H_ np_ e_ hp_))
  | ((with_reducible show Gx.rMul _ _ _ _ _); first
    | with_reducible refine Gx.g_mulT (by omega) ?_
    | with_reducible refine Gx.g_mulR (by omega) ?_
    | with_reducible refine Gx.g_mulL (by omega) ?_
    | with_reducible refine Gx.g_mulS (by omega) ?_
    | with_reducible refine Gx.g_mulX (Gx.mulx128 (by omega) (by omega)) ?_)
  | ((with_reducible show Gx.rMod _ _ _ _); with_reducible refine Gx.g_mod (by omega) ?_)
  | ((with_reducible show Gx.rDiv _ _ _ _); with_reducible refine Gx.g_div (Gx.cdivW (by omega) (by omega)) ?_)
  | ((with_reducible show L2.rIx _ _ _ _ _); first
    | with_reducible refine Gx.g_ixL (by with_unfolding_all rfl) ?_
    | with_reducible refine Gx.g_ixIN (by omega) ?_
    | with_reducible refine Gx.g_ixI (by omega) (by omega) ?_
    | with_reducible refine Gx.g_ixTx (by walk_at "szt") (by with_unfolding_all rfl) ?_
    | with_reducible refine Gx.g_ixT (by with_unfolding_all rfl) ?_)
  | ((with_reducible show Gx.rLen _ _ _ _); first
    | with_reducible refine Gx.g_lenT (by walk_at "szt") ?_
    | with_reducible refine Gx.g_len (Gx.len_s (by omega)) ?_)
  | ((with_reducible show Gx.rLstripC _ _ _ _); with_reducible refine Gx.g_lstrip0 (by walk_at "szt") ?_)
  | ((with_reducible show Gx.rStripC _ _ _ _); with_reducible refine Gx.g_strip01 (by walk_at "szt") ?_)
  | ((with_reducible show Gx.rNewL _ _ _); (with_reducible refine Gx.g_newL (by walk_at "szt") ?_; intro p_ H_ np_ e_ hp_))
  | ((with_reducible show Gx.rNewT _ _ _); (with_reducible refine Gx.g_newT (by walk_at "szt") ?_; intro p_ H_ np_ e_ hp_))
  | ((with_reducible show Gx.rSlX _ _ _ _ _ _); first
    | with_reducible refine Gx.g_slT (by walk_at "szt") ?_
    | (with_reducible refine Gx.g_slL ?_; intro p_ H_ np_ e_ hp_))
  | ((with_reducible show Gx.rListOf _ _ _ _); (with_reducible refine Gx.g_listOf ?_; intro p_ H_ np_ e_ hp_))
  | ((with_reducible show Gx.rRevL _ _ _ _); (with_reducible refine Gx.g_revL ?_; intro p_ H_ np_ e_ hp_))
  | ((with_reducible show L2.rSetL _ _ _ _ _); (with_reducible refine Gx.g_setI (by omega) (by omega) ?_; intro H_ e_ hp_))
  | ((with_reducible show L2.rSetL _ _ _ _ _); (with_reducible refine Gx.g_set (by with_unfolding_all rfl) ?_; intro H_ e_ hp_; try simp only [Int.reduceToNat, List.set_cons_zero, List.set_cons_succ] at hp_))
  | ((with_reducible show L2.rAppend _ _ _ _); (with_reducible refine Gx.g_app (by walk_at "szt") ?_; intro H_ e_ hp_))
  | ((with_reducible show Gx.rPow _ _ _ _); with_reducible refine Gx.g_pow (Gx.cpow_ok (by decide) (by decide) (by decide)) (by simp only [Int.reduceToNat, Int.reducePow]; exact rfl) ?_)
  | ((with_reducible show Gx.rApp _ _ _ _); (with_reducible refine Gx.g_rapp (by walk_at "szt") ?_; intro H_ e_ hp_))
  | ((with_reducible show L2.rSum _ _ _ _); (with_reducible refine Gx.g_sum ?_))
  | ((with_reducible show Gx.rStr _ _ _); (with_reducible refine Gx.g_str (by omega) ?_; intro hz_))
  | ((with_reducible show (L2.wipe _ _ = _ ∧ _)); refine ⟨rfl, ?_⟩)
  | ((with_reducible show L2.rAll _ _ _ _); first | refine Gx.g_allT ?_ | refine Gx.g_all ?_)
  | ((with_reducible show (List.length _ = _ ∧ List.length _ = _ ∧ _)); refine ⟨rfl, rfl, ?_⟩)
  | ((with_reducible show L2.gTup _ _ _ _ _ _ _); first
    | (refine Gx.g_pair (by assumption) ?_; intro T_ np_ e_ hp_)
    | refine Gx.g_gtup (by rfl) ?_)
  | walk_at "call")
local macro_rules | `(tactic| walk_at "go") => `(tactic| repeat walk_at "go1")
local macro_rules | `(tactic| walk_at "if1") => `(tactic| first
  | with_reducible refine Gx.g_ite (fun hI => ?_) (fun hI => ?_)
  | with_reducible refine Gx.g_iteN (fun hI => ?_) (fun hI => ?_)
  | with_reducible refine Gx.g_itB (fun hI => ?_) (fun hI => ?_)
  | with_reducible refine Gx.g_itNB (fun hI => ?_) (fun hI => ?_))
local macro_rules | `(tactic| walk_at "dead") => `(tactic| first | (exfalso; omega) | contradiction)
local macro_rules | `(tactic| walk_at "gos") => `(tactic| (walk_at "go"; first | (walk_at "if1" <;> first | walk_at "dead" | walk_at "gos") | skip))


abbrev s_InvalidInput___init__ : Stmt := (inClass (top 2) 0)
abbrev s_NoPlace___init__ : Stmt := (inClass (top 3) 0)
structure EcF (P : Program) (K : PySem.W.Frag) (mg : Str → Option Value) (c_StoreError c_InvalidInput c_NoPlace : Addr) : Prop where
  g_StoreError : mg "StoreError" = some (.ref c_StoreError)
  g_InvalidInput : mg "InvalidInput" = some (.ref c_InvalidInput)
  g_NoPlace : mg "NoPlace" = some (.ref c_NoPlace)
  d_InvalidInput : ExD P K mg "InvalidInput" "InvalidInput.__init__" s_InvalidInput___init__ ["self", "field"] c_InvalidInput
  xf_InvalidInput : XfC K c_InvalidInput
  xc_InvalidInput : ExcC K c_InvalidInput
  em_InvalidInput_StoreError : PySem.W.exmOne K (.ref c_InvalidInput) (.ref c_StoreError) = some true
  kt_InvalidInput_StoreError : PySem.W.kitOne K (.ref c_InvalidInput) (.ref c_StoreError) = some true
  em_InvalidInput_InvalidInput : PySem.W.exmOne K (.ref c_InvalidInput) (.ref c_InvalidInput) = some true
  kt_InvalidInput_InvalidInput : PySem.W.kitOne K (.ref c_InvalidInput) (.ref c_InvalidInput) = some true
  em_InvalidInput_NoPlace : PySem.W.exmOne K (.ref c_InvalidInput) (.ref c_NoPlace) = some false
  kt_InvalidInput_NoPlace : PySem.W.kitOne K (.ref c_InvalidInput) (.ref c_NoPlace) = some false
  em_InvalidInput_ValueError : PySem.W.exmOne K (.ref c_InvalidInput) (.type "ValueError") = some true
  kt_InvalidInput_ValueError : PySem.W.kitOne K (.ref c_InvalidInput) (.type "ValueError") = some true
  d_NoPlace : ExD P K mg "NoPlace" "NoPlace.__init__" s_NoPlace___init__ ["self", "length"] c_NoPlace
  xf_NoPlace : XfC K c_NoPlace
  xc_NoPlace : ExcC K c_NoPlace
  em_NoPlace_StoreError : PySem.W.exmOne K (.ref c_NoPlace) (.ref c_StoreError) = some true
  kt_NoPlace_StoreError : PySem.W.kitOne K (.ref c_NoPlace) (.ref c_StoreError) = some true
  em_NoPlace_InvalidInput : PySem.W.exmOne K (.ref c_NoPlace) (.ref c_InvalidInput) = some false
  kt_NoPlace_InvalidInput : PySem.W.kitOne K (.ref c_NoPlace) (.ref c_InvalidInput) = some false
  em_NoPlace_NoPlace : PySem.W.exmOne K (.ref c_NoPlace) (.ref c_NoPlace) = some true
  kt_NoPlace_NoPlace : PySem.W.kitOne K (.ref c_NoPlace) (.ref c_NoPlace) = some true
  em_NoPlace_ValueError : PySem.W.exmOne K (.ref c_NoPlace) (.type "ValueError") = some true
  kt_NoPlace_ValueError : PySem.W.kitOne K (.ref c_NoPlace) (.type "ValueError") = some true
variable {c_StoreError c_InvalidInput c_NoPlace : Addr}
local macro_rules | `(tactic| walk_at "exm") => `(tactic| first | exact EcF.em_InvalidInput_StoreError (by assumption) | exact EcF.em_InvalidInput_InvalidInput (by assumption) | exact EcF.em_InvalidInput_NoPlace (by assumption) | exact EcF.em_InvalidInput_ValueError (by assumption) | exact EcF.em_NoPlace_StoreError (by assumption) | exact EcF.em_NoPlace_InvalidInput (by assumption) | exact EcF.em_NoPlace_NoPlace (by assumption) | exact EcF.em_NoPlace_ValueError (by assumption))
local macro_rules | `(tactic| walk_at "kit") => `(tactic| first | exact EcF.kt_InvalidInput_StoreError (by assumption) | exact EcF.kt_InvalidInput_InvalidInput (by assumption) | exact EcF.kt_InvalidInput_NoPlace (by assumption) | exact EcF.kt_InvalidInput_ValueError (by assumption) | exact EcF.kt_NoPlace_StoreError (by assumption) | exact EcF.kt_NoPlace_InvalidInput (by assumption) | exact EcF.kt_NoPlace_NoPlace (by assumption) | exact EcF.kt_NoPlace_ValueError (by assumption))
local macro_rules | `(tactic| walk_at "xcc") => `(tactic| first | exact EcF.xc_InvalidInput (by assumption) | exact EcF.xc_NoPlace (by assumption))
local macro_rules | `(tactic| walk_at "xfc") => `(tactic| first | exact EcF.xf_InvalidInput (by assumption) | exact EcF.xf_NoPlace (by assumption))
local macro_rules | `(tactic| walk_at "xfd") => `(tactic| first | exact (EcF.d_InvalidInput (by assumption)).fld _ rfl | exact (EcF.d_NoPlace (by assumption)).fld _ rfl)
theorem ns_InvalidInput___init__ : NdefX.NScope ["self", "field", "__class__"] ["self", "field"] ["__class__"] (defScope s_InvalidInput___init__) := NdefX.nscope_by (by decide +kernel)
theorem ex_InvalidInput {C : Addr} (D : ExD P K mg "InvalidInput" "InvalidInput.__init__" s_InvalidInput___init__ ["self", "field"] C) : ExK P w K mg base 1 "InvalidInput" C "field" := by
  obtain ⟨f, fd, i1, i2, F⟩ := D.ini
  have hb : ∀ (c cc : Addr) (doc pm ct : Value) (us : List Value), us.length = ["self", "field"].length → bindArgs (PySem.W.fnX "__init__" "InvalidInput.__init__" (defArgs s_InvalidInput___init__) (defBody s_InvalidInput___init__) (defScope s_InvalidInput___init__) [("__class__", cc)] .none .none doc pm none (.ref c) ct) ⟨us, []⟩ = pure ((["self", "field"] : List Str).zip us) := fun c cc doc pm ct us hl => match us, hl with | [_, _], _ => rfl
  refine ⟨D.mgC, D.sup.oex, f, fd, i1, i2, sup_ok (k := 0) (sp := spEx1 C "field") F ns_InvalidInput___init__ rfl rfl rfl rfl rfl hb (fun _ _ _ _ => rfl) (fun _ _ _ _ => rfl) (fun _ _ _ _ => ⟨_, rfl⟩) (fun _ _ _ _ => rfl) (fun vs H Q E h => by obtain ⟨a, v, rfl, _⟩ := h; rfl) ?_, Binds.all fun us hl => by
    obtain ⟨c, cc, oc, doc, pm, ct, _, _, _, _, _, _, _, _, _, _, _, _, e, _⟩ := F.ex
    rw [e]
    exact hb c cc doc pm ct us hl⟩
  intro c cc A outer s H vs Q E hr h
  obtain ⟨a, v, rfl, ⟨ha, hv⟩, k⟩ := h
  refine ⟨_, _, a, C, [v], (pa_cons (pe_joined (PJ.cons pe_str (PJ.cons (pe_fmt (pv 1)) PJ.nil))) pa_nil), (pss_one (ps_ost (pv 0) (pv 1))), rfl, D.sup, ha, ?_⟩
  refine Gx.Step.run ?_
  refine js_any (fun out => ?_) _ _ (List.forall_mem_cons.mpr ⟨shorty_c (by decide +kernel), List.forall_mem_cons.mpr ⟨shorty_f rfl hv, fun t ht => by cases ht⟩⟩) (by decide +kernel)
  refine Gx.Step.run ?_
  exact ⟨by simp, ha, g_ost ha D.sup.oex (D.fld _ rfl) rfl rfl k⟩
theorem ns_NoPlace___init__ : NdefX.NScope ["self", "length", "__class__"] ["self", "length"] ["__class__"] (defScope s_NoPlace___init__) := NdefX.nscope_by (by decide +kernel)
theorem ex_NoPlace {C : Addr} (D : ExD P K mg "NoPlace" "NoPlace.__init__" s_NoPlace___init__ ["self", "length"] C) : ExK P w K mg base 1 "NoPlace" C "length" := by
  obtain ⟨f, fd, i1, i2, F⟩ := D.ini
  have hb : ∀ (c cc : Addr) (doc pm ct : Value) (us : List Value), us.length = ["self", "length"].length → bindArgs (PySem.W.fnX "__init__" "NoPlace.__init__" (defArgs s_NoPlace___init__) (defBody s_NoPlace___init__) (defScope s_NoPlace___init__) [("__class__", cc)] .none .none doc pm none (.ref c) ct) ⟨us, []⟩ = pure ((["self", "length"] : List Str).zip us) := fun c cc doc pm ct us hl => match us, hl with | [_, _], _ => rfl
  refine ⟨D.mgC, D.sup.oex, f, fd, i1, i2, sup_ok (k := 0) (sp := spEx1 C "length") F ns_NoPlace___init__ rfl rfl rfl rfl rfl hb (fun _ _ _ _ => rfl) (fun _ _ _ _ => rfl) (fun _ _ _ _ => ⟨_, rfl⟩) (fun _ _ _ _ => rfl) (fun vs H Q E h => by obtain ⟨a, v, rfl, _⟩ := h; rfl) ?_, Binds.all fun us hl => by
    obtain ⟨c, cc, oc, doc, pm, ct, _, _, _, _, _, _, _, _, _, _, _, _, e, _⟩ := F.ex
    rw [e]
    exact hb c cc doc pm ct us hl⟩
  intro c cc A outer s H vs Q E hr h
  obtain ⟨a, v, rfl, ⟨ha, hv⟩, k⟩ := h
  refine ⟨_, _, a, C, [v], (pa_cons (pe_joined (PJ.cons pe_str (PJ.cons (pe_fmt (pv 1)) (PJ.cons pe_str PJ.nil)))) pa_nil), (pss_one (ps_ost (pv 0) (pv 1))), rfl, D.sup, ha, ?_⟩
  refine Gx.Step.run ?_
  refine js_any (fun out => ?_) _ _ (List.forall_mem_cons.mpr ⟨shorty_c (by decide +kernel), List.forall_mem_cons.mpr ⟨shorty_f rfl hv, List.forall_mem_cons.mpr ⟨shorty_c (by decide +kernel), fun t ht => by cases ht⟩⟩⟩) (by decide +kernel)
  refine Gx.Step.run ?_
  exact ⟨by simp, ha, g_ost ha D.sup.oex (D.fld _ rfl) rfl rfl k⟩

local macro_rules | `(tactic| walk_at "fmt") => `(tactic| first | assumption | exact .inr ⟨_, rfl, by omega, by omega⟩ | exact .inl ⟨_, rfl, by decide +kernel⟩ | exact .inl ⟨_, rfl, by assumption⟩)
local macro_rules | `(tactic| walk_at "call") => `(tactic| ((with_reducible show Gx.rMk1 _ _ _ _ _); refine Gx.g_mk1 (by walk_at "fmt") ?_; intro d_ H_ np_ e_ hp_))
local macro_rules | `(tactic| walk_at "call") => `(tactic| first
  | ((with_reducible show L2.wAs _ _ _ _ _ _ _ _ _ _); first | (refine Gx.g_wasT (by walk_at "exm") ?_; intro a_ na_) | refine Gx.g_wasF (by walk_at "exm") ?_)
  | ((with_reducible show L2.wOnly _ _ _ _ _ _ _ _ _); first | (refine Gx.g_wonT (by walk_at "exm") ?_; intro a_ na_) | refine Gx.g_wonF (by walk_at "exm") ?_)
  | ((with_reducible show Gx.rIsS _ _ _ _ _ _ _); refine Gx.g_isS (by walk_at "xcc") (fun u h => h) (by walk_at "kit") ?_)
  | ((with_reducible show Gx.rXs _ _ _ _ _ _ _ _); refine Gx.g_xs (by walk_at "xfc") (by walk_at "xfd") (by exact rfl) ?_))

class Bx (b : Addr) (c : outParam Addr) (H : Hp) : Prop where
  ex : ∃ (ns : List Int) (i cur st cnt : Int), H b = some (.lst [.ref c, .int i, .int cur, .int st, .int cnt]) ∧ H c = some (.lst (ns.map V.int)) ∧ c ≠ b ∧ 0 ≤ i
instance (priority := low) bxStep {b c : Addr} {cs : List Addr} {H1 H : Hp} [h : Bx b c H1] [r : Chg cs H1 H] [n : NotIn b cs] [m : NotIn c cs] : Bx b c H := ⟨by
  obtain ⟨ns, i, cu, st, cn, h1, h2, h3⟩ := h.ex
  exact ⟨ns, i, cu, st, cn, r.keep _ _ n.out h1, r.keep _ _ m.out h2, h3⟩⟩
instance liveBx1 {b c : Addr} {H : Hp} [h : Bx b c H] : Live H b := ⟨by
  obtain ⟨ns, i, cu, st, cn, h1, h2, h3⟩ := h.ex
  exact ⟨_, h1⟩⟩
theorem liveBx2 {b c : Addr} {H : Hp} (h : Bx b c H) : Live H c := ⟨by
  obtain ⟨ns, i, cu, st, cn, h1, h2, h3⟩ := h.ex
  exact ⟨_, h2⟩⟩
def spBox (K : PySem.W.Frag) : Sp := fun vs H Q _ => ∃ (a : Addr) (ns : List Int), vs = [.ref a] ∧ (SqC K H a (ns.map V.int) ∧ ns.length < 90000) ∧ ∀ b c H', Nw H b → Ex H H' → Bx b c H' → Q (.ref b) H'
theorem use_box {K : PySem.W.Frag} {a : Addr} {ns : List Int} {H : Hp} {Q : VK} {E : XK} [hs : SqC K H a (ns.map V.int)] (h : ns.length < 90000) (q : ∀ b c H', Nw H b → Ex H H' → Bx b c H' → Q (.ref b) H') : spBox K ([.ref a] ++ []) H Q E := ⟨a, ns, rfl, ⟨hs, h⟩, q⟩
abbrev s_law_box : Stmt := (top 24)
abbrev N_law_box : List Str := ["_law_script", "_law_cell"]
theorem sc_law_box : FnScope N_law_box ["_law_script"] (defScope s_law_box) := ⟨rfl, rfl, rfl, by decide +kernel, rfl, by decide +kernel, by decide +kernel⟩
theorem cl_law_box (T : Bl mg) (Z : EcF P K mg c_StoreError c_InvalidInput c_NoPlace) (D : DfG K mg "_law_box" s_law_box [] [])  : ClG CX0 P w K mg base 3 "_law_box" s_law_box ["_law_script"] [] [] (spBox K) := by
  have nd := sc_law_box.nd
  refine D.okP sc_law_box (fun vs H Q E h => ?_) (fun f cdv A outer s H vs Q E hr h => ?_)
  · obtain ⟨a, ns, rfl, _⟩ := h
    rfl
  · obtain ⟨a, ns, rfl, ⟨hs, hl⟩, k⟩ := h
    have hu := hu64 hr
    refine ⟨_, (pss_one (ps_ret (pe_lst (pa_cons (pe_lc (own := [("_law_cell", 1)]) (g := gName 1) rfl nd (pi_listK (K := K) (by rfl) (pe_slice (slAnyK (K := K) (by rfl)) (pv 0) po_none (po_some pe_int))) (blkOk_by (own := [("_law_cell", 1)]) (N := N_law_box) (sc := defScope s_law_box) (by decide +kernel)) (fun _ _ _ _ _ => (pg_name (i := 1) nd rfl (Or.inl rfl))) (fun _ _ _ _ _ => pts_nil) (fun _ _ _ _ _ => (pe_callB callAbs (by rfl) T.abs (by decide +kernel) (pa_cons (pe_callTy callInt (by rfl) T.int (by decide +kernel) (pa_cons (pv 1) pa_nil)) pa_nil)))) (pa_cons pe_int (pa_cons pe_int (pa_cons pe_int (pa_cons pe_int pa_nil)))))))), ?_⟩
    try dsimp only [L2.cxOf, L2.Cx.nox]
    simp only [L2.start, N_law_box, List.map_cons, List.map_nil, List.length_cons, List.length_nil, Nat.reduceAdd, Nat.reduceSub, List.replicate_succ, List.replicate_zero, List.cons_append, List.nil_append]

    walk_at "gos"
    rename_i p H1 np1 e1 hp1
    refine Gx.lcL_A (fun v => ∃ m, v = V.int m) (Nat.le_trans (cutV_length _ _ _) (by rw [List.length_map]; omega)) (fun D i x acc H' hx hD e hp hz => ?_) (fun D acc H' hD e hp hl hP => ?_)
    · obtain ⟨m, rfl⟩ : ∃ m, x = V.int m := by
        have h1 := List.mem_of_getElem? hx
        have h2 := List.mem_of_mem_take h1
        have h3 := List.mem_of_mem_drop h2
        obtain ⟨m, _, h⟩ := List.mem_map.mp h3
        exact ⟨m, h.symm⟩
      walk_at "gos"
      exact ⟨Gx.rel, _, rfl, _, rfl⟩
    · obtain ⟨ms, rfl⟩ := Gx.of_all hP
      walk_at "gos"
      exact k _ D _ Gx.new Gx.rel ⟨ms, 0, 0, _, 0, At.eq, At.eq, Gx.ne_, by omega⟩
local macro_rules | `(tactic| walk_at "call") => `(tactic| ((with_reducible show spBox _ _ _ _ _); refine use_box (by omega) ?_; intro b_ c_ H_ np_ e_ hB_))
def spTake : Sp := fun vs H Q _ => ∃ (b c : Addr) (size : Int), vs = [.ref b, .int size] ∧ (Bx b c H ∧ 0 < size ∧ size < 2 ^ 200) ∧ ∀ d H', 0 ≤ d → d < size → ExB b H H' → Bx b c H' → Q (.int d) H'
theorem use_take {b c : Addr} {size : Int} {H : Hp} {Q : VK} {E : XK} [hb : Bx b c H] (h1 : 0 < size) (h2 : size < 2 ^ 200) (q : ∀ d H', 0 ≤ d → d < size → ExB b H H' → Bx b c H' → Q (.int d) H') : spTake ([.ref b, .int size] ++ []) H Q E := ⟨b, c, size, rfl, ⟨hb, h1, h2⟩, q⟩
abbrev s_law_take : Stmt := (top 25)
abbrev N_law_take : List Str := ["_law_box_here", "_law_size", "_law_cell", "_law_digit"]
theorem sc_law_take : FnScope N_law_take ["_law_box_here", "_law_size"] (defScope s_law_take) := ⟨rfl, rfl, rfl, by decide +kernel, rfl, by decide +kernel, by decide +kernel⟩
theorem cl_law_take (T : Bl mg) (Z : EcF P K mg c_StoreError c_InvalidInput c_NoPlace) (D : DfG K mg "_law_take" s_law_take [] [])  : ClG CX0 P w K mg base 3 "_law_take" s_law_take ["_law_box_here", "_law_size"] [] [] spTake := by
  have nd := sc_law_take.nd
  refine D.okP sc_law_take (fun vs H Q E h => ?_) (fun f cdv A outer s H vs Q E hr h => ?_)
  · obtain ⟨b, c, size, rfl, _⟩ := h
    rfl
  · obtain ⟨b, c, size, rfl, ⟨⟨ns, i, cur, st, cnt, hb, hc, ncb, hi⟩, hm, hm2⟩, k⟩ := h
    have hu := hu64 hr
    refine ⟨_, (pss_cons (ps_if (PW.pt (pw_and (pt_cmpR (opEqK (K := K) (by rfl) (by exact hu)) (pe_ix (ixSeqK (K := K) (by rfl)) (pv 0) pe_int (fun _ _ => rfl)) pe_int (nomark _)) (pw_and1 (pt_cmpR opLt (pe_ix (ixSeqK (K := K) (by rfl)) (pv 0) pe_int (fun _ _ => rfl)) (pe_callB (callLenK (K := K) (by rfl)) (by rfl) T.len (by decide +kernel) (pa_cons (pe_ix (ixSeqK (K := K) (by rfl)) (pv 0) pe_int (fun _ _ => rfl)) pa_nil)) (nomark _)))))
      (pss_cons (ps_set (i := 2) nd rfl (Or.inl rfl) (pe_callTy callInt (by rfl) T.int (by decide +kernel) (pa_cons (pe_ix (ixSeqK (K := K) (by rfl)) (pe_ix (ixSeqK (K := K) (by rfl)) (pv 0) pe_int (fun _ _ => rfl)) (pe_ix (ixSeqK (K := K) (by rfl)) (pv 0) pe_int (fun _ _ => rfl)) (fun _ _ => rfl)) pa_nil)))
    (pss_cons (ps_asg (pe_op (opAddK (K := K) (by rfl)) (pe_ix (ixSeqK (K := K) (by rfl)) (pv 0) pe_int (fun _ _ => rfl)) pe_int) (pg_sub (pv 0) pe_int set_list))
    (pss_cons (ps_asg (pe_op opMod (pe_callTy callInt (by rfl) T.int (by decide +kernel) (pa_cons (pe_op (opAddK (K := K) (by rfl)) (pe_op (opAddK (K := K) (by rfl)) (pe_op (opMulK (K := K) (by rfl)) (pe_ix (ixSeqK (K := K) (by rfl)) (pv 0) pe_int (fun _ _ => rfl)) pe_int) (pe_op (opMulK (K := K) (by rfl)) (pe_op opMod (pv 2) pe_int) pe_int)) pe_int) pa_nil)) pe_int) (pg_sub (pv 0) pe_int set_list))
    (pss_one (ps_if (pt_cmpR opGe (pv 2) (pe_op opPow pe_int pe_int) (nomark _))
      (pss_one (ps_asg (pv 2) (pg_sub (pv 0) pe_int set_list)))
      pss_nil)))))
      pss_nil)
    (pss_cons (ps_if (pt_cmpR opGt (pe_ix (ixSeqK (K := K) (by rfl)) (pv 0) pe_int (fun _ _ => rfl)) pe_int (nomark _))
      (pss_cons (ps_set (i := 3) nd rfl (Or.inl rfl) (pe_op opMod (pe_callTy callInt (by rfl) T.int (by decide +kernel) (pa_cons (pe_ix (ixSeqK (K := K) (by rfl)) (pv 0) pe_int (fun _ _ => rfl)) pa_nil)) (pv 1)))
    (pss_cons (ps_asg (pe_op opDiv (pe_ix (ixSeqK (K := K) (by rfl)) (pv 0) pe_int (fun _ _ => rfl)) (pv 1)) (pg_sub (pv 0) pe_int set_list))
    (pss_one (ps_ret (pv 3)))))
      pss_nil)
    (pss_cons (ps_asg (pe_op (opAddK (K := K) (by rfl)) (pe_ix (ixSeqK (K := K) (by rfl)) (pv 0) pe_int (fun _ _ => rfl)) pe_int) (pg_sub (pv 0) pe_int set_list))
    (pss_cons (ps_asg (pe_op opMod (pe_callTy callInt (by rfl) T.int (by decide +kernel) (pa_cons (pe_op (opAddK (K := K) (by rfl)) (pe_op (opMulK (K := K) (by rfl)) (pe_ix (ixSeqK (K := K) (by rfl)) (pv 0) pe_int (fun _ _ => rfl)) pe_int) (pe_op (opMulK (K := K) (by rfl)) (pe_ix (ixSeqK (K := K) (by rfl)) (pv 0) pe_int (fun _ _ => rfl)) pe_int)) pa_nil)) pe_int) (pg_sub (pv 0) pe_int set_list))
    (pss_one (ps_ret (pe_op opMod (pe_op opDiv (pe_op opMod (pe_callTy callInt (by rfl) T.int (by decide +kernel) (pa_cons (pe_op (opAddK (K := K) (by rfl)) (pe_op (opMulK (K := K) (by rfl)) (pe_ix (ixSeqK (K := K) (by rfl)) (pv 0) pe_int (fun _ _ => rfl)) pe_int) (pe_ix (ixSeqK (K := K) (by rfl)) (pv 0) pe_int (fun _ _ => rfl))) pa_nil)) pe_int) pe_int) (pv 1)))))))), ?_⟩
    try dsimp only [L2.cxOf, L2.Cx.nox]
    simp only [L2.start, N_law_take, List.map_cons, List.map_nil, List.length_cons, List.length_nil, Nat.reduceAdd, Nat.reduceSub, List.replicate_succ, List.replicate_zero, List.cons_append, List.nil_append]

    have hb : At H b _ := ⟨hb⟩
    have hc : At H c _ := ⟨hc⟩
    have ncb : NeC c b := ⟨ncb⟩
    walk_at "gos"
    all_goals exact k _ _ (Int.emod_nonneg _ (by omega)) (Int.emod_lt_of_pos _ hm) Gx.rel ⟨ns, _, _, _, _, At.eq, At.eq, ncb.ne, by omega⟩
local macro_rules | `(tactic| walk_at "call") => `(tactic| ((with_reducible show spTake _ _ _ _); refine use_take (by omega) (by omega) ?_; intro d_ H_ h0_ h1_ e_ hB_))

/-! words, plainly -/
def Wd (l : List Bool) : Prop := l.length ≤ 64 ∧ l.head? ≠ some false
theorem Wd.nil : Wd [] := ⟨by simp, by simp⟩
theorem Wd.start {l : List Bool} (h : Wd l) : (l.take ([false] : List Bool).length == [false]) = false := by
  obtain ⟨_, h⟩ := h
  cases l with
  | nil => rfl
  | cons b r => cases b <;> simp_all
theorem wd_one {r : List Bool} (h : r.length ≤ 63) : Wd (true :: r) := ⟨by simp; omega, by simp⟩
theorem dw_wd {l : List Bool} (h : l.head? ≠ some false) (n : Nat) : (List.replicate n false ++ l).dropWhile (! ·) = l := by
  induction n with
  | zero =>
    cases l with
    | nil => rfl
    | cons b r => cases b <;> simp_all
  | succ n ih => rw [List.replicate_succ, List.cons_append, List.dropWhile_cons]; simpa using ih
theorem dw_self {l : List Bool} (h : l.head? ≠ some false) : l.dropWhile (! ·) = l := dw_wd h 0
theorem cnt2 (l : List Bool) : l.count false + l.count true = l.length := by
  induction l with
  | nil => rfl
  | cons b r ih => cases b <;> simp [List.count_cons] <;> omega
/-- the depths of the ones among the first i -/
def depTo (l : List Bool) (i : Nat) : List Int := ((List.range i).filter fun k => l[k]? == some true).map fun k => (l.length : Int) - (k : Nat)
def dep (l : List Bool) : List Int := depTo l l.length
theorem depTo_zero (l : List Bool) : depTo l 0 = [] := rfl
theorem depTo_succ {l : List Bool} {i : Nat} {b : Bool} (h : l[i]? = some b) : depTo l (i + 1) = depTo l i ++ (if b = true then [(l.length : Int) - (i : Nat)] else []) := by
  unfold depTo
  rw [List.range_succ, List.filter_append, List.map_append]
  congr 1
  cases b <;> simp [h]
theorem depTo_len (l : List Bool) (i : Nat) : (depTo l i).length ≤ i := by
  unfold depTo
  rw [List.length_map]
  exact Nat.le_trans (List.length_filter_le _ _) (by simp)
theorem dep_nil : dep [] = [] := rfl
theorem dep_cons (b : Bool) (r : List Bool) : dep (b :: r) = (if b = true then [((r.length : Int) + 1)] else []) ++ dep r := by
  unfold dep depTo
  rw [List.length_cons, List.range_succ_eq_map, List.filter_cons]
  have e : ((List.map Nat.succ (List.range r.length)).filter fun k => (b :: r)[k]? == some true).map (fun k => ((r.length + 1 : Nat) : Int) - (k : Nat)) = ((List.range r.length).filter fun k => r[k]? == some true).map fun k => (r.length : Int) - (k : Nat) := by
    rw [List.filter_map, List.map_map]
    have e1 : ((fun k => (b :: r)[k]? == some true) ∘ Nat.succ) = fun k => r[k]? == some true := by
      funext k
      simp
    rw [e1]
    apply List.map_congr_left
    intro k _
    simp only [Function.comp]
    omega
  cases b with
  | true => simp only [List.getElem?_cons_zero, beq_self_eq_true, if_true, List.map_cons, e, List.singleton_append]; simp
  | false =>
    rw [if_neg (by simp), if_neg (by simp), e]
    rfl
theorem dep_len (l : List Bool) : (dep l).length = l.count true := by
  induction l with
  | nil => rfl
  | cons b r ih => rw [dep_cons, List.length_append, ih, List.count_cons]; cases b <;> simp <;> omega
theorem dep_le (l : List Bool) : ∀ d ∈ dep l, 1 ≤ d ∧ d ≤ l.length := by
  induction l with
  | nil => intro d h; simp [dep_nil] at h
  | cons b r ih =>
    intro d h
    rw [dep_cons] at h
    rcases List.mem_append.mp h with h | h
    · cases b <;> simp at h
      subst h
      simp only [List.length_cons]
      omega
    · have := ih d h
      simp only [List.length_cons]
      omega
/-- each is greater than what follows, the last than 0 -/
def Dec : List Int → Prop
  | [] => True
  | d :: r => d > r.headD 0 ∧ Dec r
def wof : List Int → List (List Bool)
  | [] => []
  | d :: r => (true :: List.replicate (d - r.headD 0 - 1).toNat false) :: wof r
theorem dec_dep (l : List Bool) : Dec (dep l) := by
  induction l with
  | nil => trivial
  | cons b r ih =>
    rw [dep_cons]
    cases b with
    | false => simpa using ih
    | true =>
      refine ⟨?_, ih⟩
      show (r.length : Int) + 1 > (dep r).headD 0
      cases e : dep r with
      | nil => show (r.length : Int) + 1 > 0; omega
      | cons x y =>
        have := (dep_le r x (by rw [e]; exact List.mem_cons_self ..)).2
        simp
        omega
theorem dep_zeros (n : Nat) (r : List Bool) : dep (List.replicate n false ++ r) = dep r := by
  induction n with
  | zero => rfl
  | succ n ih => rw [List.replicate_succ, List.cons_append, dep_cons]; simpa using ih
theorem tw_dw (r : List Bool) : r = List.replicate (r.takeWhile (! ·)).length false ++ r.dropWhile (! ·) := by
  induction r with
  | nil => rfl
  | cons b r ih =>
    cases b with
    | true => rfl
    | false =>
      rw [List.takeWhile_cons, List.dropWhile_cons]
      simp only [Bool.not_false, if_true, List.length_cons, List.replicate_succ, List.cons_append]
      rw [← ih]
theorem dw_head (r : List Bool) : (r.dropWhile (! ·)).head? ≠ some false := by
  induction r with
  | nil => simp
  | cons b r ih => cases b <;> simp [List.dropWhile_cons, ih]
theorem head_dep {l : List Bool} (h : l.head? ≠ some false) : (dep l).headD 0 = (l.length : Int) := by
  cases l with
  | nil => rfl
  | cons b r =>
    cases b with
    | false => simp at h
    | true => rw [dep_cons]; simp
theorem wof_dep : ∀ (n : Nat) (l : List Bool), l.length ≤ n → l.head? ≠ some false → (wof (dep l)).flatten = l
  | 0, l, hn, _ => by
    have e : l = [] := List.length_eq_zero_iff.mp (by omega)
    rw [e]
    rfl
  | n + 1, [], _, _ => rfl
  | n + 1, false :: r, _, h => by simp at h
  | n + 1, true :: r, hn, _ => by
    have h2 := dw_head r
    have e := tw_dw r
    generalize hk : (r.takeWhile (! ·)).length = k at e
    generalize hm : r.dropWhile (! ·) = m at e h2
    have hl : r.length = k + m.length := by
      have := congrArg List.length e
      simpa using this
    rw [dep_cons, e, dep_zeros]
    simp only [if_true, List.singleton_append, wof, List.flatten_cons]
    rw [wof_dep n m (by simp only [List.length_cons] at hn; omega) h2, head_dep h2]
    have e3 : (((List.replicate k false ++ m).length : Int) + 1 - (m.length : Int) - 1).toNat = k := by
      simp
      omega
    rw [e3]
    rfl
theorem wof_at : ∀ (ds : List Int) (i : Nat) (d e : Int), ds[i]? = some d → (ds.drop 1 ++ [0])[i]? = some e → (wof ds)[i]? = some (true :: List.replicate (d - e - 1).toNat false)
  | [], i, d, e, h, _ => by simp at h
  | x :: r, 0, d, e, h, k => by
    simp at h
    subst h
    cases r with
    | nil => simp at k; subst k; simp [wof]
    | cons y r => simp at k; subst k; simp [wof]
  | x :: r, i + 1, d, e, h, k => by
    have h' : r[i]? = some d := by simpa using h
    show (wof r)[i]? = _
    refine wof_at r i d e h' ?_
    cases r with
    | nil => simp at h'
    | cons y r => simpa using k
theorem dec_at : ∀ (ds : List Int) (i : Nat) (d e : Int), Dec ds → ds[i]? = some d → (ds.drop 1 ++ [0])[i]? = some e → d > e
  | [], i, d, e, _, h, _ => by simp at h
  | x :: r, 0, d, e, hd, h, k => by
    simp at h
    subst h
    cases r with
    | nil => simp at k; subst k; simpa using hd.1
    | cons y r => simp at k; subst k; simpa using hd.1
  | x :: r, i + 1, d, e, hd, h, k => by
    have h' : r[i]? = some d := by simpa using h
    refine dec_at r i d e hd.2 h' ?_
    cases r with
    | nil => simp at h'
    | cons y r => simpa using k
theorem wof_len (ds : List Int) : (wof ds).length = ds.length := by
  induction ds with
  | nil => rfl
  | cons d r ih => simp [wof, ih]
theorem dec_pos : ∀ (ds : List Int), Dec ds → ∀ d ∈ ds, 0 < d
  | [], _, d, h => by simp at h
  | [x], hd, d, h => by
    have := hd.1
    simp at this h
    omega
  | x :: y :: r, hd, d, h => by
    have h2 := dec_pos (y :: r) hd.2
    rcases List.mem_cons.mp h with e | h
    · have := hd.1
      have := h2 y (List.mem_cons_self ..)
      simp at *
      omega
    · exact h2 d h

def spAtLeast : Sp := fun vs H Q _ => ∃ (v m : Int) (z : Str), vs = [.int v, .int m, .str z] ∧ m ≤ v ∧ Q .non H
def spAtMost : Sp := fun vs H Q _ => ∃ (v m : Int) (z : Str), vs = [.int v, .int m, .str z] ∧ v ≤ m ∧ Q .non H
def spWhole : Sp := fun vs H Q _ => ∃ (v : Int) (z : Str), vs = [.int v, .str z] ∧ Q .non H
def spGood : Sp := fun vs H Q _ => ∃ (l : List Bool) (z : Str), vs = [.str (tx l), .str z] ∧ Wd l ∧ Q .non H
abbrev s_at_least : Stmt := (top 5)
abbrev N_at_least : List Str := ["value", "least", "field"]
theorem sc_at_least : FnScope N_at_least ["value", "least", "field"] (defScope s_at_least) := ⟨rfl, rfl, rfl, by decide +kernel, rfl, by decide +kernel, by decide +kernel⟩
theorem cl_at_least (T : Bl mg) (Z : EcF P K mg c_StoreError c_InvalidInput c_NoPlace) (D : DfG K mg "at_least" s_at_least [] [])  : ClG CX0 P w K mg base 3 "at_least" s_at_least ["value", "least", "field"] [] [] spAtLeast := by
  have nd := sc_at_least.nd
  refine D.okP sc_at_least (fun vs H Q E h => ?_) (fun f cdv A outer s H vs Q E hr h => ?_)
  · obtain ⟨v, m, z, rfl, _⟩ := h
    rfl
  · obtain ⟨v, m, z, rfl, h, k⟩ := h
    have hu := hu64 hr
    refine ⟨_, (pss_one (ps_if (pt_cmpR opLt (pv 0) (pv 1) (nomark _))
      (pss_one ps_never)
      pss_nil)), ?_⟩
    try dsimp only [L2.cxOf, L2.Cx.nox]
    simp only [L2.start, N_at_least, List.map_cons, List.map_nil, List.length_cons, List.length_nil, Nat.reduceAdd, Nat.reduceSub, List.replicate_succ, List.replicate_zero, List.cons_append, List.nil_append]

    walk_at "gos"
    exact k
abbrev s_at_most : Stmt := (top 6)
abbrev N_at_most : List Str := ["value", "most", "field"]
theorem sc_at_most : FnScope N_at_most ["value", "most", "field"] (defScope s_at_most) := ⟨rfl, rfl, rfl, by decide +kernel, rfl, by decide +kernel, by decide +kernel⟩
theorem cl_at_most (T : Bl mg) (Z : EcF P K mg c_StoreError c_InvalidInput c_NoPlace) (D : DfG K mg "at_most" s_at_most [] [])  : ClG CX0 P w K mg base 3 "at_most" s_at_most ["value", "most", "field"] [] [] spAtMost := by
  have nd := sc_at_most.nd
  refine D.okP sc_at_most (fun vs H Q E h => ?_) (fun f cdv A outer s H vs Q E hr h => ?_)
  · obtain ⟨v, m, z, rfl, _⟩ := h
    rfl
  · obtain ⟨v, m, z, rfl, h, k⟩ := h
    have hu := hu64 hr
    refine ⟨_, (pss_one (ps_if (pt_cmpR opGt (pv 0) (pv 1) (nomark _))
      (pss_one ps_never)
      pss_nil)), ?_⟩
    try dsimp only [L2.cxOf, L2.Cx.nox]
    simp only [L2.start, N_at_most, List.map_cons, List.map_nil, List.length_cons, List.length_nil, Nat.reduceAdd, Nat.reduceSub, List.replicate_succ, List.replicate_zero, List.cons_append, List.nil_append]

    walk_at "gos"
    exact k
abbrev s_good_word : Stmt := (top 7)
abbrev N_good_word : List Str := ["word", "field"]
theorem sc_good_word : FnScope N_good_word ["word", "field"] (defScope s_good_word) := ⟨rfl, rfl, rfl, by decide +kernel, rfl, by decide +kernel, by decide +kernel⟩
theorem cl_good_word (T : Bl mg) (Z : EcF P K mg c_StoreError c_InvalidInput c_NoPlace) (D : DfG K mg "good_word" s_good_word [] [])  : ClG CX0 P w K mg base 3 "good_word" s_good_word ["word", "field"] [] [] spGood := by
  have nd := sc_good_word.nd
  refine D.okP sc_good_word (fun vs H Q E h => ?_) (fun f cdv A outer s H vs Q E hr h => ?_)
  · obtain ⟨l, z, rfl, _⟩ := h
    rfl
  · obtain ⟨l, z, rfl, h, k⟩ := h
    have hu := hu64 hr
    refine ⟨_, (pss_one (ps_if (PW.pt (pw_or (pt_val (pe_bmK (K := K) (by rfl) PySem.F.plainAttrs_str PySem.F.slot_str_startswith PySem.F.type_str_startswith mtStarts (pv 0) (pa_cons pe_str pa_nil))) (pw_or1 (pt_cmpR (opNeK (K := K) (by rfl) (by exact hu)) (pe_bmK (K := K) (by rfl) PySem.F.plainAttrs_str PySem.F.slot_str_strip PySem.F.type_str_strip mtStripC (pv 0) (pa_cons pe_str pa_nil)) pe_str (nomark _)))))
      (pss_one ps_never)
      pss_nil)), ?_⟩
    try dsimp only [L2.cxOf, L2.Cx.nox]
    simp only [L2.start, N_good_word, List.map_cons, List.map_nil, List.length_cons, List.length_nil, Nat.reduceAdd, Nat.reduceSub, List.replicate_succ, List.replicate_zero, List.cons_append, List.nil_append]

    have h1 := h.1
    walk_at "go"
    rw [h.start]
    walk_at "gos"
    exact k
local macro_rules | `(tactic| walk_at "call") => `(tactic| first
  | ((with_reducible show spAtLeast _ _ _ _); refine ⟨_, _, _, rfl, by omega, ?_⟩)
  | ((with_reducible show spAtMost _ _ _ _); refine ⟨_, _, _, rfl, by omega, ?_⟩)
  | ((with_reducible show spWhole _ _ _ _); refine ⟨_, _, rfl, ?_⟩)
  | ((with_reducible show spGood _ _ _ _); refine ⟨_, _, rfl, by assumption, ?_⟩))
def spTrim : Sp := fun vs H Q _ => ∃ (l : List Bool), vs = [.str (tx l)] ∧ l.length ≤ 1000 ∧ Q (.str (tx (l.dropWhile (! ·)))) H
def spOnes : Sp := fun vs H Q _ => ∃ (l : List Bool), vs = [.str (tx l)] ∧ Q (.int (l.count true : Nat)) H
def spDeps : Sp := fun vs H Q _ => ∃ (l : List Bool), vs = [.str (tx l)] ∧ l.length ≤ 1000 ∧ ∀ p H', Nw H p → Ex H H' → At H' p (.lst ((dep l).map V.int)) → Q (.ref p) H'
abbrev s_trimmed : Stmt := (top 16)
abbrev N_trimmed : List Str := ["text"]
theorem sc_trimmed : FnScope N_trimmed ["text"] (defScope s_trimmed) := ⟨rfl, rfl, rfl, by decide +kernel, rfl, by decide +kernel, by decide +kernel⟩
theorem cl_trimmed (T : Bl mg) (Z : EcF P K mg c_StoreError c_InvalidInput c_NoPlace) (D : DfG K mg "_trimmed" s_trimmed [] [])  : ClG CX0 P w K mg base 3 "_trimmed" s_trimmed ["text"] [] [] spTrim := by
  have nd := sc_trimmed.nd
  refine D.okP sc_trimmed (fun vs H Q E h => ?_) (fun f cdv A outer s H vs Q E hr h => ?_)
  · obtain ⟨l, rfl, _⟩ := h
    rfl
  · obtain ⟨l, rfl, h, k⟩ := h
    have hu := hu64 hr
    refine ⟨_, (pss_one (ps_ret (pe_bmK (K := K) (by rfl) PySem.F.plainAttrs_str PySem.F.slot_str_lstrip PySem.F.type_str_lstrip mtLstripC (pv 0) (pa_cons pe_str pa_nil)))), ?_⟩
    try dsimp only [L2.cxOf, L2.Cx.nox]
    simp only [L2.start, N_trimmed, List.map_cons, List.map_nil, List.length_cons, List.length_nil, Nat.reduceAdd, Nat.reduceSub, List.replicate_succ, List.replicate_zero, List.cons_append, List.nil_append]

    walk_at "gos"
    exact k
abbrev s_ones : Stmt := (top 17)
abbrev N_ones : List Str := ["word"]
theorem sc_ones : FnScope N_ones ["word"] (defScope s_ones) := ⟨rfl, rfl, rfl, by decide +kernel, rfl, by decide +kernel, by decide +kernel⟩
theorem cl_ones (T : Bl mg) (Z : EcF P K mg c_StoreError c_InvalidInput c_NoPlace) (D : DfG K mg "_ones" s_ones [] [])  : ClG CX0 P w K mg base 3 "_ones" s_ones ["word"] [] [] spOnes := by
  have nd := sc_ones.nd
  refine D.okP sc_ones (fun vs H Q E h => ?_) (fun f cdv A outer s H vs Q E hr h => ?_)
  · obtain ⟨l, rfl, _⟩ := h
    rfl
  · obtain ⟨l, rfl, k⟩ := h
    have hu := hu64 hr
    refine ⟨_, (pss_one (ps_ret (pe_bmK (K := K) (by rfl) PySem.F.plainAttrs_str PySem.F.slot_str_count PySem.F.type_str_count mtCount (pv 0) (pa_cons pe_str pa_nil)))), ?_⟩
    try dsimp only [L2.cxOf, L2.Cx.nox]
    simp only [L2.start, N_ones, List.map_cons, List.map_nil, List.length_cons, List.length_nil, Nat.reduceAdd, Nat.reduceSub, List.replicate_succ, List.replicate_zero, List.cons_append, List.nil_append]

    walk_at "gos"
    exact k
abbrev s_depth_list : Stmt := (top 18)
abbrev N_depth_list : List Str := ["word", "place", "mark"]
theorem sc_depth_list : FnScope N_depth_list ["word"] (defScope s_depth_list) := ⟨rfl, rfl, rfl, by decide +kernel, rfl, by decide +kernel, by decide +kernel⟩
theorem cl_depth_list (T : Bl mg) (Z : EcF P K mg c_StoreError c_InvalidInput c_NoPlace) (D : DfG K mg "_depth_list" s_depth_list [] [])  : ClG CX0 P w K mg base 3 "_depth_list" s_depth_list ["word"] [] [] spDeps := by
  have nd := sc_depth_list.nd
  refine D.okP sc_depth_list (fun vs H Q E h => ?_) (fun f cdv A outer s H vs Q E hr h => ?_)
  · obtain ⟨l, rfl, _⟩ := h
    rfl
  · obtain ⟨l, rfl, h, k⟩ := h
    have hu := hu64 hr
    refine ⟨_, (pss_one (ps_ret (pe_lc (own := [("place", 1), ("mark", 2)]) (g := gTup K 2 (gCons (gName 1) (gCons (gName 2) gNil))) rfl nd (pi_enumS (by rfl) T.enumerate (pa_cons (pv 0) pa_nil)) (blkOk_by (own := [("place", 1), ("mark", 2)]) (N := N_depth_list) (sc := defScope s_depth_list) (by decide +kernel)) (fun _ _ _ _ _ => (pg_tup rfl (pgs_cons (pg_name (i := 1) nd rfl (Or.inl rfl)) (pgs_cons (pg_name (i := 2) nd rfl (Or.inl rfl)) pgs_nil)))) (fun _ _ _ _ _ => (pts_one (pt_cmpR (opEqK (K := K) (by rfl) (by exact hu)) (pv 2) pe_str (nomark _)))) (fun _ _ _ _ _ => (pe_op opSub (pe_callB (callLenK (K := K) (by rfl)) (by rfl) T.len (by decide +kernel) (pa_cons (pv 0) pa_nil)) (pv 1)))))), ?_⟩
    try dsimp only [L2.cxOf, L2.Cx.nox]
    simp only [L2.start, N_depth_list, List.map_cons, List.map_nil, List.length_cons, List.length_nil, Nat.reduceAdd, Nat.reduceSub, List.replicate_succ, List.replicate_zero, List.cons_append, List.nil_append]

    walk_at "gos"
    refine Gx.lcE_F (fun i => (depTo l i).map V.int) rfl (fun i hi => ?_) (fun D i c x H' H'' hi hc hD e hp hz y => ?_) (fun D H' hD e hp => ?_)
    · rw [tx_size] at hi
      rw [List.length_map]
      have := depTo_len l i
      omega
    · obtain ⟨b, hb, eb⟩ := Gx.tx_char hc
      rw [eb] at y
      have hs := depTo_succ hb
      walk_at "go"
      cases b with
      | true =>
        walk_at "go"
        rw [show decide ([true] = [true]) = true from rfl]
        walk_at "go"
        refine ⟨Gx.rel, ?_⟩
        rw [hs]
        simp
      | false =>
        walk_at "go"
        rw [show decide ([false] = [true]) = false from rfl]
        walk_at "go"
        refine ⟨Gx.rel, ?_⟩
        rw [hs]
        simp
    · rw [tx_size] at hp
      exact k D H' hD e hp
local macro_rules | `(tactic| walk_at "call") => `(tactic| first
  | ((with_reducible show spTrim _ _ _ _); refine ⟨_, rfl, by walk_at "szt", ?_⟩)
  | ((with_reducible show spOnes _ _ _ _); refine ⟨_, rfl, ?_⟩)
  | ((with_reducible show spDeps _ _ _ _); refine ⟨_, rfl, by walk_at "szt", ?_⟩; intro p_ H_ np_ e_ hp_))

def spNormal : Sp := fun vs H Q _ => ∃ (l : List Bool), vs = [.str (tx l)] ∧ l.length ≤ 1000 ∧ Q (.str (tx (l.dropWhile (! ·)))) H
def spLiving : Sp := fun vs H Q _ => ∃ (l : List Bool), vs = [.str (tx l)] ∧ Wd l ∧ Q (.int (l.count true : Nat)) H
def spDepths : Sp := fun vs H Q _ => ∃ (l : List Bool), vs = [.str (tx l)] ∧ Wd l ∧ ∀ p H', Nw H p → Ex H H' → At H' p (.lst ((dep l).map V.int)) → Q (.ref p) H'
def spNewest : Sp := fun vs H Q _ => ∃ (l : List Bool), vs = [.str (tx l)] ∧ Wd l ∧ Q (if l.count true = 0 then .non else .int ((l.count true : Nat) - 1)) H
def spBest : Sp := fun vs H Q _ => ∃ (n : Nat), vs = [.int (n : Nat)] ∧ n ≤ 1000 ∧ Q (.str (tx (List.replicate n true))) H
def spWorst : Sp := fun vs H Q _ => ∃ (n m : Nat), vs = [.int (n : Nat), .int (m : Nat)] ∧ (n ≤ m ∧ m ≤ 1000 ∧ (n = 0 → m = 0)) ∧ Q (.str (tx (List.replicate n true ++ List.replicate (m - n) false))) H
def spWordOf (K : PySem.W.Frag) : Sp := fun vs H Q _ => ∃ (p : Addr) (ds : List Int), vs = [.ref p] ∧ (SqC K H p (ds.map V.int) ∧ Dec ds ∧ ds.length ≤ 100 ∧ (∀ d ∈ ds, d ≤ 100) ∧ (wof ds).flatten.length ≤ 1000) ∧ ∀ H', Ex H H' → Q (.str (tx (wof ds).flatten)) H'
abbrev s_newest : Stmt := (top 15)
abbrev N_newest : List Str := ["word", "ones"]
theorem sc_newest : FnScope N_newest ["word"] (defScope s_newest) := ⟨rfl, rfl, rfl, by decide +kernel, rfl, by decide +kernel, by decide +kernel⟩
theorem cl_newest (T : Bl mg) (Z : EcF P K mg c_StoreError c_InvalidInput c_NoPlace) (D : DfG K mg "newest" s_newest [] []) (C_ones : ClG CX0 P w K mg base 3 "_ones" s_ones ["word"] [] [] spOnes) (C_good_word : ClG CX0 P w K mg base 3 "good_word" s_good_word ["word", "field"] [] [] spGood) : ClG CX0 P w K mg base 5 "newest" s_newest ["word"] [] [] spNewest := by
  have nd := sc_newest.nd
  refine D.okP sc_newest (fun vs H Q E h => ?_) (fun f cdv A outer s H vs Q E hr h => ?_)
  · obtain ⟨l, rfl, _⟩ := h
    rfl
  · obtain ⟨l, rfl, h, k⟩ := h
    have hu := hu64 hr
    refine ⟨_, (pss_cons (ps_expr (pe_g C_good_word (by exact hr.mono (by decide)) (E := fun _ => E0) (fun σ => passC0 σ) (fun _ _ _ _ _ _ us hl => match us, hl with | [_, _], _ => rfl) (pa_cons (pv 0) (pa_cons pe_str pa_nil))))
    (pss_cons (ps_set (i := 1) nd rfl (Or.inl rfl) (pe_g C_ones (by exact hr.mono (by decide)) (E := fun _ => E0) (fun σ => passC0 σ) (fun _ _ _ _ _ _ us hl => match us, hl with | [_], _ => rfl) (pa_cons (pv 0) pa_nil)))
    (pss_cons (ps_if (pt_cmpR (opEqK (K := K) (by rfl) (by exact hu)) (pv 1) pe_int (nomark _))
      (pss_one (ps_ret pe_non))
      pss_nil)
    (pss_one (ps_ret (pe_op opSub (pv 1) pe_int)))))), ?_⟩
    try dsimp only [L2.cxOf, L2.Cx.nox]
    simp only [L2.start, N_newest, List.map_cons, List.map_nil, List.length_cons, List.length_nil, Nat.reduceAdd, Nat.reduceSub, List.replicate_succ, List.replicate_zero, List.cons_append, List.nil_append]

    have h1 := h.1
    walk_at "gos"
    · rw [if_pos (by omega)] at k
      exact k
    · rw [if_neg (by omega)] at k
      exact k
/-! the order, plainly -/
def Above (a b : List Int) : Prop := a.length ≤ b.length ∧ ∀ i, i < a.length → a.getD i 0 ≤ b.getD i 0
instance (a b : List Int) : Decidable (Above a b) := inferInstanceAs (Decidable (_ ∧ _))
theorem above_refl (a : List Int) : Above a a := ⟨Nat.le_refl _, fun _ _ => Int.le_refl _⟩
theorem above_trans {a b c : List Int} (h : Above a b) (k : Above b c) : Above a c :=
  ⟨Nat.le_trans h.1 k.1, fun i hi => Int.le_trans (h.2 i hi) (k.2 i (by have := h.1; omega))⟩
theorem above_anti {a b : List Int} (h : Above a b) (k : Above b a) : a = b := by
  have hl : a.length = b.length := Nat.le_antisymm h.1 k.1
  apply List.ext_getElem hl
  intro i h1 h2
  have x := h.2 i h1
  have y := k.2 i h2
  rw [List.getD_eq_getElem?_getD, List.getD_eq_getElem?_getD, List.getElem?_eq_getElem h1, List.getElem?_eq_getElem h2] at x y
  simp at x y
  omega
theorem dep_inj {l m : List Bool} (h : Wd l) (k : Wd m) (e : dep l = dep m) : l = m := by
  rw [← wof_dep l.length l (Nat.le_refl _) h.2, ← wof_dep m.length m (Nat.le_refl _) k.2, e]
def spDom : Sp := fun vs H Q _ => ∃ (l m : List Bool), vs = [.str (tx l), .str (tx m)] ∧ (Wd l ∧ Wd m) ∧ ∀ H', Ex H H' → Q (.bl (decide (Above (dep l) (dep m)))) H'
abbrev s_dominates : Stmt := (top 14)
abbrev N_dominates : List Str := ["first", "second", "better", "worse", "depth", "allowed"]
theorem sc_dominates : FnScope N_dominates ["first", "second"] (defScope s_dominates) := ⟨rfl, rfl, rfl, by decide +kernel, rfl, by decide +kernel, by decide +kernel⟩
theorem cl_dominates (T : Bl mg) (Z : EcF P K mg c_StoreError c_InvalidInput c_NoPlace) (D : DfG K mg "dominates" s_dominates [] []) (C_depth_list : ClG CX0 P w K mg base 3 "_depth_list" s_depth_list ["word"] [] [] spDeps) (C_good_word : ClG CX0 P w K mg base 3 "good_word" s_good_word ["word", "field"] [] [] spGood) : ClG CX0 P w K mg base 5 "dominates" s_dominates ["first", "second"] [] [] spDom := by
  have nd := sc_dominates.nd
  refine D.okP sc_dominates (fun vs H Q E h => ?_) (fun f cdv A outer s H vs Q E hr h => ?_)
  · obtain ⟨l, m, rfl, _⟩ := h
    rfl
  · obtain ⟨l, m, rfl, ⟨h, h'⟩, k⟩ := h
    have hu := hu64 hr
    refine ⟨_, (pss_cons (ps_expr (pe_g C_good_word (by exact hr.mono (by decide)) (E := fun _ => E0) (fun σ => passC0 σ) (fun _ _ _ _ _ _ us hl => match us, hl with | [_, _], _ => rfl) (pa_cons (pv 0) (pa_cons pe_str pa_nil))))
    (pss_cons (ps_expr (pe_g C_good_word (by exact hr.mono (by decide)) (E := fun _ => E0) (fun σ => passC0 σ) (fun _ _ _ _ _ _ us hl => match us, hl with | [_, _], _ => rfl) (pa_cons (pv 1) (pa_cons pe_str pa_nil))))
    (pss_cons (ps_set (i := 2) nd rfl (Or.inl rfl) (pe_g C_depth_list (by exact hr.mono (by decide)) (E := fun _ => E0) (fun σ => passC0 σ) (fun _ _ _ _ _ _ us hl => match us, hl with | [_], _ => rfl) (pa_cons (pv 0) pa_nil)))
    (pss_cons (ps_set (i := 3) nd rfl (Or.inl rfl) (pe_g C_depth_list (by exact hr.mono (by decide)) (E := fun _ => E0) (fun σ => passC0 σ) (fun _ _ _ _ _ _ us hl => match us, hl with | [_], _ => rfl) (pa_cons (pv 1) pa_nil)))
    (pss_cons (ps_if (pt_cmpR opGt (pe_callB (callLenK (K := K) (by rfl)) (by rfl) T.len (by decide +kernel) (pa_cons (pv 2) pa_nil)) (pe_callB (callLenK (K := K) (by rfl)) (by rfl) T.len (by decide +kernel) (pa_cons (pv 3) pa_nil)) (nomark _))
      (pss_one (ps_ret pe_bl))
      pss_nil)
    (pss_cons (ps_for PassesOwn.never rfl (pi_zipK (K := K) (by rfl) (by rfl) T.zip (pa_cons (pv 2) (pa_cons (pv 3) pa_nil))) (pg_tup rfl (pgs_cons (pg_name (i := 4) nd rfl (Or.inl rfl)) (pgs_cons (pg_name (i := 5) nd rfl (Or.inl rfl)) pgs_nil)))
      (pss_one (ps_if (pt_cmpR opGt (pv 4) (pv 5) (nomark _))
      (pss_one (ps_ret pe_bl))
      pss_nil)))
    (pss_one (ps_ret pe_bl)))))))), ?_⟩
    try dsimp only [L2.cxOf, L2.Cx.nox]
    simp only [L2.start, N_dominates, List.map_cons, List.map_nil, List.length_cons, List.length_nil, Nat.reduceAdd, Nat.reduceSub, List.replicate_succ, List.replicate_zero, List.cons_append, List.nil_append]

    have h1 := h.1
    have h2 := h'.1
    walk_at "gos"
    · rename_i hI
      exact Gx.q_decN' (k _ Gx.rel) (fun z => by have := z.1; omega)
    · rename_i p H1 np1 e1 hp1 q H2 np2 e2 hp2 hI
      refine Gx.forZ [] (dep l).length (fun i σ' H' => ∃ s4 s5, σ' = [some (.str (tx l)), some (.str (tx m)), some (.ref p), some (.ref q), s4, s5] ∧ ∀ j, j < i → (dep l).getD j 0 ≤ (dep m).getD j 0) (by rw [List.length_map, List.length_map]; omega) ⟨_, _, rfl, fun j hj => absurd hj (Nat.not_lt_zero _)⟩ ?_ ?_
      · rintro i c d x σ' H' H'' hi hc hd e ⟨s4, s5, rfl, hP⟩ y
        obtain ⟨c, ic, rfl⟩ := Gx.map_at hc
        obtain ⟨d, id', rfl⟩ := Gx.map_at hd
        have ec := Gx.getD_at (d := (0 : Int)) ic
        have ed := Gx.getD_at (d := (0 : Int)) id'
        walk_at "gos"
        · exact Gx.q_decN' (k _ Gx.rel) (fun z => by have := z.2 i hi; omega)
        · refine Gx.li ⟨_, _, rfl, fun j hj => ?_⟩
          by_cases h : j = i
          · rw [h, ec, ed]; omega
          · exact hP j (by omega)
      · rintro σ' H' e ⟨s4, s5, rfl, hP⟩
        walk_at "gos"
        exact Gx.q_dec' (k _ Gx.rel) ⟨by omega, hP⟩


/-! words: put steps, plainly -/
def trimW (l : List Bool) : List Bool := l.dropWhile (! ·)
def carW (n : Nat) (l : List Bool) : List Bool := if l = [] ∨ n ≤ l.length then l else trimW (l.drop 1 ++ [true])
def carN (n : Nat) : Nat → List Bool → List Bool
  | 0, l => l
  | k + 1, l => carN n k (carW n l)
theorem carN_fix {n : Nat} {l : List Bool} (h : carW n l = l) : ∀ k, carN n k l = l
  | 0 => rfl
  | k + 1 => by rw [carN, h, carN_fix h k]
theorem trim_len (l : List Bool) : (trimW l).length ≤ l.length := by
  unfold trimW
  rw [← Gx.drop_tw, List.length_drop]
  omega
theorem car_len (n : Nat) (l : List Bool) : (carW n l).length ≤ max l.length 1 := by
  unfold carW
  split
  · omega
  · have := trim_len (l.drop 1 ++ [true])
    simp only [List.length_append, List.length_drop, List.length_cons, List.length_nil] at this
    rename_i h
    have : l.length ≠ 0 := fun z => h (.inl (List.length_eq_zero_iff.mp z))
    omega
/-- the place of the index-th one -/
def placeW (l : List Bool) (i : Nat) : Nat := l.length - ((dep l).getD i 0).toNat
def relW (l : List Bool) (i : Nat) : List Bool := trimW (l.take (placeW l i) ++ [false] ++ l.drop (placeW l i + 1))
theorem head_trim (l : List Bool) : (trimW l).head? ≠ some false := dw_head l
theorem wd_trim {l : List Bool} (h : l.length ≤ 64) : Wd (trimW l) := ⟨Nat.le_trans (trim_len l) h, head_trim l⟩
theorem wd_car {n : Nat} {l : List Bool} (h : Wd l) : Wd (carW n l) := by
  refine ⟨?_, ?_⟩
  · by_cases z : l = []
    · subst z; simp [carW]
    · have h1 := car_len n l
      have h2 := h.1
      have : l.length ≠ 0 := fun y => z (List.length_eq_zero_iff.mp y)
      omega
  · unfold carW
    split
    · exact h.2
    · exact head_trim _
def spRel : Sp := fun vs H Q _ => ∃ (l : List Bool) (i : Nat), vs = [.str (tx l), .int (i : Nat)] ∧ (l.length ≤ 100 ∧ i < l.count true) ∧ ∀ H', Ex H H' → Q (.str (tx (relW l i))) H'
def spRelN : Sp := fun vs H Q _ => ∃ (l : List Bool) (v : V), vs = [.str (tx l), v] ∧ l.length ≤ 100 ∧ ((v = .non ∧ ∀ H', Ex H H' → Q (.str (tx l)) H') ∨ ∃ i : Nat, v = .int (i : Nat) ∧ i < l.count true ∧ ∀ H', Ex H H' → Q (.str (tx (relW l i))) H')
abbrev s_released : Stmt := (top 19)
abbrev N_released : List Str := ["word", "index", "place"]
theorem sc_released : FnScope N_released ["word", "index"] (defScope s_released) := ⟨rfl, rfl, rfl, by decide +kernel, rfl, by decide +kernel, by decide +kernel⟩
theorem cl_released (T : Bl mg) (Z : EcF P K mg c_StoreError c_InvalidInput c_NoPlace) (D : DfG K mg "_released" s_released [] []) (C_trimmed : ClG CX0 P w K mg base 3 "_trimmed" s_trimmed ["text"] [] [] spTrim) (C_depth_list : ClG CX0 P w K mg base 3 "_depth_list" s_depth_list ["word"] [] [] spDeps) : ClG CX0 P w K mg base 5 "_released" s_released ["word", "index"] [] [] spRelN := by
  have nd := sc_released.nd
  refine D.okP sc_released (fun vs H Q E h => ?_) (fun f cdv A outer s H vs Q E hr h => ?_)
  · obtain ⟨l, v, rfl, _⟩ := h
    rfl
  · obtain ⟨l, v, rfl, hl, k⟩ := h
    have hu := hu64 hr
    refine ⟨_, (pss_cons (ps_if (pt_cmpR opIsN (pv 1) pe_non (nomark _))
      (pss_one (ps_ret (pv 0)))
      pss_nil)
    (pss_cons (ps_set (i := 2) nd rfl (Or.inl rfl) (pe_op opSub (pe_callB (callLenK (K := K) (by rfl)) (by rfl) T.len (by decide +kernel) (pa_cons (pv 0) pa_nil)) (pe_ix (ixSeqK (K := K) (by rfl)) (pe_g C_depth_list (by exact hr.mono (by decide)) (E := fun _ => E0) (fun σ => passC0 σ) (fun _ _ _ _ _ _ us hl => match us, hl with | [_], _ => rfl) (pa_cons (pv 0) pa_nil)) (pv 1) (fun _ _ => rfl))))
    (pss_one (ps_ret (pe_g C_trimmed (by exact hr.mono (by decide)) (E := fun _ => E0) (fun σ => passC0 σ) (fun _ _ _ _ _ _ us hl => match us, hl with | [_], _ => rfl) (pa_cons (pe_op (opAddK (K := K) (by rfl)) (pe_op (opAddK (K := K) (by rfl)) (pe_slice (slAnyK (K := K) (by rfl)) (pv 0) po_none (po_some (pv 2))) pe_str) (pe_slice (slAnyK (K := K) (by rfl)) (pv 0) (po_some (pe_op (opAddK (K := K) (by rfl)) (pv 2) pe_int)) po_none)) pa_nil)))))), ?_⟩
    try dsimp only [L2.cxOf, L2.Cx.nox]
    simp only [L2.start, N_released, List.map_cons, List.map_nil, List.length_cons, List.length_nil, Nat.reduceAdd, Nat.reduceSub, List.replicate_succ, List.replicate_zero, List.cons_append, List.nil_append]

    have hdl := dep_len l
    rcases k with ⟨rfl, k⟩ | ⟨i, rfl, hi, k⟩
    · walk_at "gos"
      exact k _ Gx.rel
    ·
      have hm : (dep l).getD i 0 ∈ dep l := Gx.getD_mem (by omega)
      have hb := dep_le l _ hm
      obtain ⟨p, hp⟩ : ∃ p : Nat, (p : Int) = (l.length : Int) - (dep l).getD i 0 := ⟨((l.length : Int) - (dep l).getD i 0).toNat, by omega⟩
      have epl : placeW l i = p := by unfold placeW; omega
      walk_at "gos"
      rw [← hp]
      walk_at "gos"
      rw [show ((p : Nat) : Int) + 1 = ((p + 1 : Nat) : Int) from by omega, Gx.cutB_to, Gx.cutB_from]
      rw [← epl]
      exact k _ Gx.rel
local macro_rules | `(tactic| walk_at "call") => `(tactic| ((with_reducible show spRelN _ _ _ _); first
  | (refine ⟨_, _, rfl, by walk_at "szt", .inl ⟨rfl, ?_⟩⟩; intro H_ e_)
  | (refine ⟨_, _, rfl, by walk_at "szt", .inr ⟨_, rfl, by assumption, ?_⟩⟩; intro H_ e_)))
def spCar : Sp := fun vs H Q _ => ∃ (l : List Bool) (n : Nat), vs = [.str (tx l), .int (n : Nat)] ∧ l.length ≤ 100 ∧ Q (.str (tx (carW n l))) H
abbrev s_carried : Stmt := (top 20)
abbrev N_carried : List Str := ["word", "places"]
theorem sc_carried : FnScope N_carried ["word", "places"] (defScope s_carried) := ⟨rfl, rfl, rfl, by decide +kernel, rfl, by decide +kernel, by decide +kernel⟩
theorem cl_carried (T : Bl mg) (Z : EcF P K mg c_StoreError c_InvalidInput c_NoPlace) (D : DfG K mg "_carried" s_carried [] []) (C_trimmed : ClG CX0 P w K mg base 3 "_trimmed" s_trimmed ["text"] [] [] spTrim) : ClG CX0 P w K mg base 5 "_carried" s_carried ["word", "places"] [] [] spCar := by
  have nd := sc_carried.nd
  refine D.okP sc_carried (fun vs H Q E h => ?_) (fun f cdv A outer s H vs Q E hr h => ?_)
  · obtain ⟨l, n, rfl, _⟩ := h
    rfl
  · obtain ⟨l, n, rfl, hl, k⟩ := h
    have hu := hu64 hr
    refine ⟨_, (pss_cons (ps_if (PW.pt (pw_or (pt_cmpR (opEqK (K := K) (by rfl) (by exact hu)) (pv 0) pe_str (nomark _)) (pw_or1 (pt_cmpR opGe (pe_callB (callLenK (K := K) (by rfl)) (by rfl) T.len (by decide +kernel) (pa_cons (pv 0) pa_nil)) (pv 1) (nomark _)))))
      (pss_one (ps_ret (pv 0)))
      pss_nil)
    (pss_one (ps_ret (pe_g C_trimmed (by exact hr.mono (by decide)) (E := fun _ => E0) (fun σ => passC0 σ) (fun _ _ _ _ _ _ us hl => match us, hl with | [_], _ => rfl) (pa_cons (pe_op (opAddK (K := K) (by rfl)) (pe_slice (slAnyK (K := K) (by rfl)) (pv 0) (po_some pe_int) po_none) pe_str) pa_nil))))), ?_⟩
    try dsimp only [L2.cxOf, L2.Cx.nox]
    simp only [L2.start, N_carried, List.map_cons, List.map_nil, List.length_cons, List.length_nil, Nat.reduceAdd, Nat.reduceSub, List.replicate_succ, List.replicate_zero, List.cons_append, List.nil_append]

    walk_at "gos"
    · rename_i h
      rw [show carW n l = l from if_pos (.inl h)] at k
      exact k
    · rename_i h
      rw [show carW n l = l from if_pos (.inr (by omega))] at k
      exact k
    · rename_i h1 h2
      rw [Gx.cutB_1]
      rw [show carW n l = trimW (l.drop 1 ++ [true]) from if_neg (fun z => z.elim h1 (fun z => h2 (by omega)))] at k
      exact k
local macro_rules | `(tactic| walk_at "call") => `(tactic| ((with_reducible show spCar _ _ _ _); refine ⟨_, _, rfl, by walk_at "szt", ?_⟩))
def spCarN : Sp := fun vs H Q _ => ∃ (l : List Bool) (c n : Nat), vs = [.str (tx l), .int (c : Nat), .int (n : Nat)] ∧ (l.length ≤ 99 ∧ c < 2 ^ 60) ∧ ∀ H', Ex H H' → Q (.str (tx (carN n c l))) H'
theorem carN_len (n : Nat) : ∀ (k : Nat) (l : List Bool), (carN n k l).length ≤ max l.length 1
  | 0, l => by show l.length ≤ _; omega
  | k + 1, l => by
    have := carN_len n k (carW n l)
    have := car_len n l
    rw [carN]
    omega
theorem carN_add (n : Nat) : ∀ (a b : Nat) (l : List Bool), carN n (a + b) l = carN n b (carN n a l)
  | 0, b, l => by rw [Nat.zero_add]; rfl
  | a + 1, b, l => by rw [Nat.succ_add, carN, carN, carN_add n a b]
abbrev s_carried_often : Stmt := (top 21)
abbrev N_carried_often : List Str := ["word", "count", "places", "current", "_", "moved"]
theorem sc_carried_often : FnScope N_carried_often ["word", "count", "places"] (defScope s_carried_often) := ⟨rfl, rfl, rfl, by decide +kernel, rfl, by decide +kernel, by decide +kernel⟩
theorem cl_carried_often (T : Bl mg) (Z : EcF P K mg c_StoreError c_InvalidInput c_NoPlace) (D : DfG K mg "_carried_often" s_carried_often [] []) (C_carried : ClG CX0 P w K mg base 5 "_carried" s_carried ["word", "places"] [] [] spCar) : ClG CX0 P w K mg base 7 "_carried_often" s_carried_often ["word", "count", "places"] [] [] spCarN := by
  have nd := sc_carried_often.nd
  refine D.okP sc_carried_often (fun vs H Q E h => ?_) (fun f cdv A outer s H vs Q E hr h => ?_)
  · obtain ⟨l, c, n, rfl, _⟩ := h
    rfl
  · obtain ⟨l, c, n, rfl, ⟨hl, hc⟩, k⟩ := h
    have hu := hu64 hr
    refine ⟨_, (pss_cons (ps_set (i := 3) nd rfl (Or.inl rfl) (pv 0))
    (pss_cons (ps_for PassesOwn.never rfl (pi_range1 rfl T.range (pa_cons (pv 1) pa_nil)) (pg_name (i := 4) nd rfl (Or.inl rfl))
      (pss_cons (ps_set (i := 5) nd rfl (Or.inl rfl) (pe_g C_carried (by exact hr.mono (by decide)) (E := fun _ => E0) (fun σ => passC0 σ) (fun _ _ _ _ _ _ us hl => match us, hl with | [_, _], _ => rfl) (pa_cons (pv 3) (pa_cons (pv 2) pa_nil))))
    (pss_cons (ps_if (pt_cmpR (opEqK (K := K) (by rfl) (by exact hu)) (pv 5) (pv 3) (nomark _))
      (pss_one (ps_ret (pv 3)))
      pss_nil)
    (pss_one (ps_set (i := 3) nd rfl (Or.inl rfl) (pv 5))))))
    (pss_one (ps_ret (pv 3))))), ?_⟩
    try dsimp only [L2.cxOf, L2.Cx.nox]
    simp only [L2.start, N_carried_often, List.map_cons, List.map_nil, List.length_cons, List.length_nil, Nat.reduceAdd, Nat.reduceSub, List.replicate_succ, List.replicate_zero, List.cons_append, List.nil_append]

    walk_at "gos"
    refine Gx.for1 [] (fun i σ' H' => ∃ s4 s5, σ' = [some (.str (tx l)), some (.int (c : Nat)), some (.int (n : Nat)), some (.str (tx (carN n i l))), s4, s5]) (by omega) ⟨_, _, rfl⟩ ?_ ?_
    · rintro i σ' H' hi e ⟨s4, s5, rfl⟩
      have hlen := carN_len n i l
      have hs : carW n (carN n i l) = carN n (i + 1) l := by rw [carN_add]; rfl
      walk_at "gos"
      · rename_i h
        have hf := carN_fix h (c - i)
        rw [← carN_add, show i + (c - i) = c from by omega] at hf
        rw [← hf]
        exact k _ Gx.rel
      · rw [hs]
        exact Gx.li ⟨_, _, rfl⟩
    · rintro σ' H' e ⟨s4, s5, rfl⟩
      walk_at "gos"
      exact k _ Gx.rel
local macro_rules | `(tactic| walk_at "call") => `(tactic| ((with_reducible show spCarN _ _ _ _); refine ⟨_, _, _, rfl, ⟨by omega, by omega⟩, ?_⟩; intro H_ e_))
def spApp (cN : Addr) : Sp := fun vs H Q E => ∃ (l r : List Bool) (n : Nat), vs = [.str (tx l), .int (n : Nat), .str (tx r)] ∧ (l.length ≤ 99 ∧ r.length = 1) ∧ (l.length < n → Q (.str (tx (trimW (l ++ r)))) H) ∧ (¬ l.length < n → ∀ d H', Nw H d → Ex H H' → At H' d (.xd [("length", .int (l.length : Nat))]) → E (.ref cN) (some d) H')
abbrev s_appended : Stmt := (top 22)
abbrev N_appended : List Str := ["word", "places", "record"]
theorem sc_appended : FnScope N_appended ["word", "places", "record"] (defScope s_appended) := ⟨rfl, rfl, rfl, by decide +kernel, rfl, by decide +kernel, by decide +kernel⟩
theorem cl_appended (T : Bl mg) (Z : EcF P K mg c_StoreError c_InvalidInput c_NoPlace) (D : DfG K mg "_appended" s_appended [] []) (C_trimmed : ClG CX0 P w K mg base 3 "_trimmed" s_trimmed ["text"] [] [] spTrim) : ClG (L2.CX P w) P w K mg base 5 "_appended" s_appended ["word", "places", "record"] [] [] (spApp c_NoPlace) := by
  have nd := sc_appended.nd
  refine D.ok sc_appended (fun vs H Q E h => ?_) (fun f cdv A outer s H vs Q E hr h => ?_)
  · obtain ⟨l, r, n, rfl, _⟩ := h
    rfl
  · obtain ⟨l, r, n, rfl, ⟨hl, hrr⟩, k, k2⟩ := h
    have hu := hu64 hr
    refine ⟨_, (pss_cons (ps_if (pt_cmpR opGe (pe_callB (callLenK (K := K) (by rfl)) (by rfl) T.len (by decide +kernel) (pa_cons (pv 0) pa_nil)) (pv 1) (nomark _))
      (pss_one (ps_raise rfl takesX (pmk1 (ex_NoPlace Z.d_NoPlace) (by exact hr.mono (by decide)) rfl (pa_cons (pe_callB (callLenK (K := K) (by rfl)) (by rfl) T.len (by decide +kernel) (pa_cons (pv 0) pa_nil)) pa_nil))))
      pss_nil)
    (pss_one (ps_ret (pe_g C_trimmed (by exact hr.mono (by decide)) (E := fun _ => E0) (fun σ => passC0 σ) (fun _ _ _ _ _ _ us hl => match us, hl with | [_], _ => rfl) (pa_cons (pe_op (opAddK (K := K) (by rfl)) (pv 0) (pv 2)) pa_nil))))), ?_⟩
    try dsimp only [L2.cxOf, L2.Cx.nox]
    simp only [L2.start, N_appended, List.map_cons, List.map_nil, List.length_cons, List.length_nil, Nat.reduceAdd, Nat.reduceSub, List.replicate_succ, List.replicate_zero, List.cons_append, List.nil_append]

    walk_at "gos"
    · rename_i h _ _ _ _ _
      exact k2 (by omega) _ _ ‹_› Gx.rel Gx.at_
    · exact k (by omega)
local macro_rules | `(tactic| walk_at "call") => `(tactic| ((with_reducible show spApp _ _ _ _ _); refine ⟨_, _, _, rfl, ⟨by omega, by first | rfl | assumption⟩, fun hA => ?_, fun hA d_ H_ np_ e_ hp_ => ?_⟩))
def spRelease : Sp := fun vs H Q _ => ∃ (l : List Bool) (i : Int), vs = [.str (tx l), .int i] ∧ (Wd l ∧ 0 ≤ i ∧ i < (l.count true : Nat)) ∧ ∀ H', Ex H H' → Q (.str (tx (relW l i.toNat))) H'
def spCarry : Sp := fun vs H Q _ => ∃ (l : List Bool) (n : Nat), vs = [.str (tx l), .int (n : Nat)] ∧ (Wd l ∧ 1 ≤ n ∧ l.length ≤ n) ∧ Q (.str (tx (carW n l))) H
def spCarries : Sp := fun vs H Q _ => ∃ (l : List Bool) (c n : Nat), vs = [.str (tx l), .int (c : Nat), .int (n : Nat)] ∧ (Wd l ∧ c < 2 ^ 60 ∧ 1 ≤ n ∧ l.length ≤ n) ∧ ∀ H', Ex H H' → Q (.str (tx (carN n c l))) H'
abbrev s_release : Stmt := (top 9)
abbrev N_release : List Str := ["word", "index"]
theorem sc_release : FnScope N_release ["word", "index"] (defScope s_release) := ⟨rfl, rfl, rfl, by decide +kernel, rfl, by decide +kernel, by decide +kernel⟩
theorem cl_release (T : Bl mg) (Z : EcF P K mg c_StoreError c_InvalidInput c_NoPlace) (D : DfG K mg "release" s_release [] []) (C_released : ClG CX0 P w K mg base 5 "_released" s_released ["word", "index"] [] [] spRelN) (C_at_most : ClG CX0 P w K mg base 3 "at_most" s_at_most ["value", "most", "field"] [] [] spAtMost) (C_ones : ClG CX0 P w K mg base 3 "_ones" s_ones ["word"] [] [] spOnes) (C_at_least : ClG CX0 P w K mg base 3 "at_least" s_at_least ["value", "least", "field"] [] [] spAtLeast) (C_good_word : ClG CX0 P w K mg base 3 "good_word" s_good_word ["word", "field"] [] [] spGood) : ClG CX0 P w K mg base 7 "release" s_release ["word", "index"] [] [] spRelease := by
  have nd := sc_release.nd
  refine D.okP sc_release (fun vs H Q E h => ?_) (fun f cdv A outer s H vs Q E hr h => ?_)
  · obtain ⟨l, i, rfl, _⟩ := h
    rfl
  · obtain ⟨l, i, rfl, ⟨h, h0, h1⟩, k⟩ := h
    have hu := hu64 hr
    refine ⟨_, (pss_cons (ps_expr (pe_g C_good_word (by exact hr.mono (by decide)) (E := fun _ => E0) (fun σ => passC0 σ) (fun _ _ _ _ _ _ us hl => match us, hl with | [_, _], _ => rfl) (pa_cons (pv 0) (pa_cons pe_str pa_nil))))
    (pss_cons (ps_expr (pe_g C_at_least (by exact hr.mono (by decide)) (E := fun _ => E0) (fun σ => passC0 σ) (fun _ _ _ _ _ _ us hl => match us, hl with | [_, _, _], _ => rfl) (pa_cons (pv 1) (pa_cons pe_int (pa_cons pe_str pa_nil)))))
    (pss_cons (ps_expr (pe_g C_at_most (by exact hr.mono (by decide)) (E := fun _ => E0) (fun σ => passC0 σ) (fun _ _ _ _ _ _ us hl => match us, hl with | [_, _, _], _ => rfl) (pa_cons (pv 1) (pa_cons (pe_op opSub (pe_g C_ones (by exact hr.mono (by decide)) (E := fun _ => E0) (fun σ => passC0 σ) (fun _ _ _ _ _ _ us hl => match us, hl with | [_], _ => rfl) (pa_cons (pv 0) pa_nil)) pe_int) (pa_cons pe_str pa_nil)))))
    (pss_one (ps_ret (pe_g C_released (by exact hr.mono (by decide)) (E := fun _ => E0) (fun σ => passC0 σ) (fun _ _ _ _ _ _ us hl => match us, hl with | [_, _], _ => rfl) (pa_cons (pv 0) (pa_cons (pv 1) pa_nil)))))))), ?_⟩
    try dsimp only [L2.cxOf, L2.Cx.nox]
    simp only [L2.start, N_release, List.map_cons, List.map_nil, List.length_cons, List.length_nil, Nat.reduceAdd, Nat.reduceSub, List.replicate_succ, List.replicate_zero, List.cons_append, List.nil_append]

    have hl := h.1
    obtain ⟨i, rfl⟩ : ∃ j : Nat, i = j := ⟨i.toNat, by omega⟩
    have hi : i < l.count true := by omega
    walk_at "gos"
    exact k _ Gx.rel
abbrev s_carry : Stmt := (top 10)
abbrev N_carry : List Str := ["word", "places"]
theorem sc_carry : FnScope N_carry ["word", "places"] (defScope s_carry) := ⟨rfl, rfl, rfl, by decide +kernel, rfl, by decide +kernel, by decide +kernel⟩
theorem cl_carry (T : Bl mg) (Z : EcF P K mg c_StoreError c_InvalidInput c_NoPlace) (D : DfG K mg "carry" s_carry [] []) (C_carried : ClG CX0 P w K mg base 5 "_carried" s_carried ["word", "places"] [] [] spCar) (C_at_least : ClG CX0 P w K mg base 3 "at_least" s_at_least ["value", "least", "field"] [] [] spAtLeast) (C_good_word : ClG CX0 P w K mg base 3 "good_word" s_good_word ["word", "field"] [] [] spGood) : ClG CX0 P w K mg base 7 "carry" s_carry ["word", "places"] [] [] spCarry := by
  have nd := sc_carry.nd
  refine D.okP sc_carry (fun vs H Q E h => ?_) (fun f cdv A outer s H vs Q E hr h => ?_)
  · obtain ⟨l, n, rfl, _⟩ := h
    rfl
  · obtain ⟨l, n, rfl, ⟨h, h0, h1⟩, k⟩ := h
    have hu := hu64 hr
    refine ⟨_, (pss_cons (ps_expr (pe_g C_good_word (by exact hr.mono (by decide)) (E := fun _ => E0) (fun σ => passC0 σ) (fun _ _ _ _ _ _ us hl => match us, hl with | [_, _], _ => rfl) (pa_cons (pv 0) (pa_cons pe_str pa_nil))))
    (pss_cons (ps_expr (pe_g C_at_least (by exact hr.mono (by decide)) (E := fun _ => E0) (fun σ => passC0 σ) (fun _ _ _ _ _ _ us hl => match us, hl with | [_, _, _], _ => rfl) (pa_cons (pv 1) (pa_cons pe_int (pa_cons pe_str pa_nil)))))
    (pss_cons (ps_expr (pe_g C_at_least (by exact hr.mono (by decide)) (E := fun _ => E0) (fun σ => passC0 σ) (fun _ _ _ _ _ _ us hl => match us, hl with | [_, _, _], _ => rfl) (pa_cons (pv 1) (pa_cons (pe_callB (callLenK (K := K) (by rfl)) (by rfl) T.len (by decide +kernel) (pa_cons (pv 0) pa_nil)) (pa_cons pe_str pa_nil)))))
    (pss_one (ps_ret (pe_g C_carried (by exact hr.mono (by decide)) (E := fun _ => E0) (fun σ => passC0 σ) (fun _ _ _ _ _ _ us hl => match us, hl with | [_, _], _ => rfl) (pa_cons (pv 0) (pa_cons (pv 1) pa_nil)))))))), ?_⟩
    try dsimp only [L2.cxOf, L2.Cx.nox]
    simp only [L2.start, N_carry, List.map_cons, List.map_nil, List.length_cons, List.length_nil, Nat.reduceAdd, Nat.reduceSub, List.replicate_succ, List.replicate_zero, List.cons_append, List.nil_append]

    have hl := h.1
    walk_at "gos"
    exact k
abbrev s_carries : Stmt := (top 11)
abbrev N_carries : List Str := ["word", "count", "places"]
theorem sc_carries : FnScope N_carries ["word", "count", "places"] (defScope s_carries) := ⟨rfl, rfl, rfl, by decide +kernel, rfl, by decide +kernel, by decide +kernel⟩
theorem cl_carries (T : Bl mg) (Z : EcF P K mg c_StoreError c_InvalidInput c_NoPlace) (D : DfG K mg "carries" s_carries [] []) (C_carried_often : ClG CX0 P w K mg base 7 "_carried_often" s_carried_often ["word", "count", "places"] [] [] spCarN) (C_at_least : ClG CX0 P w K mg base 3 "at_least" s_at_least ["value", "least", "field"] [] [] spAtLeast) (C_good_word : ClG CX0 P w K mg base 3 "good_word" s_good_word ["word", "field"] [] [] spGood) : ClG CX0 P w K mg base 9 "carries" s_carries ["word", "count", "places"] [] [] spCarries := by
  have nd := sc_carries.nd
  refine D.okP sc_carries (fun vs H Q E h => ?_) (fun f cdv A outer s H vs Q E hr h => ?_)
  · obtain ⟨l, c, n, rfl, _⟩ := h
    rfl
  · obtain ⟨l, c, n, rfl, ⟨h, h0, h1, h2⟩, k⟩ := h
    have hu := hu64 hr
    refine ⟨_, (pss_cons (ps_expr (pe_g C_good_word (by exact hr.mono (by decide)) (E := fun _ => E0) (fun σ => passC0 σ) (fun _ _ _ _ _ _ us hl => match us, hl with | [_, _], _ => rfl) (pa_cons (pv 0) (pa_cons pe_str pa_nil))))
    (pss_cons (ps_expr (pe_g C_at_least (by exact hr.mono (by decide)) (E := fun _ => E0) (fun σ => passC0 σ) (fun _ _ _ _ _ _ us hl => match us, hl with | [_, _, _], _ => rfl) (pa_cons (pv 1) (pa_cons pe_int (pa_cons pe_str pa_nil)))))
    (pss_cons (ps_expr (pe_g C_at_least (by exact hr.mono (by decide)) (E := fun _ => E0) (fun σ => passC0 σ) (fun _ _ _ _ _ _ us hl => match us, hl with | [_, _, _], _ => rfl) (pa_cons (pv 2) (pa_cons pe_int (pa_cons pe_str pa_nil)))))
    (pss_cons (ps_expr (pe_g C_at_least (by exact hr.mono (by decide)) (E := fun _ => E0) (fun σ => passC0 σ) (fun _ _ _ _ _ _ us hl => match us, hl with | [_, _, _], _ => rfl) (pa_cons (pv 2) (pa_cons (pe_callB (callLenK (K := K) (by rfl)) (by rfl) T.len (by decide +kernel) (pa_cons (pv 0) pa_nil)) (pa_cons pe_str pa_nil)))))
    (pss_one (ps_ret (pe_g C_carried_often (by exact hr.mono (by decide)) (E := fun _ => E0) (fun σ => passC0 σ) (fun _ _ _ _ _ _ us hl => match us, hl with | [_, _, _], _ => rfl) (pa_cons (pv 0) (pa_cons (pv 1) (pa_cons (pv 2) pa_nil)))))))))), ?_⟩
    try dsimp only [L2.cxOf, L2.Cx.nox]
    simp only [L2.start, N_carries, List.map_cons, List.map_nil, List.length_cons, List.length_nil, Nat.reduceAdd, Nat.reduceSub, List.replicate_succ, List.replicate_zero, List.cons_append, List.nil_append]

    have hl := h.1
    walk_at "gos"
    exact k _ Gx.rel
def spAppR (cN : Addr) : Sp := fun vs H Q E => ∃ (l : List Bool) (b : Bool) (n : Nat), vs = [.str (tx l), .int (n : Nat), .str (tx [b])] ∧ (Wd l ∧ 1 ≤ n ∧ l.length ≤ n) ∧ (l.length < n → ∀ H', Ex H H' → Q (.str (tx (trimW (l ++ [b])))) H') ∧ (¬ l.length < n → ∀ d H', Nw H d → Ex H H' → At H' d (.xd [("length", .int (l.length : Nat))]) → E (.ref cN) (some d) H')
abbrev s_append_record : Stmt := (top 12)
abbrev N_append_record : List Str := ["word", "places", "record"]
theorem sc_append_record : FnScope N_append_record ["word", "places", "record"] (defScope s_append_record) := ⟨rfl, rfl, rfl, by decide +kernel, rfl, by decide +kernel, by decide +kernel⟩
theorem cl_append_record (T : Bl mg) (Z : EcF P K mg c_StoreError c_InvalidInput c_NoPlace) (D : DfG K mg "append_record" s_append_record [.str "1"] []) (C_appended : ClG (L2.CX P w) P w K mg base 5 "_appended" s_appended ["word", "places", "record"] [] [] (spApp c_NoPlace)) (C_at_least : ClG CX0 P w K mg base 3 "at_least" s_at_least ["value", "least", "field"] [] [] spAtLeast) (C_good_word : ClG CX0 P w K mg base 3 "good_word" s_good_word ["word", "field"] [] [] spGood) : ClG (L2.CX P w) P w K mg base 7 "append_record" s_append_record ["word", "places", "record"] [.str "1"] [] (spAppR c_NoPlace) := by
  have nd := sc_append_record.nd
  refine D.ok sc_append_record (fun vs H Q E h => ?_) (fun f cdv A outer s H vs Q E hr h => ?_)
  · obtain ⟨l, b, n, rfl, _⟩ := h
    rfl
  · obtain ⟨l, b, n, rfl, ⟨h, h0, h1⟩, k, k2⟩ := h
    have hu := hu64 hr
    refine ⟨_, (pss_cons (ps_expr (pe_g C_good_word (by exact hr.mono (by decide)) (E := fun _ => E0) (fun σ => passC0 σ) (fun _ _ _ _ _ _ us hl => match us, hl with | [_, _], _ => rfl) (pa_cons (pv 0) (pa_cons pe_str pa_nil))))
    (pss_cons (ps_expr (pe_g C_at_least (by exact hr.mono (by decide)) (E := fun _ => E0) (fun σ => passC0 σ) (fun _ _ _ _ _ _ us hl => match us, hl with | [_, _, _], _ => rfl) (pa_cons (pv 1) (pa_cons pe_int (pa_cons pe_str pa_nil)))))
    (pss_cons (ps_if (pt_cmpR (opNotInK (K := K) (by rfl)) (pv 2) (pe_tup (pa_cons pe_str (pa_cons pe_str pa_nil))) (by rfl))
      (pss_one ps_never)
      pss_nil)
    (pss_cons (ps_expr (pe_g C_at_least (by exact hr.mono (by decide)) (E := fun _ => E0) (fun σ => passC0 σ) (fun _ _ _ _ _ _ us hl => match us, hl with | [_, _, _], _ => rfl) (pa_cons (pv 1) (pa_cons (pe_callB (callLenK (K := K) (by rfl)) (by rfl) T.len (by decide +kernel) (pa_cons (pv 0) pa_nil)) (pa_cons pe_str pa_nil)))))
    (pss_one (ps_ret (pe_g C_appended (by exact hr.mono (by decide)) (fun σ => passC takesX σ) (fun _ _ _ _ _ _ us hl => match us, hl with | [_, _, _], _ => rfl) (pa_cons (pv 0) (pa_cons (pv 1) (pa_cons (pv 2) pa_nil)))))))))), ?_⟩
    try dsimp only [L2.cxOf, L2.Cx.nox]
    simp only [L2.start, N_append_record, List.map_cons, List.map_nil, List.length_cons, List.length_nil, Nat.reduceAdd, Nat.reduceSub, List.replicate_succ, List.replicate_zero, List.cons_append, List.nil_append]

    have hl := h.1
    walk_at "gos"
    refine Gx.g_inT (b := true) rfl rfl (by cases b <;> decide +kernel) ?_
    walk_at "gos"
    · exact k (by assumption) _ Gx.rel
    · exact k2 (by assumption) _ _ Gx.new Gx.rel Gx.at_
local macro_rules | `(tactic| walk_at "call") => `(tactic| ((with_reducible show spAtMost _ _ _ _); refine ⟨_, _, _, rfl, by omega, ?_⟩))
/-- the release, if there is one -/
def relO (l : List Bool) : Option Nat → List Bool
  | none => l
  | some i => relW l i
/-- what step gives: none where no place is left -/
def stepW (l : List Bool) (o : Option Nat) (c n : Nat) (late : Bool) : Option (List Bool) :=
  if late = true then
    if l.length < n then
      some (carN n (min c ((relO (trimW (l ++ [true])) o).count true - 1)) (relO (trimW (l ++ [true])) o))
    else none
  else
    if (carN n (min c ((relO l o).count true)) (relO l o)).length < n then some (trimW (carN n (min c ((relO l o).count true)) (relO l o) ++ [true])) else none
def spStep (cN : Addr) : Sp := fun vs H Q E => ∃ (l : List Bool) (v : V) (o : Option Nat) (c n : Nat) (late : Bool), vs = [.str (tx l), v, .int (c : Nat), .int (n : Nat), .bl late] ∧ ((v = .non ∧ o = none) ∨ ∃ i : Nat, v = .int (i : Nat) ∧ o = some i ∧ i < l.count true) ∧ (Wd l ∧ 1 ≤ n ∧ l.length ≤ n ∧ n ≤ 65) ∧
  (∀ v, stepW l o c n late = some v → ∀ H', Ex H H' → Q (.str (tx v)) H') ∧ (stepW l o c n late = none → ∀ d H' (m : Nat), Nw H d → Ex H H' → m = n → At H' d (.xd [("length", .int (m : Nat))]) → E (.ref cN) (some d) H')
theorem rel_len {l : List Bool} {i : Nat} (hi : i < l.count true) : (relW l i).length ≤ l.length := by
  have hdl := dep_len l
  have hm : (dep l).getD i 0 ∈ dep l := Gx.getD_mem (by omega)
  have hb := dep_le l _ hm
  have h1 := trim_len (l.take (placeW l i) ++ [false] ++ l.drop (placeW l i + 1))
  simp only [List.length_append, List.length_take, List.length_drop, List.length_cons, List.length_nil] at h1
  have h2 : placeW l i < l.length := by unfold placeW; omega
  unfold relW
  omega
theorem cnt_le (l : List Bool) : l.count true ≤ l.length := List.count_le_length
theorem minI {a b : Nat} : (if (b : Int) < (a : Int) then (b : Int) else (a : Int)) = ((min a b : Nat) : Int) := by
  split <;> omega
theorem trim_cnt (l : List Bool) : (trimW l).count true = l.count true := by
  induction l with
  | nil => rfl
  | cons a l ih => cases a with
    | false => rw [show trimW (false :: l) = trimW l from rfl, ih]; rfl
    | true => rfl
theorem add1_cnt (l : List Bool) : (trimW (l ++ [true])).count true = l.count true + 1 := by
  rw [trim_cnt, List.count_append]; rfl
theorem add1_len (l : List Bool) : (trimW (l ++ [true])).length ≤ l.length + 1 := by
  have := trim_len (l ++ [true])
  rw [List.length_append] at this
  exact this
/-- the index-th one struck out -/
def clr : List Bool → Nat → List Bool
  | [], _ => []
  | true :: r, 0 => false :: r
  | true :: r, i + 1 => true :: clr r i
  | false :: r, i => false :: clr r i
theorem place_at {l : List Bool} {i : Nat} (hi : i < l.count true) : 1 ≤ (dep l).getD i 0 ∧ (dep l).getD i 0 ≤ l.length :=
  dep_le l _ (Gx.getD_mem (by have := dep_len l; omega))
theorem clr_eq : ∀ {l : List Bool} {i : Nat}, i < l.count true → l.take (placeW l i) ++ [false] ++ l.drop (placeW l i + 1) = clr l i
  | [], i, h => absurd h (by simp)
  | true :: r, 0, h => by
    have e : placeW (true :: r) 0 = 0 := by
      unfold placeW
      rw [dep_cons]
      simp
    rw [e]
    rfl
  | true :: r, i + 1, h => by
    have h' : i < r.count true := by simpa using h
    have e : placeW (true :: r) (i + 1) = placeW r i + 1 := by
      have := place_at h'
      unfold placeW
      rw [dep_cons]
      simp
      simp at this
      omega
    rw [e, show clr (true :: r) (i + 1) = true :: clr r i from rfl, ← clr_eq h']
    rfl
  | false :: r, i, h => by
    have h' : i < r.count true := by simpa using h
    have e : placeW (false :: r) i = placeW r i + 1 := by
      have := place_at h'
      unfold placeW
      rw [dep_cons]
      simp
      simp at this
      omega
    rw [e, show clr (false :: r) i = false :: clr r i from by cases i <;> rfl, ← clr_eq h']
    rfl
theorem clr_cnt : ∀ {l : List Bool} {i : Nat}, i < l.count true → (clr l i).count true + 1 = l.count true
  | [], i, h => absurd h (by simp)
  | true :: r, 0, h => by simp [clr]
  | true :: r, i + 1, h => by
    have h' : i < r.count true := by simpa using h
    have := clr_cnt h'
    simp [clr]
    omega
  | false :: r, i, h => by
    have h' : i < r.count true := by simpa using h
    have := clr_cnt h'
    rw [show clr (false :: r) i = false :: clr r i from by cases i <;> rfl]
    simp
    omega
theorem rel_clr {l : List Bool} {i : Nat} (hi : i < l.count true) : relW l i = trimW (clr l i) := by
  unfold relW; rw [clr_eq hi]
theorem rel_cnt {l : List Bool} {i : Nat} (hi : i < l.count true) : (relW l i).count true + 1 = l.count true := by
  rw [rel_clr hi, trim_cnt, clr_cnt hi]
theorem minI1 {a b : Nat} (h : 1 ≤ b) : (if (b : Int) - 1 < (a : Int) then (b : Int) - 1 else (a : Int)) = ((min a (b - 1) : Nat) : Int) := by
  split <;> omega
theorem step_e1 {l : List Bool} {o : Option Nat} {c n : Nat} (h : (carN n (min c ((relO l o).count true)) (relO l o)).length < n) : stepW l o c n false = some (trimW (carN n (min c ((relO l o).count true)) (relO l o) ++ [true])) :=
  (if_neg (by decide)).trans (if_pos h)
theorem step_e0 {l : List Bool} {o : Option Nat} {c n : Nat} (h : ¬ (carN n (min c ((relO l o).count true)) (relO l o)).length < n) : stepW l o c n false = none :=
  (if_neg (by decide)).trans (if_neg h)
theorem step_l1 {l : List Bool} {o : Option Nat} {c n : Nat} (h : l.length < n) : stepW l o c n true = some (carN n (min c ((relO (trimW (l ++ [true])) o).count true - 1)) (relO (trimW (l ++ [true])) o)) :=
  (if_pos rfl).trans (if_pos h)
theorem step_l0 {l : List Bool} {o : Option Nat} {c n : Nat} (h : ¬ l.length < n) : stepW l o c n true = none :=
  (if_pos rfl).trans (if_neg h)
abbrev s_step : Stmt := (top 13)
abbrev N_step : List Str := ["word", "index", "count", "places", "late", "written", "others", "left"]
theorem sc_step : FnScope N_step ["word", "index", "count", "places", "late"] (defScope s_step) := ⟨rfl, rfl, rfl, by decide +kernel, rfl, by decide +kernel, by decide +kernel⟩
theorem cl_step (T : Bl mg) (Z : EcF P K mg c_StoreError c_InvalidInput c_NoPlace) (D : DfG K mg "step" s_step [] [("late", .bl false)]) (C_appended : ClG (L2.CX P w) P w K mg base 5 "_appended" s_appended ["word", "places", "record"] [] [] (spApp c_NoPlace)) (C_carried_often : ClG CX0 P w K mg base 7 "_carried_often" s_carried_often ["word", "count", "places"] [] [] spCarN) (C_ones : ClG CX0 P w K mg base 3 "_ones" s_ones ["word"] [] [] spOnes) (C_released : ClG CX0 P w K mg base 5 "_released" s_released ["word", "index"] [] [] spRelN) (C_at_least : ClG CX0 P w K mg base 3 "at_least" s_at_least ["value", "least", "field"] [] [] spAtLeast) (C_at_most : ClG CX0 P w K mg base 3 "at_most" s_at_most ["value", "most", "field"] [] [] spAtMost) (C_good_word : ClG CX0 P w K mg base 3 "good_word" s_good_word ["word", "field"] [] [] spGood) : ClG (L2.CX P w) P w K mg base 9 "step" s_step ["word", "index", "count", "places", "late"] [] [("late", .bl false)] (spStep c_NoPlace) := by
  have nd := sc_step.nd
  refine D.ok sc_step (fun vs H Q E h => ?_) (fun f cdv A outer s H vs Q E hr h => ?_)
  · obtain ⟨l, v, o, c, n, late, rfl, _⟩ := h
    rfl
  · obtain ⟨l, v, o, c, n, late, rfl, hv, ⟨h, h0, h1, h2⟩, k, k2⟩ := h
    have hu := hu64 hr
    refine ⟨_, (pss_cons (ps_expr (pe_g C_good_word (by exact hr.mono (by decide)) (E := fun _ => E0) (fun σ => passC0 σ) (fun _ _ _ _ _ _ us hl => match us, hl with | [_, _], _ => rfl) (pa_cons (pv 0) (pa_cons pe_str pa_nil))))
    (pss_cons (ps_if (pt_cmpR opNotN (pv 1) pe_non (nomark _))
      (pss_one (ps_expr (pe_g C_at_least (by exact hr.mono (by decide)) (E := fun _ => E0) (fun σ => passC0 σ) (fun _ _ _ _ _ _ us hl => match us, hl with | [_, _, _], _ => rfl) (pa_cons (pv 1) (pa_cons pe_int (pa_cons pe_str pa_nil))))))
      pss_nil)
    (pss_cons (ps_expr (pe_g C_at_least (by exact hr.mono (by decide)) (E := fun _ => E0) (fun σ => passC0 σ) (fun _ _ _ _ _ _ us hl => match us, hl with | [_, _, _], _ => rfl) (pa_cons (pv 2) (pa_cons pe_int (pa_cons pe_str pa_nil)))))
    (pss_cons (ps_expr (pe_g C_at_least (by exact hr.mono (by decide)) (E := fun _ => E0) (fun σ => passC0 σ) (fun _ _ _ _ _ _ us hl => match us, hl with | [_, _, _], _ => rfl) (pa_cons (pv 3) (pa_cons pe_int (pa_cons pe_str pa_nil)))))
    (pss_cons (ps_if (pt_cmpR opNotN (pv 1) pe_non (nomark _))
      (pss_one (ps_expr (pe_g C_at_most (by exact hr.mono (by decide)) (E := fun _ => E0) (fun σ => passC0 σ) (fun _ _ _ _ _ _ us hl => match us, hl with | [_, _, _], _ => rfl) (pa_cons (pv 1) (pa_cons (pe_op opSub (pe_g C_ones (by exact hr.mono (by decide)) (E := fun _ => E0) (fun σ => passC0 σ) (fun _ _ _ _ _ _ us hl => match us, hl with | [_], _ => rfl) (pa_cons (pv 0) pa_nil)) pe_int) (pa_cons pe_str pa_nil))))))
      pss_nil)
    (pss_cons (ps_expr (pe_g C_at_least (by exact hr.mono (by decide)) (E := fun _ => E0) (fun σ => passC0 σ) (fun _ _ _ _ _ _ us hl => match us, hl with | [_, _, _], _ => rfl) (pa_cons (pv 3) (pa_cons (pe_callB (callLenK (K := K) (by rfl)) (by rfl) T.len (by decide +kernel) (pa_cons (pv 0) pa_nil)) (pa_cons pe_str pa_nil)))))
    (pss_cons (ps_if (pt_val (pv 4))
      (pss_cons (ps_set (i := 5) nd rfl (Or.inl rfl) (pe_g C_released (by exact hr.mono (by decide)) (E := fun _ => E0) (fun σ => passC0 σ) (fun _ _ _ _ _ _ us hl => match us, hl with | [_, _], _ => rfl) (pa_cons (pe_g C_appended (by exact hr.mono (by decide)) (fun σ => passC takesX σ) (fun _ _ _ _ _ _ us hl => match us, hl with | [_, _, _], _ => rfl) (pa_cons (pv 0) (pa_cons (pv 3) (pa_cons pe_str pa_nil)))) (pa_cons (pv 1) pa_nil))))
    (pss_cons (ps_set (i := 6) nd rfl (Or.inl rfl) (pe_op opSub (pe_g C_ones (by exact hr.mono (by decide)) (E := fun _ => E0) (fun σ => passC0 σ) (fun _ _ _ _ _ _ us hl => match us, hl with | [_], _ => rfl) (pa_cons (pv 5) pa_nil)) pe_int))
    (pss_one (ps_ret (pe_g C_carried_often (by exact hr.mono (by decide)) (E := fun _ => E0) (fun σ => passC0 σ) (fun _ _ _ _ _ _ us hl => match us, hl with | [_, _, _], _ => rfl) (pa_cons (pv 5) (pa_cons (pe_callB (callMin2 rfl) (by rfl) T.min (by decide +kernel) (pa_cons (pv 2) (pa_cons (pv 6) pa_nil))) (pa_cons (pv 3) pa_nil))))))))
      pss_nil)
    (pss_cons (ps_set (i := 7) nd rfl (Or.inl rfl) (pe_g C_released (by exact hr.mono (by decide)) (E := fun _ => E0) (fun σ => passC0 σ) (fun _ _ _ _ _ _ us hl => match us, hl with | [_, _], _ => rfl) (pa_cons (pv 0) (pa_cons (pv 1) pa_nil))))
    (pss_cons (ps_set (i := 6) nd rfl (Or.inl rfl) (pe_g C_ones (by exact hr.mono (by decide)) (E := fun _ => E0) (fun σ => passC0 σ) (fun _ _ _ _ _ _ us hl => match us, hl with | [_], _ => rfl) (pa_cons (pv 7) pa_nil)))
    (pss_one (ps_ret (pe_g C_appended (by exact hr.mono (by decide)) (fun σ => passC takesX σ) (fun _ _ _ _ _ _ us hl => match us, hl with | [_, _, _], _ => rfl) (pa_cons (pe_g C_carried_often (by exact hr.mono (by decide)) (E := fun _ => E0) (fun σ => passC0 σ) (fun _ _ _ _ _ _ us hl => match us, hl with | [_, _, _], _ => rfl) (pa_cons (pv 7) (pa_cons (pe_callB (callMin2 rfl) (by rfl) T.min (by decide +kernel) (pa_cons (pv 2) (pa_cons (pv 6) pa_nil))) (pa_cons (pv 3) pa_nil)))) (pa_cons (pv 3) (pa_cons pe_str pa_nil))))))))))))))), ?_⟩
    try dsimp only [L2.cxOf, L2.Cx.nox]
    simp only [L2.start, N_step, List.map_cons, List.map_nil, List.length_cons, List.length_nil, Nat.reduceAdd, Nat.reduceSub, List.replicate_succ, List.replicate_zero, List.cons_append, List.nil_append]

    have hl := h.1
    have hcl := cnt_le l
    have ha1 := add1_cnt l
    have ha2 := add1_len l
    have ha3 := cnt_le (trimW (l ++ [true]))
    rcases hv with ⟨rfl, rfl⟩ | ⟨i, rfl, rfl, hi⟩
    · cases late
      · walk_at "gos"
        rw [minI]
        have hcn := carN_len n (min c (l.count true)) l
        walk_at "gos"
        · exact k _ (step_e1 (o := none) (by assumption)) _ Gx.rel
        · exact k2 (step_e0 (o := none) (by assumption)) _ _ _ Gx.new Gx.rel (by omega) Gx.at_
      · walk_at "gos"
        · rw [minI1 (by omega)]
          have hcn := carN_len n (min c ((trimW (l ++ [true])).count true - 1)) (trimW (l ++ [true]))
          walk_at "gos"
          exact k _ (step_l1 (o := none) (by assumption)) _ Gx.rel
        · exact k2 (step_l0 (by assumption)) _ _ _ Gx.new Gx.rel (by omega) Gx.at_
    · have hr := rel_len hi
      have hr2 := cnt_le (relW l i)
      cases late
      · walk_at "gos"
        rw [minI]
        have hcn := carN_len n (min c ((relW l i).count true)) (relW l i)
        walk_at "gos"
        · exact k _ (step_e1 (o := some i) (by assumption)) _ Gx.rel
        · exact k2 (step_e0 (o := some i) (by assumption)) _ _ _ Gx.new Gx.rel (by omega) Gx.at_
      · walk_at "gos"
        · have hr3 := rel_len (show i < (trimW (l ++ [true])).count true by omega)
          have hr4 := cnt_le (relW (trimW (l ++ [true])) i)
          have hr5 := rel_cnt (show i < (trimW (l ++ [true])).count true by omega)
          have hi' : i < (trimW (l ++ [true])).count true := by omega
          refine ⟨_, _, rfl, by omega, .inr ⟨i, rfl, hi', fun H_ e_ => ?_⟩⟩
          walk_at "gos"
          rw [minI1 (by omega)]
          have hcn := carN_len n (min c ((relW (trimW (l ++ [true])) i).count true - 1)) (relW (trimW (l ++ [true])) i)
          walk_at "gos"
          exact k _ (step_l1 (o := some i) (by assumption)) _ Gx.rel
        · exact k2 (step_l0 (by assumption)) _ _ _ Gx.new Gx.rel (by omega) Gx.at_


theorem dec_lt : ∀ {d : Int} {r : List Int}, Dec (d :: r) → ∀ x ∈ r, x < d
  | d, [], _, x, h => by simp at h
  | d, y :: r, hd, x, h => by
    have h1 : d > y := by simpa using hd.1
    rcases List.mem_cons.mp h with e | h
    · omega
    · have := dec_lt hd.2 x h
      omega
theorem dec_iff : ∀ {ds : List Int}, Dec ds ↔ ∀ i, i < ds.length → ds.getD i 0 > ds.getD (i + 1) 0
  | [] => ⟨fun _ i hi => absurd hi (Nat.not_lt_zero _), fun _ => trivial⟩
  | d :: r => by
    constructor
    · intro h i hi
      cases i with
      | zero =>
        have := h.1
        cases r <;> simpa using this
      | succ i => simpa using dec_iff.mp h.2 i (by simpa using hi)
    · intro h
      refine ⟨?_, dec_iff.mpr fun i hi => ?_⟩
      · have := h 0 (by simp)
        cases r <;> simpa using this
      · simpa using h (i + 1) (by simpa using hi)
theorem dec_pw : ∀ {ds : List Int}, Dec ds ↔ ds.Pairwise (· > ·) ∧ ∀ d ∈ ds, 0 < d
  | [] => ⟨fun _ => ⟨.nil, by simp⟩, fun _ => trivial⟩
  | d :: r => by
    constructor
    · intro h
      exact ⟨.cons (fun x hx => dec_lt h x hx) (dec_pw.mp h.2).1, dec_pos _ h⟩
    · rintro ⟨h, hp⟩
      cases h with
      | cons h1 h2 =>
        refine ⟨?_, dec_pw.mpr ⟨h2, fun x hx => hp x (List.mem_cons_of_mem _ hx)⟩⟩
        cases r with
        | nil => exact hp d (List.mem_cons_self ..)
        | cons y r => exact h1 y (List.mem_cons_self ..)
def DL (ds : List Int) : Prop := Dec ds ∧ ds.headD 0 ≤ 64
theorem dl_nil : DL [] := ⟨trivial, by simp⟩
theorem dec_len : ∀ {ds : List Int}, Dec ds → (ds.length : Int) ≤ ds.headD 0
  | [], _ => by simp
  | d :: r, h => by
    have h1 := h.1
    have h2 := dec_len h.2
    simp only [List.length_cons, List.headD_cons]
    omega
theorem DL.len {ds : List Int} (h : DL ds) : ds.length ≤ 64 := by
  have := dec_len h.1
  have := h.2
  omega
theorem dec_head : ∀ {ds : List Int}, Dec ds → ∀ d ∈ ds, d ≤ ds.headD 0
  | [], _, d, h => by simp at h
  | x :: r, hd, d, h => by
    rcases List.mem_cons.mp h with e | h
    · rw [e]; simp
    · have := dec_lt hd d h
      simp
      omega
theorem DL.at {ds : List Int} (h : DL ds) {i : Nat} (hi : i < ds.length) : 1 ≤ ds.getD i 0 ∧ ds.getD i 0 ≤ 64 ∧ ds.getD i 0 > ds.getD (i + 1) 0 := by
  have m : ds.getD i 0 ∈ ds := Gx.getD_mem hi
  have := dec_pos _ h.1 _ m
  have := dec_head h.1 _ m
  have := h.2
  exact ⟨by omega, by omega, dec_iff.mp h.1 i hi⟩
theorem dep_dl {l : List Bool} (h : Wd l) : DL (dep l) := ⟨dec_dep l, by rw [head_dep h.2]; have := h.1; omega⟩
theorem descends : ∀ (n : Nat) (ds : List Int), Dec ds → (∀ d ∈ ds, d ≤ n) → ((List.range n).map fun p => (n : Int) - (p : Nat)).filter (· ∈ ds) = ds
  | 0, ds, h, hn => by
    have e : ds = [] := by
      cases ds with
      | nil => rfl
      | cons d r =>
        have := dec_pos _ h d (List.mem_cons_self ..)
        have := hn d (List.mem_cons_self ..)
        omega
    rw [e]
    rfl
  | n + 1, ds, h, hn => by
    have e1 : ((List.range (n + 1)).map fun p => ((n + 1 : Nat) : Int) - (p : Nat)) = ((n : Int) + 1) :: (List.range n).map fun p => (n : Int) - (p : Nat) := by
      rw [List.range_succ_eq_map, List.map_cons, List.map_map]
      congr 1
      apply List.map_congr_left
      intro k _
      simp only [Function.comp]
      omega
    rw [e1, List.filter_cons]
    cases ds with
    | nil =>
      rw [if_neg (by simp)]
      exact descends n [] trivial (by simp)
    | cons d r =>
      by_cases hd : d = (n : Int) + 1
      · rw [if_pos (by simp [hd])]
        have e2 : (((List.range n).map fun p => (n : Int) - (p : Nat)).filter (· ∈ d :: r)) = (((List.range n).map fun p => (n : Int) - (p : Nat)).filter (· ∈ r)) := by
          apply List.filter_congr
          intro x hx
          obtain ⟨k, _, rfl⟩ := List.mem_map.mp hx
          have : ¬ ((n : Int) - (k : Nat) = d) := by omega
          simp [this]
        rw [e2, descends n r h.2 (fun x hx => by have := dec_lt h x hx; omega), hd]
      · have hle : ∀ x ∈ d :: r, x ≤ (n : Int) := by
          have h0 := hn d (List.mem_cons_self ..)
          intro x hx
          rcases List.mem_cons.mp hx with e | e
          · omega
          · have := dec_lt h x e; omega
        rw [if_neg (by
          intro z
          have := hle _ (of_decide_eq_true z)
          omega)]
        exact descends n (d :: r) h hle
def wdOf (n : Nat) (ds : List Int) : List Bool := (List.range n).map fun p => decide ((n : Int) - (p : Nat) ∈ ds)
theorem dep_wdOf {n : Nat} {ds : List Int} (h : Dec ds) (hn : ∀ d ∈ ds, d ≤ n) : dep (wdOf n ds) = ds := by
  have e := descends n ds h hn
  unfold dep depTo
  have hl : (wdOf n ds).length = n := by simp [wdOf]
  rw [hl]
  refine Eq.trans ?_ e
  rw [List.filter_map]
  congr 1
  apply List.filter_congr
  intro k hk
  have hk' : k < n := List.mem_range.mp hk
  simp [wdOf, hk']
theorem wd_wdOf {n : Nat} {ds : List Int} (hn : n ≤ 64) (h : n ≠ 0 → (n : Int) ∈ ds) : Wd (wdOf n ds) := by
  refine ⟨by simp [wdOf]; exact hn, ?_⟩
  cases n with
  | zero => simp [wdOf]
  | succ n =>
    have := h (by simp)
    simp [wdOf, List.range_succ_eq_map]
    simpa using this
theorem dl_fewer {ds : List Int} (h : DL ds) (p : Nat) : DL (ds.take p ++ ds.drop (p + 1)) := by
  have hs : (ds.take p ++ ds.drop (p + 1)).Sublist ds := by
    have e : ds = ds.take p ++ ds.drop p := (List.take_append_drop p ds).symm
    conv => rhs; rw [e]
    exact List.Sublist.append (List.Sublist.refl _) (by rw [← List.drop_drop]; exact List.drop_sublist _ _)
  have h1 := dec_pw.mp h.1
  have hd : Dec (ds.take p ++ ds.drop (p + 1)) := dec_pw.mpr ⟨h1.1.sublist hs, fun d hd => h1.2 d (hs.subset hd)⟩
  refine ⟨hd, ?_⟩
  cases e : ds.take p ++ ds.drop (p + 1) with
  | nil => simp
  | cons x r =>
    have := dec_head h.1 x (hs.subset (by rw [e]; exact List.mem_cons_self ..))
    have := h.2
    simp
    omega
theorem dl_set {ds : List Int} (h : DL ds) {p : Nat} {v : Int} (hp : p < ds.length) (h1 : 1 ≤ v) (h2 : v ≤ 64) (h3 : p > 0 → v < ds.getD (p - 1) 0) (h4 : p + 1 < ds.length → v > ds.getD (p + 1) 0) : DL (ds.set p v) := by
  have g : ∀ i, (ds.set p v).getD i 0 = if i = p then v else ds.getD i 0 := by
    intro i
    rw [List.getD_eq_getElem?_getD, List.getElem?_set]
    by_cases e : p = i
    · subst e
      simp [hp]
    · rw [if_neg e, if_neg (fun z => e z.symm), List.getD_eq_getElem?_getD]
  refine ⟨dec_iff.mpr fun i hi => ?_, ?_⟩
  · rw [List.length_set] at hi
    rw [g, g]
    have := dec_iff.mp h.1 i hi
    split
    · rename_i e
      subst e
      rw [if_neg (by omega)]
      by_cases z : i + 1 < ds.length
      · exact h4 z
      · have : ds.getD (i + 1) 0 = 0 := by
          rw [List.getD_eq_getElem?_getD, List.getElem?_eq_none (by omega)]
          rfl
        omega
    · split
      · rename_i e
        have := h3 (by omega)
        rw [show p - 1 = i from by omega] at this
        exact this
      · exact this
  · have e : (ds.set p v).headD 0 = (ds.set p v).getD 0 0 := by
      cases (ds.set p v) <;> rfl
    rw [e, g]
    split
    · exact h2
    · have e2 : ds.getD 0 0 = ds.headD 0 := by cases ds <;> rfl
      rw [e2]
      exact h.2

/-! late in one place more -/
theorem trim_snoc (m : List Bool) : trimW (m ++ [true]) = trimW m ++ [true] := by
  induction m with
  | nil => rfl
  | cons b r ih =>
    cases b with
    | false => exact ih
    | true => rfl
theorem clr_snoc : ∀ {l : List Bool} {i : Nat}, i < l.count true → clr (l ++ [true]) i = clr l i ++ [true]
  | [], i, h => absurd h (by simp)
  | true :: r, 0, h => rfl
  | true :: r, i + 1, h => by
    have h' : i < r.count true := by simpa using h
    show true :: clr (r ++ [true]) i = _
    rw [clr_snoc h']
    rfl
  | false :: r, i, h => by
    have h' : i < r.count true := by simpa using h
    rw [show clr (false :: r) i = false :: clr r i from by cases i <;> rfl, show (false :: r) ++ [true] = false :: (r ++ [true]) from rfl, show clr (false :: (r ++ [true])) i = false :: clr (r ++ [true]) i from by cases i <;> rfl, clr_snoc h']
    rfl
theorem trim_wd {l : List Bool} (h : l.head? ≠ some false) : trimW l = l := dw_self h
theorem relO_snoc {l : List Bool} {o : Option Nat} (h : l.head? ≠ some false) (ho : ∀ i, o = some i → i < l.count true) : relO (trimW (l ++ [true])) o = relO l o ++ [true] := by
  rw [trim_snoc, trim_wd h]
  cases o with
  | none => rfl
  | some i =>
    have hi := ho i rfl
    show relW (l ++ [true]) i = relW l i ++ [true]
    rw [rel_clr (by rw [List.count_append]; omega), rel_clr hi, clr_snoc hi, trim_snoc]
theorem car_snoc {n : Nat} {w : List Bool} (h : w ≠ []) : carW (n + 1) (w ++ [true]) = carW n w ++ [true] ∧ carW n w ≠ [] := by
  unfold carW
  have e : (w ++ [true]).length = w.length + 1 := by simp
  by_cases z : n ≤ w.length
  · rw [if_pos (.inr (by rw [e]; omega)), if_pos (.inr z)]
    exact ⟨rfl, h⟩
  · rw [if_neg (fun y => y.elim (by simp) (by rw [e]; omega)), if_neg (fun y => y.elim h z)]
    have e2 : (w ++ [true]).drop 1 = w.drop 1 ++ [true] := by
      cases w with
      | nil => exact absurd rfl h
      | cons a r => rfl
    rw [e2, trim_snoc (w.drop 1 ++ [true])]
    refine ⟨rfl, ?_⟩
    rw [trim_snoc]
    simp
theorem carN_snoc {n : Nat} : ∀ (k : Nat) {w : List Bool}, (k = 0 ∨ w ≠ []) → carN (n + 1) k (w ++ [true]) = carN n k w ++ [true]
  | 0, w, _ => rfl
  | k + 1, w, h => by
    have hw : w ≠ [] := h.resolve_left (by omega)
    have h1 := car_snoc (n := n) hw
    rw [carN, carN, h1.1]
    exact carN_snoc k (.inr h1.2)
theorem wd_carN {n : Nat} : ∀ (k : Nat) {l : List Bool}, Wd l → Wd (carN n k l)
  | 0, l, h => h
  | k + 1, l, h => wd_carN k (wd_car h)
theorem wd_relO {l : List Bool} {o : Option Nat} (h : Wd l) (ho : ∀ i, o = some i → i < l.count true) : Wd (relO l o) ∧ (relO l o).length ≤ l.length := by
  cases o with
  | none => exact ⟨h, Nat.le_refl _⟩
  | some i =>
    have hi := ho i rfl
    have := rel_len hi
    exact ⟨⟨Nat.le_trans this h.1, head_trim _⟩, this⟩
/-- what both orders come to -/
def bothW (l : List Bool) (o : Option Nat) (c n : Nat) : List Bool := carN n (min c ((relO l o).count true)) (relO l o)
theorem twin_late {l : List Bool} {o : Option Nat} {c n : Nat} (h : Wd l) (hl : l.length ≤ n) (ho : ∀ i, o = some i → i < l.count true) : stepW l o c (n + 1) true = some (bothW l o c n ++ [true]) := by
  rw [step_l1 (by omega), relO_snoc h.2 ho]
  have e : (relO l o ++ [true]).count true - 1 = (relO l o).count true := by simp
  rw [e, carN_snoc]
  · rfl
  · by_cases z : relO l o = []
    · rw [z]
      exact .inl (by simp)
    · exact .inr z
theorem twin_len {l : List Bool} {o : Option Nat} {c n : Nat} (h : Wd l) (hl : l.length ≤ n) (hn : 1 ≤ n) (ho : ∀ i, o = some i → i < l.count true) : (bothW l o c n).length ≤ n := by
  have h1 := (wd_relO h ho).2
  have h2 := carN_len n (min c ((relO l o).count true)) (relO l o)
  unfold bothW
  omega
theorem twin_early {l : List Bool} {o : Option Nat} {c n : Nat} (h : Wd l) (ho : ∀ i, o = some i → i < l.count true) (hb : (bothW l o c n).length < n) : stepW l o c n false = some (bothW l o c n ++ [true]) := by
  rw [step_e1 hb, trim_snoc, trim_wd (wd_carN _ (wd_relO h ho).1).2]
  rfl
theorem twin_full {l : List Bool} {o : Option Nat} {c n : Nat} (hb : ¬ (bothW l o c n).length < n) : stepW l o c n false = none := step_e0 hb

/-! domination, plainly: the depths under the moves of a log -/
theorem dep_app1 (l : List Bool) : dep (l ++ [true]) = (dep l).map (· + 1) ++ [1] := by
  induction l with
  | nil => rfl
  | cons b r ih =>
    rw [List.cons_append, dep_cons, dep_cons, ih, List.map_append, List.length_append]
    cases b with
    | true => simp
    | false => simp
theorem dep_trim (l : List Bool) : dep (trimW l) = dep l := by
  have e := tw_dw l
  conv => rhs; rw [e, dep_zeros]
  rfl
theorem clr_len : ∀ (l : List Bool) (i : Nat), (clr l i).length = l.length
  | [], i => rfl
  | true :: r, 0 => rfl
  | true :: r, i + 1 => by show (clr r i).length + 1 = _; rw [clr_len r i]; rfl
  | false :: r, i => by
    rw [show clr (false :: r) i = false :: clr r i from by cases i <;> rfl, List.length_cons, clr_len r i]
    rfl
theorem dep_clr : ∀ {l : List Bool} {i : Nat}, i < l.count true → dep (clr l i) = (dep l).eraseIdx i
  | [], i, h => absurd h (by simp)
  | true :: r, 0, h => by
    rw [show clr (true :: r) 0 = false :: r from rfl, dep_cons, dep_cons]
    simp
  | true :: r, i + 1, h => by
    have h' : i < r.count true := by simpa using h
    rw [show clr (true :: r) (i + 1) = true :: clr r i from rfl, dep_cons, dep_cons, dep_clr h', clr_len]
    simp
  | false :: r, i, h => by
    have h' : i < r.count true := by simpa using h
    rw [show clr (false :: r) i = false :: clr r i from by cases i <;> rfl, dep_cons, dep_cons, dep_clr h']
    simp
theorem dep_rel {l : List Bool} {i : Nat} (h : i < l.count true) : dep (relW l i) = (dep l).eraseIdx i := by rw [rel_clr h, dep_trim, dep_clr h]
abbrev D (l m : List Bool) : Prop := Above (dep l) (dep m)
theorem D.refl (l : List Bool) : D l l := above_refl _
theorem D.trans {a b c : List Bool} (h : D a b) (k : D b c) : D a c := above_trans h k
theorem D.cnt {l m : List Bool} (h : D l m) : l.count true ≤ m.count true := by
  have := h.1
  rw [dep_len, dep_len] at this
  exact this
theorem nil_D (m : List Bool) : D [] m := ⟨by rw [dep_nil]; simp, fun i hi => by rw [dep_nil] at hi; simp at hi⟩
theorem dep_pos {l : List Bool} {i : Nat} (h : i < (dep l).length) : 1 ≤ (dep l).getD i 0 := (dep_le l _ (Gx.getD_mem h)).1
theorem dep_step {l : List Bool} {i : Nat} (h : i < (dep l).length) : (dep l).getD (i + 1) 0 < (dep l).getD i 0 := dec_iff.mp (dec_dep l) i h
theorem getD_app1 {ds : List Int} {i : Nat} : (ds.map (· + 1) ++ [1]).getD i 0 = if i < ds.length then ds.getD i 0 + 1 else if i = ds.length then 1 else 0 := by
  rw [List.getD_eq_getElem?_getD, List.getD_eq_getElem?_getD]
  by_cases h : i < ds.length
  · rw [if_pos h, List.getElem?_append_left (by simpa using h), List.getElem?_map, List.getElem?_eq_getElem h]
    rfl
  · rw [if_neg h, List.getElem?_append_right (by simpa using h), List.length_map]
    by_cases e : i = ds.length
    · rw [if_pos e, e, Nat.sub_self]; rfl
    · rw [if_neg e, List.getElem?_eq_none (by simp; omega)]; rfl
theorem getD_erase {ds : List Int} {i j : Nat} : (ds.eraseIdx i).getD j 0 = if j < i then ds.getD j 0 else ds.getD (j + 1) 0 := by
  rw [List.getD_eq_getElem?_getD, List.getElem?_eraseIdx]
  split <;> rw [List.getD_eq_getElem?_getD]
theorem D.app {l m : List Bool} (h : D l m) : D (l ++ [true]) (m ++ [true]) := by
  have h1 := h.1
  refine ⟨?_, fun i hi => ?_⟩
  · rw [dep_app1, dep_app1]
    simp
    exact h1
  · rw [dep_app1] at hi ⊢
    rw [dep_app1, getD_app1, getD_app1]
    simp only [List.length_append, List.length_map, List.length_cons, List.length_nil] at hi
    by_cases z : i < (dep l).length
    · have := h.2 i z
      rw [if_pos z, if_pos (by omega)]
      omega
    · rw [if_neg z, if_pos (by omega)]
      by_cases y : i < (dep m).length
      · have := dep_pos y
        rw [if_pos y]
        omega
      · rw [if_neg y, if_pos (by omega)]
        omega
theorem D.rel_self {l : List Bool} {i : Nat} (h : i < l.count true) : D (relW l i) l := by
  have hl : i < (dep l).length := by rw [dep_len]; exact h
  unfold D
  rw [dep_rel h]
  refine ⟨by rw [List.length_eraseIdx]; split <;> omega, fun j hj => ?_⟩
  rw [List.length_eraseIdx_of_lt hl] at hj
  rw [getD_erase]
  split
  · exact Int.le_refl _
  · exact Int.le_of_lt (dep_step (by omega))
/-- the newest one of the worse is released -/
theorem D.newest {l m : List Bool} (h : D l m) (hc : l.count true < m.count true) : D l (relW m (m.count true - 1)) := by
  unfold D
  have hm : m.count true - 1 < m.count true := by omega
  have e := dep_len m
  rw [dep_rel hm]
  refine ⟨by rw [List.length_eraseIdx_of_lt (by omega), dep_len, dep_len]; omega, fun j hj => ?_⟩
  have := h.2 j hj
  rw [dep_len] at hj
  rw [getD_erase, if_pos (by omega)]
  exact this
theorem D.rel_newest {l m : List Bool} {i : Nat} (h : D l m) (hi : i < l.count true) : D (relW l i) (relW m (m.count true - 1)) := by
  have h1 := D.rel_self hi
  have h2 := rel_cnt hi
  have h3 := h.cnt
  exact D.newest (h1.trans h) (by omega)
theorem dep_car {n : Nat} {l : List Bool} (h0 : l ≠ []) (hn : l.length < n) (hw : l.head? ≠ some false) : dep (carW n l) = ((dep l).drop 1).map (· + 1) ++ [1] := by
  cases l with
  | nil => exact absurd rfl h0
  | cons b r =>
    cases b with
    | false => simp at hw
    | true =>
      rw [show carW n (true :: r) = trimW ((true :: r).drop 1 ++ [true]) from if_neg (fun z => z.elim (by simp) (by omega)), dep_trim]
      show dep (r ++ [true]) = _
      rw [dep_app1, dep_cons]
      rfl
theorem car_stay {n : Nat} {l : List Bool} (h : l = [] ∨ n ≤ l.length) : carW n l = l := if_pos h
theorem D.car_self {n : Nat} {l : List Bool} (hw : l.head? ≠ some false) : D (carW n l) l := by
  by_cases h : l = [] ∨ n ≤ l.length
  · rw [car_stay h]; exact D.refl l
  · have h0 : l ≠ [] := fun z => h (.inl z)
    have hn : l.length < n := by
      by_cases z : n ≤ l.length
      · exact absurd (.inr z) h
      · omega
    unfold D
    rw [dep_car h0 hn hw]
    have hl : 0 < (dep l).length := by
      rw [dep_len]
      cases l with
      | nil => exact absurd rfl h0
      | cons b r => cases b with
        | false => simp at hw
        | true => simp
    refine ⟨by simp; omega, fun i hi => ?_⟩
    rw [getD_app1, List.length_drop]
    simp only [List.length_append, List.length_map, List.length_drop, List.length_cons, List.length_nil] at hi
    have hi2 : i < (dep l).length := by omega
    by_cases z : i < (dep l).length - 1
    · rw [if_pos z]
      have h1 := dep_step hi2
      have h2 : ((dep l).drop 1).getD i 0 = (dep l).getD (i + 1) 0 := by
        rw [List.getD_eq_getElem?_getD, List.getElem?_drop, List.getD_eq_getElem?_getD, Nat.add_comm]
      omega
    · rw [if_neg z, if_pos (by omega)]
      exact dep_pos hi2
theorem D.len {l m : List Bool} (h : D l m) (hl : l.head? ≠ some false) (hm : m.head? ≠ some false) : l.length ≤ m.length := by
  have e1 := head_dep hl
  have e2 := head_dep hm
  cases hd : dep l with
  | nil => rw [hd] at e1; simp at e1; omega
  | cons a r =>
    have := h.2 0 (by rw [hd]; simp)
    cases hd2 : dep m with
    | nil => have := h.1; rw [hd, hd2] at this; simp at this
    | cons b s =>
      rw [hd, hd2] at this
      rw [hd] at e1
      rw [hd2] at e2
      simp at this e1 e2
      omega
theorem D.tail {a b : List Int} (h : Above a b) : Above (a.drop 1) (b.drop 1) := by
  refine ⟨by simp; have := h.1; omega, fun i hi => ?_⟩
  simp at hi
  have := h.2 (i + 1) (by omega)
  rw [List.getD_eq_getElem?_getD, List.getD_eq_getElem?_getD, List.getElem?_drop, List.getElem?_drop, Nat.add_comm, ← List.getD_eq_getElem?_getD, ← List.getD_eq_getElem?_getD]
  exact this
theorem above_app {a b : List Int} (h : Above a b) (hb : ∀ i, i < b.length → 0 ≤ b.getD i 0) : Above (a.map (· + 1) ++ [1]) (b.map (· + 1) ++ [1]) := by
  refine ⟨by simp; exact h.1, fun i hi => ?_⟩
  simp only [List.length_append, List.length_map, List.length_cons, List.length_nil] at hi
  have h1 := h.1
  rw [getD_app1, getD_app1]
  by_cases z : i < a.length
  · have := h.2 i z
    rw [if_pos z, if_pos (by omega)]
    omega
  · rw [if_neg z, if_pos (by omega)]
    by_cases y : i < b.length
    · have := hb i y
      rw [if_pos y]
      omega
    · rw [if_neg y, if_pos (by omega)]
      omega
theorem D.car {n : Nat} {l m : List Bool} (hl : l.head? ≠ some false) (hm : m.head? ≠ some false) (h : D l m) : D (carW n l) (carW n m) := by
  by_cases z : m = [] ∨ n ≤ m.length
  · rw [car_stay z]
    exact (D.car_self hl).trans h
  · have m0 : m ≠ [] := fun y => z (.inl y)
    have hn : m.length < n := by
      by_cases y : n ≤ m.length
      · exact absurd (.inr y) z
      · omega
    by_cases l0 : l = []
    · rw [l0, car_stay (.inl rfl)]
      exact nil_D _
    · have hln := h.len hl hm
      unfold D
      rw [dep_car l0 (by omega) hl, dep_car m0 hn hm]
      refine above_app (D.tail h) fun i hi => ?_
      rw [List.getD_eq_getElem?_getD, List.getElem?_drop, ← List.getD_eq_getElem?_getD]
      simp at hi
      have := dep_pos (l := m) (i := 1 + i) (by omega)
      omega
theorem D.carN {n : Nat} : ∀ (k : Nat) {l m : List Bool}, Wd l → Wd m → D l m → D (carN n k l) (carN n k m)
  | 0, l, m, _, _, h => h
  | k + 1, l, m, hl, hm, h => D.carN k (wd_car hl) (wd_car hm) (h.car hl.2 hm.2)
theorem D.carN_self {n : Nat} : ∀ (k : Nat) {l : List Bool}, Wd l → D (_root_.Toy.carN n k l) l
  | 0, l, _ => D.refl l
  | k + 1, l, hl => (D.carN_self k (wd_car hl)).trans (D.car_self hl.2)
theorem D.more {n k j : Nat} {l m : List Bool} (hl : Wd l) (hm : Wd m) (h : D l m) (hk : k ≤ j) : D (_root_.Toy.carN n j l) (_root_.Toy.carN n k m) := by
  obtain ⟨d, rfl⟩ := Nat.exists_eq_add_of_le hk
  rw [carN_add]
  exact (D.carN_self d (wd_carN k hl)).trans (D.carN k hl hm h)
/-- after so many carries as there are ones they stand side by side -/
theorem car_full {n : Nat} (k : Nat) : carW n (List.replicate k true) = List.replicate k true := by
  by_cases h : List.replicate k true = [] ∨ n ≤ (List.replicate k true).length
  · exact car_stay h
  · cases k with
    | zero => exact absurd (.inl rfl) h
    | succ k =>
      rw [show carW n (List.replicate (k + 1) true) = trimW ((List.replicate (k + 1) true).drop 1 ++ [true]) from if_neg h]
      rw [List.replicate_succ, List.drop_succ_cons, List.drop_zero, ← List.replicate_succ', List.replicate_succ]
      rfl
theorem dw_ones {p : List Bool} {j : Nat} : trimW (p ++ List.replicate (j + 1) true) = trimW p ++ List.replicate (j + 1) true := by
  induction p with
  | nil => rfl
  | cons b r ih => cases b with
    | false => exact ih
    | true => rfl
theorem carN_sfx {n : Nat} {w : List Bool} (hw : Wd w) (hn : w.length < n) : ∀ j, j ≤ w.count true → ∃ p, carN n j w = p ++ List.replicate j true ∧ p.count true + j = w.count true
  | 0, _ => ⟨w, by rw [List.replicate_zero, List.append_nil]; rfl, by omega⟩
  | j + 1, h => by
    obtain ⟨p, e, hc⟩ := carN_sfx hw hn j (by omega)
    have hs : carN n (j + 1) w = carW n (carN n j w) := by rw [carN_add]; rfl
    have hwj := wd_carN (n := n) j hw
    have hlen := carN_len n j w
    rw [e] at hs hwj hlen
    have hw0 : w ≠ [] := fun z => by rw [z] at h; simp at h
    have hw1 : 1 ≤ w.length := Nat.pos_of_ne_zero fun z => hw0 (List.length_eq_zero_iff.mp z)
    cases p with
    | nil => simp at hc; omega
    | cons b r =>
      cases b with
      | false => exact absurd rfl hwj.2
      | true =>
        refine ⟨trimW r, ?_, ?_⟩
        · rw [hs, show carW n (true :: r ++ List.replicate j true) = trimW ((true :: r ++ List.replicate j true).drop 1 ++ [true]) from if_neg (fun z => z.elim (by simp) (by omega))]
          rw [List.cons_append, List.drop_succ_cons, List.drop_zero, List.append_assoc, ← List.replicate_succ', dw_ones]
        · rw [trim_cnt]
          simp at hc
          omega
theorem carN_full {n : Nat} {w : List Bool} (hw : Wd w) (hn : w.length < n) : carN n (w.count true) w = List.replicate (w.count true) true := by
  obtain ⟨p, e, hc⟩ := carN_sfx hw hn (w.count true) (Nat.le_refl _)
  have hp := (wd_carN (n := n) (w.count true) hw).2
  rw [e] at hp
  have hp0 : p.count true = 0 := by omega
  cases p with
  | nil => rw [e]; rfl
  | cons b r =>
    cases b with
    | false => exact absurd rfl hp
    | true => simp at hp0
theorem carN_stable {n k : Nat} {w : List Bool} (hw : Wd w) (hk : w.count true ≤ k) : carN n k w = carN n (w.count true) w := by
  obtain ⟨d, rfl⟩ := Nat.exists_eq_add_of_le hk
  rw [carN_add]
  by_cases hn : w.length < n
  · rw [carN_full hw hn]
    exact carN_fix (car_full _) d
  · have hf : ∀ k, carN n k w = w := fun k => carN_fix (car_stay (.inr (by omega))) k
    rw [hf, hf]
/-- what both orders come to, dominated -/
theorem D.both {n ca cb : Nat} {l m : List Bool} (hl : Wd l) (hm : Wd m) (h : D l m) (hc : cb ≤ ca) : D (_root_.Toy.carN n (min ca (l.count true)) l) (_root_.Toy.carN n (min cb (m.count true)) m) := by
  by_cases z : ca < l.count true
  · rw [show min ca (l.count true) = ca by omega]
    exact D.more hl hm h (by omega)
  · rw [show min ca (l.count true) = l.count true by omega, ← carN_stable (k := l.count true + cb) hl (by omega)]
    exact D.more hl hm h (by omega)


def B01 (m : Int) : Prop := m = 0 ∨ m = 1
def spBits : Sp := fun vs H Q _ => ∃ (b c : Addr) (size : Int), vs = [.ref b, .int size] ∧ (Bx b c H ∧ 0 ≤ size ∧ size ≤ 64) ∧ ∀ p (ns : List Int) H', Nw H p → ExB b H H' → Bx b c H' → At H' p (.lst (ns.map V.int)) → (ns.length : Int) = size → (∀ m ∈ ns, B01 m) → Q (.ref p) H'
theorem use_bits {b c : Addr} {size : Int} {H : Hp} {Q : VK} {E : XK} [hb : Bx b c H] (h1 : 0 ≤ size) (h2 : size ≤ 64) (q : ∀ p (ns : List Int) H', Nw H p → ExB b H H' → Bx b c H' → At H' p (.lst (ns.map V.int)) → (ns.length : Int) = size → (∀ m ∈ ns, B01 m) → Q (.ref p) H') : spBits ([.ref b, .int size] ++ []) H Q E := ⟨b, c, size, rfl, ⟨hb, h1, h2⟩, q⟩
abbrev s_law_bits : Stmt := (top 26)
abbrev N_law_bits : List Str := ["_law_box_here", "_law_size", "_law_found", "_law_part", "_law_number", "_law_place"]
theorem sc_law_bits : FnScope N_law_bits ["_law_box_here", "_law_size"] (defScope s_law_bits) := ⟨rfl, rfl, rfl, by decide +kernel, rfl, by decide +kernel, by decide +kernel⟩
theorem cl_law_bits (T : Bl mg) (Z : EcF P K mg c_StoreError c_InvalidInput c_NoPlace) (D : DfG K mg "_law_bits" s_law_bits [] []) (C_law_take : ClG CX0 P w K mg base 3 "_law_take" s_law_take ["_law_box_here", "_law_size"] [] [] spTake) : ClG CX0 P w K mg base 5 "_law_bits" s_law_bits ["_law_box_here", "_law_size"] [] [] spBits := by
  have nd := sc_law_bits.nd
  refine D.okP sc_law_bits (fun vs H Q E h => ?_) (fun f cdv A outer s H vs Q E hr h => ?_)
  · obtain ⟨b, c, size, rfl, _⟩ := h
    rfl
  · obtain ⟨b, c, size, rfl, ⟨hb, h1, h2⟩, k⟩ := h
    have hu := hu64 hr
    refine ⟨_, (pss_cons (ps_set (i := 2) nd rfl (Or.inl rfl) (pe_lst pa_nil))
    (pss_cons (ps_for PassesOwn.never rfl (pi_range1 rfl T.range (pa_cons (pe_op opDiv (pe_op (opAddK (K := K) (by rfl)) (pv 1) pe_int) pe_int) pa_nil)) (pg_name (i := 3) nd rfl (Or.inl rfl))
      (pss_cons (ps_set (i := 4) nd rfl (Or.inl rfl) (pe_g C_law_take (by exact hr.mono (by decide)) (E := fun _ => E0) (fun σ => passC0 σ) (fun _ _ _ _ _ _ us hl => match us, hl with | [_, _], _ => rfl) (pa_cons (pv 0) (pa_cons pe_int pa_nil))))
    (pss_one (ps_for PassesOwn.never rfl (pi_range1 rfl T.range (pa_cons pe_int pa_nil)) (pg_name (i := 5) nd rfl (Or.inl rfl))
      (pss_cons (ps_expr (pe_bmK (K := K) (by rfl) PySem.F.plainAttrs_list PySem.F.slot_list_append PySem.F.type_list_append mt_append (pv 2) (pa_cons (pe_op opMod (pe_callTy callInt (by rfl) T.int (by decide +kernel) (pa_cons (pv 4) pa_nil)) pe_int) pa_nil)))
    (pss_one (ps_set (i := 4) nd rfl (Or.inl rfl) (pe_op opDiv (pv 4) pe_int))))))))
    (pss_one (ps_ret (pe_slice (slAnyK (K := K) (by rfl)) (pv 2) po_none (po_some (pv 1))))))), ?_⟩
    try dsimp only [L2.cxOf, L2.Cx.nox]
    simp only [L2.start, N_law_bits, List.map_cons, List.map_nil, List.length_cons, List.length_nil, Nat.reduceAdd, Nat.reduceSub, List.replicate_succ, List.replicate_zero, List.cons_append, List.nil_append]

    have lc := liveBx2 hb
    walk_at "gos"
    rename_i p H1 np1 e1 hp1
    refine Gx.for1 [b, p] (fun i σ' H' => ∃ s3 s4 s5, ∃ ns : List Int, σ' = [some (.ref b), some (.int size), some (.ref p), s3, s4, s5] ∧ Bx b c H' ∧ At H' p (.lst (ns.map V.int)) ∧ ns.length = 16 * i ∧ ∀ m ∈ ns, B01 m) (by omega) ⟨_, _, _, [], rfl, inferInstance, Gx.at_, rfl, by simp⟩ ?_ ?_
    · rintro i σ' H' hi e ⟨s3, s4, s5, ns, rfl, hB, hp, hl, hP⟩
      walk_at "gos"
      rename_i d H2 hd0 hd1 e2 hB2
      refine Gx.for1 [p] (fun j σ' H' => ∃ s5, ∃ (n : Int) (ms : List Int), σ' = [some (.ref b), some (.int size), some (.ref p), some (.int i), some (.int n), s5] ∧ At H' p (.lst (ms.map V.int)) ∧ ms.length = 16 * i + j ∧ ∀ m ∈ ms, B01 m) (by omega) ⟨_, _, ns, rfl, Gx.at_, hl, hP⟩ ?_ ?_
      · rintro j σ' H' hj e ⟨s5, n, ms, rfl, hp, hl, hP⟩
        walk_at "gos"
        refine Gx.li ⟨_, _, ms ++ [n % 2], rfl, ?_, by simp; omega, ?_⟩
        · rw [List.map_append]
          exact Gx.at_
        · intro m hm
          rcases List.mem_append.mp hm with h | h
          · exact hP m h
          · rw [List.mem_singleton.mp h]
            unfold B01
            omega
      · rintro σ' H' e ⟨s5, n, ms, rfl, hp, hl, hP⟩
        walk_at "gos"
        exact Gx.li ⟨_, _, _, ms, rfl, inferInstance, hp, by rw [hl]; simp; omega, hP⟩
    · rintro σ' H' e ⟨s3, s4, s5, ns, rfl, hB, hp, hl, hP⟩
      obtain ⟨n, rfl⟩ : ∃ n : Nat, size = n := ⟨size.toNat, by omega⟩
      walk_at "gos"
      rename_i p2 H2 np2 e2 hp2
      rw [Gx.cutTo] at hp2
      exact k p2 (ns.take n) _ Gx.new Gx.rel inferInstance hp2 (by rw [List.length_take, hl]; omega) (fun m hm => hP m (List.mem_of_mem_take hm))
local macro_rules | `(tactic| walk_at "call") => `(tactic| ((with_reducible show spBits _ _ _ _); refine use_bits (by omega) (by omega) ?_; intro p_ ns_ H_ np_ e_ hB_ hp_ hl_ hP_))
def spWord : Sp := fun vs H Q _ => ∃ (b c : Addr) (most : Int), vs = [.ref b, .int most] ∧ (Bx b c H ∧ 0 ≤ most ∧ most ≤ 64) ∧ ∀ l H', ExB b H H' → Bx b c H' → Wd l → (l.length : Int) ≤ most → Q (.str (tx l)) H'
theorem use_word {b c : Addr} {most : Int} {H : Hp} {Q : VK} {E : XK} [hb : Bx b c H] (h1 : 0 ≤ most) (h2 : most ≤ 64) (q : ∀ l H', ExB b H H' → Bx b c H' → Wd l → (l.length : Int) ≤ most → Q (.str (tx l)) H') : spWord ([.ref b, .int most] ++ []) H Q E := ⟨b, c, most, rfl, ⟨hb, h1, h2⟩, q⟩
theorem wd_most {most size : Int} {r : List Bool} {n : Nat} (h : r.length = n - 1) (hn : (n : Int) = size) (h0 : 0 < size) (h2 : size ≤ most) (h3 : most ≤ 64) : Wd (true :: r) ∧ (((true :: r).length : Nat) : Int) ≤ most :=
  ⟨wd_one (by omega), by simp only [List.length_cons]; omega⟩
theorem b01_ite {a b : Int} {p : Prop} [Decidable p] (h : B01 a) (k : B01 b) : B01 (if p then a else b) := by
  split
  · exact h
  · exact k
theorem b01_at {ns : List Int} {i : Nat} (h : ∀ m ∈ ns, B01 m) (hi : i < ns.length) : B01 (ns.getD i 0) := h _ (Gx.getD_mem hi)
theorem b01_ints {acc : List V} (h : ∀ v ∈ acc, ∃ m, v = V.int m ∧ B01 m) : ∃ ns : List Int, acc = ns.map V.int ∧ ∀ m ∈ ns, B01 m := by
  induction acc with
  | nil => exact ⟨[], rfl, by simp⟩
  | cons v r ih =>
    obtain ⟨ns, rfl, hn⟩ := ih (fun u hu => h u (List.mem_cons_of_mem _ hu))
    obtain ⟨m, rfl, hm⟩ := h v (List.mem_cons_self ..)
    refine ⟨m :: ns, rfl, fun k hk => ?_⟩
    rcases List.mem_cons.mp hk with e | e
    · rw [e]; exact hm
    · exact hn k e
theorem b01_bits {ns : List Int} (h : ∀ m ∈ ns, B01 m) : ∃ bs : List Bool, bs.length = ns.length - 1 ∧ (ns.drop 1).map V.int = bs.map fun b => V.int (if b = true then 1 else 0) := by
  refine ⟨(ns.drop 1).map fun m => decide (m = 1), by simp, ?_⟩
  rw [List.map_map]
  apply List.map_congr_left
  intro m hm
  rcases h m (List.mem_of_mem_drop hm) with e | e <;> subst e <;> rfl
theorem fl_one (bs : List Bool) : (bs.map fun b => [b]).flatten = bs := by
  induction bs with
  | nil => rfl
  | cons b r ih => rw [List.map_cons, List.flatten_cons, ih]; rfl
abbrev s_law_word : Stmt := (top 27)
abbrev N_law_word : List Str := ["_law_box_here", "_law_most", "_law_shape", "_law_size", "_law_ones", "_law_bits_here", "_law_other", "_law_k", "_law_bit"]
theorem sc_law_word : FnScope N_law_word ["_law_box_here", "_law_most"] (defScope s_law_word) := ⟨rfl, rfl, rfl, by decide +kernel, rfl, by decide +kernel, by decide +kernel⟩
theorem cl_law_word (T : Bl mg) (Z : EcF P K mg c_StoreError c_InvalidInput c_NoPlace) (D : DfG K mg "_law_word" s_law_word [] []) (C_law_take : ClG CX0 P w K mg base 3 "_law_take" s_law_take ["_law_box_here", "_law_size"] [] [] spTake) (C_law_bits : ClG CX0 P w K mg base 5 "_law_bits" s_law_bits ["_law_box_here", "_law_size"] [] [] spBits) : ClG CX0 P w K mg base 7 "_law_word" s_law_word ["_law_box_here", "_law_most"] [] [] spWord := by
  have nd := sc_law_word.nd
  refine D.okP sc_law_word (fun vs H Q E h => ?_) (fun f cdv A outer s H vs Q E hr h => ?_)
  · obtain ⟨b, c, most, rfl, _⟩ := h
    rfl
  · obtain ⟨b, c, most, rfl, ⟨hb, h1, h2⟩, k⟩ := h
    have hu := hu64 hr
    refine ⟨_, (pss_cons (ps_set (i := 2) nd rfl (Or.inl rfl) (pe_g C_law_take (by exact hr.mono (by decide)) (E := fun _ => E0) (fun σ => passC0 σ) (fun _ _ _ _ _ _ us hl => match us, hl with | [_, _], _ => rfl) (pa_cons (pv 0) (pa_cons pe_int pa_nil))))
    (pss_cons (ps_set (i := 3) nd rfl (Or.inl rfl) (pe_g C_law_take (by exact hr.mono (by decide)) (E := fun _ => E0) (fun σ => passC0 σ) (fun _ _ _ _ _ _ us hl => match us, hl with | [_, _], _ => rfl) (pa_cons (pv 0) (pa_cons (pe_op (opAddK (K := K) (by rfl)) (pe_callB (callMin2 rfl) (by rfl) T.min (by decide +kernel) (pa_cons (pv 1) (pa_cons pe_int pa_nil))) pe_int) pa_nil))))
    (pss_cons (ps_if (pt_cmpR opGt (pv 2) pe_int (nomark _))
      (pss_one (ps_set (i := 3) nd rfl (Or.inl rfl) (pe_g C_law_take (by exact hr.mono (by decide)) (E := fun _ => E0) (fun σ => passC0 σ) (fun _ _ _ _ _ _ us hl => match us, hl with | [_, _], _ => rfl) (pa_cons (pv 0) (pa_cons (pe_op (opAddK (K := K) (by rfl)) (pv 1) pe_int) pa_nil)))))
      pss_nil)
    (pss_cons (ps_if (pt_cmpR (opEqK (K := K) (by rfl) (by exact hu)) (pv 3) pe_int (nomark _))
      (pss_one (ps_ret pe_str))
      pss_nil)
    (pss_cons (ps_if (pt_cmpR (opEqK (K := K) (by rfl) (by exact hu)) (pv 2) pe_int (nomark _))
      (pss_cons (ps_set (i := 4) nd rfl (Or.inl rfl) (pe_op (opAddK (K := K) (by rfl)) pe_int (pe_g C_law_take (by exact hr.mono (by decide)) (E := fun _ => E0) (fun σ => passC0 σ) (fun _ _ _ _ _ _ us hl => match us, hl with | [_, _], _ => rfl) (pa_cons (pv 0) (pa_cons (pv 3) pa_nil)))))
    (pss_one (ps_ret (pe_op (opAddK (K := K) (by rfl)) (pe_op (opMulK (K := K) (by rfl)) pe_str (pv 4)) (pe_op (opMulK (K := K) (by rfl)) pe_str (pe_op opSub (pv 3) (pv 4)))))))
      pss_nil)
    (pss_cons (ps_set (i := 5) nd rfl (Or.inr rfl) (pe_g C_law_bits (by exact hr.mono (by decide)) (E := fun _ => E0) (fun σ => passC0 σ) (fun _ _ _ _ _ _ us hl => match us, hl with | [_, _], _ => rfl) (pa_cons (pv 0) (pa_cons (pv 3) pa_nil))))
    (pss_cons (ps_if (pt_cmpR (opEqK (K := K) (by rfl) (by exact hu)) (pv 2) pe_int (nomark _))
      (pss_cons (ps_set (i := 6) nd rfl (Or.inr rfl) (pe_g C_law_bits (by exact hr.mono (by decide)) (E := fun _ => E0) (fun σ => passC0 σ) (fun _ _ _ _ _ _ us hl => match us, hl with | [_, _], _ => rfl) (pa_cons (pv 0) (pa_cons (pv 3) pa_nil))))
    (pss_one (ps_if (pt_cmpR (opEqK (K := K) (by rfl) (by exact hu)) (pe_g C_law_take (by exact hr.mono (by decide)) (E := fun _ => E0) (fun σ => passC0 σ) (fun _ _ _ _ _ _ us hl => match us, hl with | [_, _], _ => rfl) (pa_cons (pv 0) (pa_cons pe_int pa_nil))) pe_int (nomark _))
      (pss_one (ps_set (i := 5) nd rfl (Or.inr rfl) (pe_lc (own := [("_law_k", 7)]) (g := gName 7) rfl nd (pi_range1 rfl T.range (pa_cons (pv 3) pa_nil)) (blkOk_by (own := [("_law_k", 7)]) (N := N_law_word) (sc := defScope s_law_word) (by decide +kernel)) (fun _ _ _ _ _ => (pg_name (i := 7) nd rfl (Or.inl rfl))) (fun _ _ _ _ _ => pts_nil) (fun _ _ _ _ _ => (pe_callB (callMax2 rfl) (by rfl) T.max (by decide +kernel) (pa_cons (pe_ix (ixSeqK (K := K) (by rfl)) (pv 5) (pv 7) (fun _ _ => rfl)) (pa_cons (pe_ix (ixSeqK (K := K) (by rfl)) (pv 6) (pv 7) (fun _ _ => rfl)) pa_nil)))))))
      (pss_one (ps_set (i := 5) nd rfl (Or.inr rfl) (pe_lc (own := [("_law_k", 7)]) (g := gName 7) rfl nd (pi_range1 rfl T.range (pa_cons (pv 3) pa_nil)) (blkOk_by (own := [("_law_k", 7)]) (N := N_law_word) (sc := defScope s_law_word) (by decide +kernel)) (fun _ _ _ _ _ => (pg_name (i := 7) nd rfl (Or.inl rfl))) (fun _ _ _ _ _ => pts_nil) (fun _ _ _ _ _ => (pe_callB (callMin2 rfl) (by rfl) T.min (by decide +kernel) (pa_cons (pe_ix (ixSeqK (K := K) (by rfl)) (pv 5) (pv 7) (fun _ _ => rfl)) (pa_cons (pe_ix (ixSeqK (K := K) (by rfl)) (pv 6) (pv 7) (fun _ _ => rfl)) pa_nil))))))))))
      pss_nil)
    (pss_one (ps_ret (pe_op (opAddK (K := K) (by rfl)) pe_str (pe_bmK (K := K) (by rfl) PySem.F.plainAttrs_str PySem.F.slot_str_join PySem.F.type_str_join (mtJoinK (K := K) (by rfl)) pe_str (pa_cons (pe_lc (own := [("_law_bit", 8)]) (g := gName 8) rfl nd (pi_listK (K := K) (by rfl) (pe_slice (slAnyK (K := K) (by rfl)) (pv 5) (po_some pe_int) po_none)) (blkOk_by (own := [("_law_bit", 8)]) (N := N_law_word) (sc := defScope s_law_word) (by decide +kernel)) (fun _ _ _ _ _ => (pg_name (i := 8) nd rfl (Or.inl rfl))) (fun _ _ _ _ _ => pts_nil) (fun _ _ _ _ _ => (pe_ix (ixSeqK (K := K) (by rfl)) pe_str (pv 8) (fun _ _ => rfl)))) pa_nil)))))))))))), ?_⟩
    try dsimp only [L2.cxOf, L2.Cx.nox]
    simp only [L2.start, N_law_word, List.map_cons, List.map_nil, List.length_cons, List.length_nil, Nat.reduceAdd, Nat.reduceSub, List.replicate_succ, List.replicate_zero, List.cons_append, List.nil_append]

    have lc := liveBx2 hb
    walk_at "gos"
    all_goals first
      | exact k _ _ Gx.rel inferInstance Wd.nil (by simp; omega)
      | (rename_i n H1 _ _ _ _ _ _ d H2 h0 h1 _ _
         refine k _ _ Gx.rel inferInstance ⟨by simp; omega, ?_⟩ (by simp; omega)
         rw [show (1 + d).toNat = d.toNat + 1 from by omega, List.replicate_succ]
         simp)
      | skip
    all_goals first
     | (fail_if_success (with_reducible show Gx.rLc1 _ _ _ _ _ _ _ _))
     | (
      refine Gx.lc1_A (fun v => ∃ m, v = V.int m ∧ B01 m) (by omega) (fun D i acc H' hi hD e hp hz => ?_) (fun D acc H' hD e hp hl hP => ?_)
      · walk_at "gos"
        exact ⟨Gx.rel, _, rfl, _, rfl, b01_ite (b01_at (by assumption) (by omega)) (b01_at (by assumption) (by omega))⟩
      obtain ⟨ms, rfl, hP⟩ := b01_ints hP
      rw [List.length_map] at hl
      have hl : (ms.length : Int) = _ := (congrArg (fun n : Nat => (n : Int)) hl).trans (Int.toNat_of_nonneg (by omega))
      walk_at "gos")
    all_goals
      rename_i p2 H2 np2 e2 hp2
      obtain ⟨bs, hb1, hb2⟩ := b01_bits ‹∀ m ∈ _, B01 m›
      rw [Gx.cut1, hb2] at hp2
      have hw := wd_most hb1 (by assumption) (by omega) (by omega) h2
      refine Gx.lcL_F (fun i => (bs.take i).map fun b => V.str (tx [b])) rfl (fun i hi => ?_) (fun D i x H' hx hD e hp hz => ?_) (fun D H' hD e hp => ?_)
      · rw [List.length_map] at hi ⊢
        rw [List.length_take]
        omega
      · obtain ⟨b, ib, rfl⟩ := Gx.map_at hx
        cases b
        all_goals
          simp only [Bool.false_eq_true, if_false, if_true]
          walk_at "gos"
          exact ⟨Gx.rel, Gx.take_map_snoc (f := fun b => V.str (tx [b])) ib⟩
      · rw [List.length_map, List.take_length, show (bs.map fun b => V.str (tx [b])) = (bs.map fun b => [b]).map fun l => V.str (tx l) from by rw [List.map_map]; rfl] at hp
        walk_at "gos"
        refine Gx.g_joinT (by rw [fl_one]; omega) ?_
        rw [fl_one]
        walk_at "gos"
        exact k _ _ Gx.rel inferInstance hw.1 hw.2

abbrev s_law_depths : Stmt := (top 28)
abbrev N_law_depths : List Str := ["_law_word_here", "_law_k"]
theorem sc_law_depths : FnScope N_law_depths ["_law_word_here"] (defScope s_law_depths) := ⟨rfl, rfl, rfl, by decide +kernel, rfl, by decide +kernel, by decide +kernel⟩
theorem cl_law_depths (T : Bl mg) (Z : EcF P K mg c_StoreError c_InvalidInput c_NoPlace) (D : DfG K mg "_law_depths" s_law_depths [] [])  : ClG CX0 P w K mg base 3 "_law_depths" s_law_depths ["_law_word_here"] [] [] spDeps := by
  have nd := sc_law_depths.nd
  refine D.okP sc_law_depths (fun vs H Q E h => ?_) (fun f cdv A outer s H vs Q E hr h => ?_)
  · obtain ⟨l, rfl, _⟩ := h
    rfl
  · obtain ⟨l, rfl, h, k⟩ := h
    have hu := hu64 hr
    refine ⟨_, (pss_one (ps_ret (pe_lc (own := [("_law_k", 1)]) (g := gName 1) rfl nd (pi_range1 rfl T.range (pa_cons (pe_callB (callLenK (K := K) (by rfl)) (by rfl) T.len (by decide +kernel) (pa_cons (pv 0) pa_nil)) pa_nil)) (blkOk_by (own := [("_law_k", 1)]) (N := N_law_depths) (sc := defScope s_law_depths) (by decide +kernel)) (fun _ _ _ _ _ => (pg_name (i := 1) nd rfl (Or.inl rfl))) (fun _ _ _ _ _ => (pts_one (pt_cmpR (opEqK (K := K) (by rfl) (by exact hu)) (pe_ix (ixSeqK (K := K) (by rfl)) (pv 0) (pv 1) (fun _ _ => rfl)) pe_str (nomark _)))) (fun _ _ _ _ _ => (pe_op opSub (pe_callB (callLenK (K := K) (by rfl)) (by rfl) T.len (by decide +kernel) (pa_cons (pv 0) pa_nil)) (pv 1)))))), ?_⟩
    try dsimp only [L2.cxOf, L2.Cx.nox]
    simp only [L2.start, N_law_depths, List.map_cons, List.map_nil, List.length_cons, List.length_nil, Nat.reduceAdd, Nat.reduceSub, List.replicate_succ, List.replicate_zero, List.cons_append, List.nil_append]

    walk_at "gos"
    refine Gx.lc1_F (fun i => (depTo l i).map V.int) (by omega) rfl (fun i hi => ?_) (fun D i H' hi hD e hp hz => ?_) (fun D H' hD e hp => ?_)
    · rw [List.length_map]
      have := depTo_len l i
      omega
    · have hi' : i < l.length := by omega
      have hb : l[i]? = some l[i] := List.getElem?_eq_getElem hi'
      generalize l[i] = b at hb
      have hs := depTo_succ hb
      walk_at "go"
      refine Gx.g_ixTx (by omega) (Gx.atI_nat hb) ?_
      cases b with
      | true =>
        walk_at "go"
        rw [show decide ([true] = [true]) = true from rfl]
        walk_at "go"
        refine ⟨Gx.rel, ?_⟩
        rw [hs]
        simp
      | false =>
        walk_at "go"
        rw [show decide ([false] = [true]) = false from rfl]
        walk_at "go"
        refine ⟨Gx.rel, ?_⟩
        rw [hs]
        simp
    · exact k D H' hD e hp
def spWOf (K : PySem.W.Frag) : Sp := fun vs H Q _ => ∃ (p : Addr) (ds : List Int), vs = [.ref p] ∧ (SqC K H p (ds.map V.int) ∧ DL ds) ∧ ∀ l H', Ex H H' → Wd l → dep l = ds → Q (.str (tx l)) H'
abbrev s_law_word_of : Stmt := (top 29)
abbrev N_law_word_of : List Str := ["_law_due", "_law_place"]
theorem sc_law_word_of : FnScope N_law_word_of ["_law_due"] (defScope s_law_word_of) := ⟨rfl, rfl, rfl, by decide +kernel, rfl, by decide +kernel, by decide +kernel⟩
theorem cl_law_word_of (T : Bl mg) (Z : EcF P K mg c_StoreError c_InvalidInput c_NoPlace) (D : DfG K mg "_law_word_of" s_law_word_of [] [])  : ClG CX0 P w K mg base 3 "_law_word_of" s_law_word_of ["_law_due"] [] [] (spWOf K) := by
  have nd := sc_law_word_of.nd
  refine D.okP sc_law_word_of (fun vs H Q E h => ?_) (fun f cdv A outer s H vs Q E hr h => ?_)
  · obtain ⟨p, ds, rfl, _⟩ := h
    rfl
  · obtain ⟨p, ds, rfl, ⟨hs, hd⟩, k⟩ := h
    have hu := hu64 hr
    refine ⟨_, (pss_cons (ps_if (pt_cmpR (opEqK (K := K) (by rfl) (by exact hu)) (pv 0) (pe_lst pa_nil) (nomark _))
      (pss_one (ps_ret pe_str))
      pss_nil)
    (pss_one (ps_ret (pe_bmK (K := K) (by rfl) PySem.F.plainAttrs_str PySem.F.slot_str_join PySem.F.type_str_join (mtJoinK (K := K) (by rfl)) pe_str (pa_cons (pe_lc (own := [("_law_place", 1)]) (g := gName 1) rfl nd (pi_range1 rfl T.range (pa_cons (pe_ix (ixSeqK (K := K) (by rfl)) (pv 0) pe_int (fun _ _ => rfl)) pa_nil)) (blkOk_by (own := [("_law_place", 1)]) (N := N_law_word_of) (sc := defScope s_law_word_of) (by decide +kernel)) (fun _ _ _ _ _ => (pg_name (i := 1) nd rfl (Or.inl rfl))) (fun _ _ _ _ _ => pts_nil) (fun _ _ _ _ _ => (pe_ix (ixSeqK (K := K) (by rfl)) pe_str (pe_callTy callInt (by rfl) T.int (by decide +kernel) (pa_cons (pe_cmpR (opInK (K := K) (by rfl)) (pe_op opSub (pe_ix (ixSeqK (K := K) (by rfl)) (pv 0) pe_int (fun _ _ => rfl)) (pv 1)) (pv 0) (by rfl)) pa_nil)) (fun _ _ => rfl)))) pa_nil))))), ?_⟩
    try dsimp only [L2.cxOf, L2.Cx.nox]
    simp only [L2.start, N_law_word_of, List.map_cons, List.map_nil, List.length_cons, List.length_nil, Nat.reduceAdd, Nat.reduceSub, List.replicate_succ, List.replicate_zero, List.cons_append, List.nil_append]

    have hlen := hd.len
    walk_at "gos"
    · rename_i hI
      have e : ds = [] := hI
      exact k [] _ Gx.rel Wd.nil (by rw [e]; rfl)
    · rename_i hI
      have hne : ds ≠ [] := hI
      have h0 : 0 < ds.length := List.length_pos_iff.mpr hne
      have hat := hd.at h0
      have ehead : ds.getD 0 0 = ds.headD 0 := by cases ds <;> rfl
      obtain ⟨n, hn⟩ : ∃ n : Nat, ds.getD 0 0 = n := ⟨(ds.getD 0 0).toNat, by omega⟩
      walk_at "gos"
      rw [show (0 : Int).toNat = 0 from rfl, hn]
      refine Gx.lc1_F (fun i => ((wdOf n ds).take i).map fun b => V.str (tx [b])) (by omega) rfl (fun i hi => ?_) (fun D i H' hi hD e hp hz => ?_) (fun D H' hD e hp => ?_)
      · rw [List.length_map, List.length_take]
        omega
      · have hb : (wdOf n ds)[i]? = some (decide ((n : Int) - (i : Nat) ∈ ds)) := by
          have hi' : i < n := by omega
          simp [wdOf, hi']
        walk_at "gos"
        rw [show (0 : Int).toNat = 0 from rfl, hn]
        walk_at "gos"
        by_cases hm : (n : Int) - (i : Nat) ∈ ds
        · rw [if_pos hm]
          rw [decide_eq_true hm] at hb
          walk_at "gos"
          exact ⟨Gx.rel, Gx.take_map_snoc (f := fun b => V.str (tx [b])) hb⟩
        · rw [if_neg hm]
          rw [decide_eq_false hm] at hb
          walk_at "gos"
          exact ⟨Gx.rel, Gx.take_map_snoc (f := fun b => V.str (tx [b])) hb⟩
      · have hl : (wdOf n ds).length = n := by simp [wdOf]
        rw [Int.toNat_natCast, List.take_of_length_le (by omega), show ((wdOf n ds).map fun b => V.str (tx [b])) = ((wdOf n ds).map fun b => [b]).map fun l => V.str (tx l) from by rw [List.map_map]; rfl] at hp
        walk_at "gos"
        refine Gx.g_joinT (by rw [fl_one]; omega) ?_
        rw [fl_one]
        refine k _ _ Gx.rel (wd_wdOf (by omega) fun _ => ?_) (dep_wdOf hd.1 fun d hd' => ?_)
        · rw [← hn]
          exact Gx.getD_mem h0
        · rw [← hn, ehead]
          exact dec_head hd.1 d hd'
local macro_rules | `(tactic| walk_at "call") => `(tactic| ((with_reducible show spWOf _ _ _ _ _); refine ⟨_, _, rfl, ⟨inferInstance, by first | assumption | exact dep_dl (by assumption)⟩, ?_⟩; intro l_ H_ e_ hw_ hd_))

def spBet (K : PySem.W.Frag) : Sp := fun vs H Q _ => ∃ (b c p : Addr) (ds : List Int), vs = [.ref b, .ref p] ∧ (Bx b c H ∧ At H p (.lst (ds.map V.int)) ∧ NeC p b ∧ DL ds) ∧ ∀ q (es : List Int) H', Nw H q → ExB b H H' → Bx b c H' → At H' q (.lst (es.map V.int)) → DL es → Above es ds → Q (.ref q) H'
theorem getD_snoc {ns : List Int} {x : Int} {t : Nat} : (ns ++ [x]).getD t 0 = if t < ns.length then ns.getD t 0 else if t = ns.length then x else 0 := by
  rw [List.getD_eq_getElem?_getD, List.getD_eq_getElem?_getD]
  by_cases h : t < ns.length
  · rw [if_pos h, List.getElem?_append_left h]
  · rw [if_neg h, List.getElem?_append_right (by omega)]
    by_cases e : t = ns.length
    · rw [if_pos e, e, Nat.sub_self]; rfl
    · rw [if_neg e, List.getElem?_eq_none (by simp; omega)]; rfl
theorem getD_rev {ns : List Int} {t : Nat} (h : t < ns.length) : ns.reverse.getD t 0 = ns.getD (ns.length - 1 - t) 0 := by
  rw [List.getD_eq_getElem?_getD, List.getD_eq_getElem?_getD, List.getElem?_reverse h]
abbrev s_law_better : Stmt := (top 30)
abbrev N_law_better : List Str := ["_law_box_here", "_law_worse", "_law_many", "_law_mode", "_law_found", "_law_last", "_law_back", "_law_room"]
theorem sc_law_better : FnScope N_law_better ["_law_box_here", "_law_worse"] (defScope s_law_better) := ⟨rfl, rfl, rfl, by decide +kernel, rfl, by decide +kernel, by decide +kernel⟩
theorem cl_law_better (T : Bl mg) (Z : EcF P K mg c_StoreError c_InvalidInput c_NoPlace) (D : DfG K mg "_law_better" s_law_better [] []) (C_law_take : ClG CX0 P w K mg base 3 "_law_take" s_law_take ["_law_box_here", "_law_size"] [] [] spTake) : ClG CX0 P w K mg base 5 "_law_better" s_law_better ["_law_box_here", "_law_worse"] [] [] (spBet K) := by
  have nd := sc_law_better.nd
  refine D.okP sc_law_better (fun vs H Q E h => ?_) (fun f cdv A outer s H vs Q E hr h => ?_)
  · obtain ⟨b, c, p, ds, rfl, _⟩ := h
    rfl
  · obtain ⟨b, c, p, ds, rfl, ⟨hb, hp, hpb, hd⟩, k⟩ := h
    have hu := hu64 hr
    refine ⟨_, (pss_cons (ps_set (i := 2) nd rfl (Or.inl rfl) (pe_callB (callLenK (K := K) (by rfl)) (by rfl) T.len (by decide +kernel) (pa_cons (pv 1) pa_nil)))
    (pss_cons (ps_if (pt_cmpR (opEqK (K := K) (by rfl) (by exact hu)) (pe_g C_law_take (by exact hr.mono (by decide)) (E := fun _ => E0) (fun σ => passC0 σ) (fun _ _ _ _ _ _ us hl => match us, hl with | [_, _], _ => rfl) (pa_cons (pv 0) (pa_cons pe_int pa_nil))) pe_int (nomark _))
      (pss_one (ps_set (i := 2) nd rfl (Or.inl rfl) (pe_g C_law_take (by exact hr.mono (by decide)) (E := fun _ => E0) (fun σ => passC0 σ) (fun _ _ _ _ _ _ us hl => match us, hl with | [_, _], _ => rfl) (pa_cons (pv 0) (pa_cons (pe_op (opAddK (K := K) (by rfl)) (pv 2) pe_int) pa_nil)))))
      pss_nil)
    (pss_cons (ps_set (i := 3) nd rfl (Or.inl rfl) (pe_g C_law_take (by exact hr.mono (by decide)) (E := fun _ => E0) (fun σ => passC0 σ) (fun _ _ _ _ _ _ us hl => match us, hl with | [_, _], _ => rfl) (pa_cons (pv 0) (pa_cons pe_int pa_nil))))
    (pss_cons (ps_set (i := 4) nd rfl (Or.inl rfl) (pe_lst pa_nil))
    (pss_cons (ps_set (i := 5) nd rfl (Or.inl rfl) pe_int)
    (pss_cons (ps_for PassesOwn.never rfl (pi_range1 rfl T.range (pa_cons (pv 2) pa_nil)) (pg_name (i := 6) nd rfl (Or.inl rfl))
      (pss_cons (ps_set (i := 7) nd rfl (Or.inl rfl) (pe_op opSub (pe_ix (ixSeqK (K := K) (by rfl)) (pv 1) (pe_op opSub (pe_op opSub (pv 2) pe_int) (pv 6)) (fun _ _ => rfl)) (pv 5)))
    (pss_cons (ps_if (pt_cmpR (opEqK (K := K) (by rfl) (by exact hu)) (pv 3) pe_int (nomark _))
      (pss_one (ps_set (i := 7) nd rfl (Or.inl rfl) (pe_callB (callMax2 rfl) (by rfl) T.max (by decide +kernel) (pa_cons pe_int (pa_cons (pe_op opSub (pv 7) (pe_g C_law_take (by exact hr.mono (by decide)) (E := fun _ => E0) (fun σ => passC0 σ) (fun _ _ _ _ _ _ us hl => match us, hl with | [_, _], _ => rfl) (pa_cons (pv 0) (pa_cons pe_int pa_nil)))) pa_nil)))))
      pss_nil)
    (pss_cons (ps_if (pt_cmpR (opEqK (K := K) (by rfl) (by exact hu)) (pv 3) pe_int (nomark _))
      (pss_one (ps_set (i := 7) nd rfl (Or.inl rfl) (pe_op (opAddK (K := K) (by rfl)) pe_int (pe_g C_law_take (by exact hr.mono (by decide)) (E := fun _ => E0) (fun σ => passC0 σ) (fun _ _ _ _ _ _ us hl => match us, hl with | [_, _], _ => rfl) (pa_cons (pv 0) (pa_cons (pv 7) pa_nil))))))
      pss_nil)
    (pss_cons (ps_set (i := 5) nd rfl (Or.inl rfl) (pe_op (opAddK (K := K) (by rfl)) (pv 5) (pv 7)))
    (pss_one (ps_expr (pe_bmK (K := K) (by rfl) PySem.F.plainAttrs_list PySem.F.slot_list_append PySem.F.type_list_append mt_append (pv 4) (pa_cons (pv 5) pa_nil)))))))))
    (pss_one (ps_ret (pe_revLK (K := K) (by rfl) (pv 4)))))))))), ?_⟩
    try dsimp only [L2.cxOf, L2.Cx.nox]
    simp only [L2.start, N_law_better, List.map_cons, List.map_nil, List.length_cons, List.length_nil, Nat.reduceAdd, Nat.reduceSub, List.replicate_succ, List.replicate_zero, List.cons_append, List.nil_append]

    have lc := liveBx2 hb
    have hlen := hd.len
    walk_at "gos"
    all_goals
      rename_i mode H1 h0 h1 e1 hB1 p2 H2 np2 e2 hp2
      refine Gx.for1n [b, p2] (fun M i σ' H' => ∃ (m last : Int) (ns : List Int) (s6 s7 : Option V), m = M ∧ σ' = [some (.ref b), some (.ref p), some (.int m), some (.int mode), some (.ref p2), some (.int last), s6, s7] ∧ Bx b c H' ∧ At H' p2 (.lst (ns.map V.int)) ∧ ns.length = i ∧ DL ns.reverse ∧ last = ns.reverse.headD 0 ∧ 0 ≤ last ∧ (∀ k : Nat, (k : Int) = m - 1 - i → k < ds.length ∧ ds.getD k 0 ≤ 64 ∧ last < ds.getD k 0) ∧ ∀ t : Nat, t < i → ∀ k : Nat, (k : Int) = m - 1 - t → ns.getD t 0 ≤ ds.getD k 0) (by omega) ⟨_, 0, [], _, _, rfl, rfl, inferInstance, Gx.at_, rfl, dl_nil, rfl, by omega, fun k hk => ?_, fun t ht => absurd ht (Nat.not_lt_zero _)⟩ ?_ ?_
      · have hk' : k < ds.length := by omega
        have := hd.at hk'
        exact ⟨hk', by omega, by omega⟩
      · rintro i σ' H' hi e ⟨m, last, ns, s6, s7, hm, rfl, hB, hp', hl, hD, hlast, h0, hk, hT⟩
        obtain ⟨k, ek⟩ : ∃ k : Nat, (k : Int) = m - 1 - i := ⟨(m - 1 - i).toNat, by omega⟩
        have ek' : (m - 1 - i).toNat = k := by omega
        obtain ⟨k1, k2, k3⟩ := hk k ek
        have fin : ∀ (last' : Int), last < last' → last' ≤ ds.getD k 0 → DL (ns ++ [last']).reverse ∧ last' = (ns ++ [last']).reverse.headD 0 ∧ 0 ≤ last' ∧ (∀ k : Nat, (k : Int) = m - 1 - (i + 1 : Nat) → k < ds.length ∧ ds.getD k 0 ≤ 64 ∧ last' < ds.getD k 0) ∧ ∀ t : Nat, t < i + 1 → ∀ k : Nat, (k : Int) = m - 1 - t → (ns ++ [last']).getD t 0 ≤ ds.getD k 0 := by
          intro last' g1 g2
          refine ⟨?_, ?_, by omega, fun k' hk' => ?_, fun t ht k' hk' => ?_⟩
          · rw [List.reverse_append]
            exact ⟨⟨by show last' > ns.reverse.headD 0; omega, hD.1⟩, by show last' ≤ 64; omega⟩
          · rw [List.reverse_append]; rfl
          · have hl' : k' < ds.length := by omega
            have ha := hd.at hl'
            rw [show k' + 1 = k from by omega] at ha
            exact ⟨hl', by omega, by omega⟩
          · rw [getD_snoc]
            by_cases y : t < ns.length
            · rw [if_pos y]
              exact hT t (by omega) k' hk'
            · rw [if_neg y, if_pos (by omega), show k' = k by omega]
              exact g2
        walk_at "go"
        rw [ek']
        walk_at "gos"
        all_goals
          refine Gx.li ⟨m, _, ns ++ [_], _, _, hm, rfl, inferInstance, ?_, by rw [List.length_append, hl]; rfl, fin _ (by omega) (by omega)⟩
          rw [List.map_append]
          exact Gx.at_
      · rintro σ' H' e ⟨m, last, ns, s6, s7, hm, rfl, hB, hp', hl, hD, hlast, h0, hk, hT⟩
        walk_at "gos"
        rename_i p3 H3 np3 e3 hp3
        rw [← List.map_reverse] at hp3
        refine k _ _ _ Gx.new Gx.rel inferInstance hp3 hD ⟨by rw [List.length_reverse]; omega, fun t ht => ?_⟩
        rw [List.length_reverse] at ht
        rw [getD_rev ht]
        exact hT _ (by omega) t (by omega)
local macro_rules | `(tactic| walk_at "call") => `(tactic| ((with_reducible show spBet _ _ _ _ _); refine ⟨_, _, _, _, rfl, ⟨inferInstance, Gx.at_, inferInstance, by first | assumption | exact dep_dl (by assumption)⟩, ?_⟩; intro q_ es_ H_ np_ e_ hB_ hp_ hd_ ha_))
def spAbove (K : PySem.W.Frag) : Sp := fun vs H Q _ => ∃ (p q : Addr) (ds es : List Int), vs = [.ref p, .ref q] ∧ (SqC K H p (ds.map V.int) ∧ SqC K H q (es.map V.int) ∧ ds.length ≤ 1000) ∧ ∀ H', Ex H H' → Q (.bl (decide (Above ds es))) H'
abbrev s_law_above : Stmt := (top 31)
abbrev N_law_above : List Str := ["_law_one", "_law_other", "_law_place"]
theorem sc_law_above : FnScope N_law_above ["_law_one", "_law_other"] (defScope s_law_above) := ⟨rfl, rfl, rfl, by decide +kernel, rfl, by decide +kernel, by decide +kernel⟩
theorem cl_law_above (T : Bl mg) (Z : EcF P K mg c_StoreError c_InvalidInput c_NoPlace) (D : DfG K mg "_law_above" s_law_above [] [])  : ClG CX0 P w K mg base 3 "_law_above" s_law_above ["_law_one", "_law_other"] [] [] (spAbove K) := by
  have nd := sc_law_above.nd
  refine D.okP sc_law_above (fun vs H Q E h => ?_) (fun f cdv A outer s H vs Q E hr h => ?_)
  · obtain ⟨p, q, ds, es, rfl, _⟩ := h
    rfl
  · obtain ⟨p, q, ds, es, rfl, ⟨hp, hq, hl⟩, k⟩ := h
    have hu := hu64 hr
    refine ⟨_, (pss_cons (ps_if (pt_cmpR opGt (pe_callB (callLenK (K := K) (by rfl)) (by rfl) T.len (by decide +kernel) (pa_cons (pv 0) pa_nil)) (pe_callB (callLenK (K := K) (by rfl)) (by rfl) T.len (by decide +kernel) (pa_cons (pv 1) pa_nil)) (nomark _))
      (pss_one (ps_ret pe_bl))
      pss_nil)
    (pss_cons (ps_for PassesOwn.never rfl (pi_range1 rfl T.range (pa_cons (pe_callB (callLenK (K := K) (by rfl)) (by rfl) T.len (by decide +kernel) (pa_cons (pv 0) pa_nil)) pa_nil)) (pg_name (i := 2) nd rfl (Or.inl rfl))
      (pss_one (ps_if (pt_cmpR opGt (pe_ix (ixSeqK (K := K) (by rfl)) (pv 0) (pv 2) (fun _ _ => rfl)) (pe_ix (ixSeqK (K := K) (by rfl)) (pv 1) (pv 2) (fun _ _ => rfl)) (nomark _))
      (pss_one (ps_ret pe_bl))
      pss_nil)))
    (pss_one (ps_ret pe_bl)))), ?_⟩
    try dsimp only [L2.cxOf, L2.Cx.nox]
    simp only [L2.start, N_law_above, List.map_cons, List.map_nil, List.length_cons, List.length_nil, Nat.reduceAdd, Nat.reduceSub, List.replicate_succ, List.replicate_zero, List.cons_append, List.nil_append]

    walk_at "gos"
    · rename_i hI
      exact Gx.q_decN' (k _ Gx.rel) (fun z => by have := z.1; omega)
    · refine Gx.for1 [] (fun i σ' H' => ∃ s2, σ' = [some (.ref p), some (.ref q), s2] ∧ ∀ j, j < i → ds.getD j 0 ≤ es.getD j 0) (by omega) ⟨_, rfl, fun j hj => absurd hj (Nat.not_lt_zero _)⟩ ?_ ?_
      · rintro i σ' H' hi e ⟨s2, rfl, hP⟩
        walk_at "gos"
        · rename_i hI
          try rw [Int.toNat_natCast] at hI
          exact Gx.q_decN' (k _ Gx.rel) (fun z => by have := z.2 i (by omega); omega)
        · rename_i hI
          try rw [Int.toNat_natCast] at hI
          refine Gx.li ⟨_, rfl, fun j hj => ?_⟩
          by_cases h : j = i
          · rw [h]; omega
          · exact hP j (by omega)
      · rintro σ' H' e ⟨s2, rfl, hP⟩
        walk_at "gos"
        exact Gx.q_dec' (k _ Gx.rel) ⟨by omega, fun i hi => hP i (by omega)⟩
local macro_rules | `(tactic| walk_at "call") => `(tactic| ((with_reducible show spAbove _ _ _ _ _); refine ⟨_, _, _, _, rfl, ⟨inferInstance, inferInstance, by omega⟩, ?_⟩; intro H_ e_))

def spPlc : Sp := fun vs H Q _ => ∃ (b c : Addr) (size : Nat), vs = [.ref b, .int (size : Nat)] ∧ (Bx b c H ∧ size ≤ 64) ∧ ∀ (n : Nat) H', ExB b H H' → Bx b c H' → 1 ≤ n → size ≤ n → n ≤ 64 → Q (.int (n : Nat)) H'
theorem q_nat {H : Hp} {Q : VK} {i : Int} (h : 0 ≤ i) (k : Q (.int (i.toNat : Nat)) H) : Q (.int i) H := by rw [Int.toNat_of_nonneg h] at k; exact k
abbrev s_law_places : Stmt := (top 32)
abbrev N_law_places : List Str := ["_law_box_here", "_law_size", "_law_least", "_law_menu"]
theorem sc_law_places : FnScope N_law_places ["_law_box_here", "_law_size"] (defScope s_law_places) := ⟨rfl, rfl, rfl, by decide +kernel, rfl, by decide +kernel, by decide +kernel⟩
theorem cl_law_places (T : Bl mg) (Z : EcF P K mg c_StoreError c_InvalidInput c_NoPlace) (D : DfG K mg "_law_places" s_law_places [] []) (C_law_take : ClG CX0 P w K mg base 3 "_law_take" s_law_take ["_law_box_here", "_law_size"] [] [] spTake) : ClG CX0 P w K mg base 5 "_law_places" s_law_places ["_law_box_here", "_law_size"] [] [] spPlc := by
  have nd := sc_law_places.nd
  refine D.okP sc_law_places (fun vs H Q E h => ?_) (fun f cdv A outer s H vs Q E hr h => ?_)
  · obtain ⟨b, c, size, rfl, _⟩ := h
    rfl
  · obtain ⟨b, c, size, rfl, ⟨hb, h1⟩, k⟩ := h
    have hu := hu64 hr
    refine ⟨_, (pss_cons (ps_set (i := 2) nd rfl (Or.inl rfl) (pe_callB (callMax2 rfl) (by rfl) T.max (by decide +kernel) (pa_cons pe_int (pa_cons (pv 1) pa_nil))))
    (pss_cons (ps_set (i := 3) nd rfl (Or.inl rfl) (pe_g C_law_take (by exact hr.mono (by decide)) (E := fun _ => E0) (fun σ => passC0 σ) (fun _ _ _ _ _ _ us hl => match us, hl with | [_, _], _ => rfl) (pa_cons (pv 0) (pa_cons pe_int pa_nil))))
    (pss_cons (ps_if (pt_cmpR (opEqK (K := K) (by rfl) (by exact hu)) (pv 3) pe_int (nomark _))
      (pss_one (ps_ret (pv 2)))
      pss_nil)
    (pss_cons (ps_if (pt_cmpR (opEqK (K := K) (by rfl) (by exact hu)) (pv 3) pe_int (nomark _))
      (pss_one (ps_ret (pe_callB (callMin2 rfl) (by rfl) T.min (by decide +kernel) (pa_cons pe_int (pa_cons (pe_op (opAddK (K := K) (by rfl)) (pv 2) pe_int) pa_nil)))))
      pss_nil)
    (pss_one (ps_ret (pe_op (opAddK (K := K) (by rfl)) (pv 2) (pe_g C_law_take (by exact hr.mono (by decide)) (E := fun _ => E0) (fun σ => passC0 σ) (fun _ _ _ _ _ _ us hl => match us, hl with | [_, _], _ => rfl) (pa_cons (pv 0) (pa_cons (pe_op opSub pe_int (pv 2)) pa_nil)))))))))), ?_⟩
    try dsimp only [L2.cxOf, L2.Cx.nox]
    simp only [L2.start, N_law_places, List.map_cons, List.map_nil, List.length_cons, List.length_nil, Nat.reduceAdd, Nat.reduceSub, List.replicate_succ, List.replicate_zero, List.cons_append, List.nil_append]

    obtain ⟨m, hm, hm1, hm2, hm3⟩ : ∃ m : Nat, (if (size : Int) > 1 then (size : Int) else 1) = m ∧ 1 ≤ m ∧ size ≤ m ∧ m ≤ 64 := ⟨max size 1, by split <;> omega, by omega, by omega, by omega⟩
    walk_at "gos"
    rw [hm]
    walk_at "gos"
    · exact k _ _ Gx.rel inferInstance (by omega) (by omega) (by omega)
    · exact q_nat (by split <;> omega) (k _ _ Gx.rel inferInstance (by split <;> omega) (by split <;> omega) (by split <;> omega))
    · exact q_nat (by omega) (k _ _ Gx.rel inferInstance (by omega) (by omega) (by omega))
def spIsInt : Sp := fun vs H Q _ => ∃ (i : Int), vs = [.int i] ∧ Q (.bl true) H
abbrev s_law_is_integer : Stmt := (top 33)
abbrev N_law_is_integer : List Str := ["_law_told"]
theorem sc_law_is_integer : FnScope N_law_is_integer ["_law_told"] (defScope s_law_is_integer) := ⟨rfl, rfl, rfl, by decide +kernel, rfl, by decide +kernel, by decide +kernel⟩
theorem cl_law_is_integer (T : Bl mg) (Z : EcF P K mg c_StoreError c_InvalidInput c_NoPlace) (D : DfG K mg "_law_is_integer" s_law_is_integer [] [])  : ClG CX0 P w K mg base 3 "_law_is_integer" s_law_is_integer ["_law_told"] [] [] spIsInt := by
  have nd := sc_law_is_integer.nd
  refine D.okP sc_law_is_integer (fun vs H Q E h => ?_) (fun f cdv A outer s H vs Q E hr h => ?_)
  · obtain ⟨i, rfl, _⟩ := h
    rfl
  · obtain ⟨i, rfl, k⟩ := h
    have hu := hu64 hr
    refine ⟨_, (pss_one (ps_ret (pe_and (pe_callB (callIsiK (K := K) (by rfl)) (by rfl) T.isinstance (by decide +kernel) (pa_cons (pv 0) (pa_cons (pe_bltn (v := .ty "int") (by rfl) T.int (by decide +kernel) rfl) pa_nil))) (pe_one (pe_not (pe_callB (callIsiK (K := K) (by rfl)) (by rfl) T.isinstance (by decide +kernel) (pa_cons (pv 0) (pa_cons (pe_bltn (v := .ty "bool") (by rfl) T.bool (by decide +kernel) rfl) pa_nil)))))))), ?_⟩
    try dsimp only [L2.cxOf, L2.Cx.nox]
    simp only [L2.start, N_law_is_integer, List.map_cons, List.map_nil, List.length_cons, List.length_nil, Nat.reduceAdd, Nat.reduceSub, List.replicate_succ, List.replicate_zero, List.cons_append, List.nil_append]

    walk_at "gos"
    exact k
local macro_rules | `(tactic| walk_at "call") => `(tactic| first
  | ((with_reducible show spIsInt _ _ _ _); refine ⟨_, rfl, ?_⟩)
  | ((with_reducible show spDeps _ _ _ _); refine ⟨_, rfl, by walk_at "szt", ?_⟩; intro p_ H_ np_ e_ hp_))
def spIsW : Sp := fun vs H Q _ => ∃ (u : List Bool) (many most : Int), vs = [.str (tx u), .int many, .int most] ∧ (Wd u ∧ ((u.count true : Nat) : Int) = many ∧ ((u.length : Nat) : Int) ≤ most) ∧ ∀ H', Ex H H' → Q (.bl true) H'
theorem use_isW {u : List Bool} {many most : Int} {H : Hp} {Q : VK} {E : XK} (h1 : Wd u) (h2 : ((u.count true : Nat) : Int) = many) (h3 : ((u.length : Nat) : Int) ≤ most) (k : ∀ H', Ex H H' → Q (.bl true) H') : spIsW ([.str (tx u), .int many, .int most] ++ []) H Q E := ⟨u, many, most, rfl, ⟨h1, h2, h3⟩, k⟩
abbrev s_law_is_word : Stmt := (top 34)
abbrev N_law_is_word : List Str := ["_law_told", "_law_many", "_law_most", "_law_sign"]
theorem sc_law_is_word : FnScope N_law_is_word ["_law_told", "_law_many", "_law_most"] (defScope s_law_is_word) := ⟨rfl, rfl, rfl, by decide +kernel, rfl, by decide +kernel, by decide +kernel⟩
theorem cl_law_is_word (T : Bl mg) (Z : EcF P K mg c_StoreError c_InvalidInput c_NoPlace) (D : DfG K mg "_law_is_word" s_law_is_word [] []) (C_law_depths : ClG CX0 P w K mg base 3 "_law_depths" s_law_depths ["_law_word_here"] [] [] spDeps) : ClG CX0 P w K mg base 5 "_law_is_word" s_law_is_word ["_law_told", "_law_many", "_law_most"] [] [] spIsW := by
  have nd := sc_law_is_word.nd
  refine D.okP sc_law_is_word (fun vs H Q E h => ?_) (fun f cdv A outer s H vs Q E hr h => ?_)
  · obtain ⟨u, many, most, rfl, _⟩ := h
    rfl
  · obtain ⟨u, many, most, rfl, ⟨hw, h1, h2⟩, k⟩ := h
    have hu := hu64 hr
    refine ⟨_, (pss_cons (ps_if (PW.pt (pw_or (pt_not (pt_val (pe_callB (callIsiK (K := K) (by rfl)) (by rfl) T.isinstance (by decide +kernel) (pa_cons (pv 0) (pa_cons (pe_bltn (v := .ty "str") (by rfl) T.str (by decide +kernel) rfl) pa_nil))))) (pw_or1 (pt_cmpR opGt (pe_callB (callLenK (K := K) (by rfl)) (by rfl) T.len (by decide +kernel) (pa_cons (pv 0) pa_nil)) (pv 2) (nomark _)))))
      (pss_one (ps_ret pe_bl))
      pss_nil)
    (pss_cons (ps_for PassesOwn.never rfl (pi_str (pv 0)) (pg_name (i := 3) nd rfl (Or.inl rfl))
      (pss_one (ps_if (PW.pt (pw_and (pt_cmpR (opNeK (K := K) (by rfl) (by exact hu)) (pv 3) pe_str (nomark _)) (pw_and1 (pt_cmpR (opNeK (K := K) (by rfl) (by exact hu)) (pv 3) pe_str (nomark _)))))
      (pss_one (ps_ret pe_bl))
      pss_nil)))
    (pss_cons (ps_if (PW.pt (pw_and (pt_cmpR (opNeK (K := K) (by rfl) (by exact hu)) (pv 0) pe_str (nomark _)) (pw_and1 (pt_cmpR (opNeK (K := K) (by rfl) (by exact hu)) (pe_ix (ixSeqK (K := K) (by rfl)) (pv 0) pe_int (fun _ _ => rfl)) pe_str (nomark _)))))
      (pss_one (ps_ret pe_bl))
      pss_nil)
    (pss_one (ps_ret (pe_cmpR (opEqK (K := K) (by rfl) (by exact hu)) (pe_callB (callLenK (K := K) (by rfl)) (by rfl) T.len (by decide +kernel) (pa_cons (pe_g C_law_depths (by exact hr.mono (by decide)) (E := fun _ => E0) (fun σ => passC0 σ) (fun _ _ _ _ _ _ us hl => match us, hl with | [_], _ => rfl) (pa_cons (pv 0) pa_nil)) pa_nil)) (pv 1) (nomark _))))))), ?_⟩
    try dsimp only [L2.cxOf, L2.Cx.nox]
    simp only [L2.start, N_law_is_word, List.map_cons, List.map_nil, List.length_cons, List.length_nil, Nat.reduceAdd, Nat.reduceSub, List.replicate_succ, List.replicate_zero, List.cons_append, List.nil_append]

    have hl := hw.1
    have hdl := dep_len u
    have h0 : ∀ b r, u = b :: r → b = true := fun b r e => by
      have := hw.2
      rw [e] at this
      cases b <;> simp_all
    walk_at "gos"
    refine Gx.forS [] (fun i σ' H' => ∃ s3, σ' = [some (.str (tx u)), some (.int many), some (.int most), s3]) ⟨_, rfl⟩ ?_ ?_
    · rintro i c x σ' H' hi hc rfl e ⟨s3, rfl⟩
      obtain ⟨b, hb, eb⟩ := Gx.tx_char hc
      rw [eb]
      cases b
      all_goals
        walk_at "gos"
        all_goals first | exact Gx.li ⟨_, rfl⟩ | (exfalso; simp_all; done)
    · rintro σ' H' e ⟨s3, rfl⟩
      cases u with
      | nil =>
        walk_at "gos"
        all_goals first | exact q_bl (k _ Gx.rel) (by simp; omega) | (exfalso; simp_all; done)
      | cons b r =>
        have := h0 b r rfl
        subst this
        walk_at "go"
        refine Gx.g_iteN (fun hI => ?_) (fun hI => by simp at hI)
        walk_at "go"
        refine Gx.g_ixTx (b := true) (by walk_at "szt") (Gx.atI_nat (n := 0) rfl) ?_
        walk_at "gos"
        all_goals first | exact q_bl (k _ Gx.rel) (by simp; omega) | (exfalso; simp_all; done)
def spBK : Sp := fun vs H Q _ => ∃ (l m : List Bool), vs = [.str (tx l), .str (tx m)] ∧ (Wd l ∧ Wd m ∧ D l m) ∧ ∀ H', Ex H H' → Q (.bl true) H'
local macro_rules | `(tactic| walk_at "call") => `(tactic| ((with_reducible show spDom _ _ _ _); refine ⟨_, _, rfl, ⟨by assumption, by assumption⟩, ?_⟩; intro H_ e_))
abbrev s_law_better_kept : Stmt := (top 35)
abbrev N_law_better_kept : List Str := ["_law_better_here", "_law_worse"]
theorem sc_law_better_kept : FnScope N_law_better_kept ["_law_better_here", "_law_worse"] (defScope s_law_better_kept) := ⟨rfl, rfl, rfl, by decide +kernel, rfl, by decide +kernel, by decide +kernel⟩
theorem cl_law_better_kept (T : Bl mg) (Z : EcF P K mg c_StoreError c_InvalidInput c_NoPlace) (D : DfG K mg "_law_better_kept" s_law_better_kept [] []) (C_dominates : ClG CX0 P w K mg base 5 "dominates" s_dominates ["first", "second"] [] [] spDom) (C_law_above : ClG CX0 P w K mg base 3 "_law_above" s_law_above ["_law_one", "_law_other"] [] [] (spAbove K)) (C_law_depths : ClG CX0 P w K mg base 3 "_law_depths" s_law_depths ["_law_word_here"] [] [] spDeps) : ClG CX0 P w K mg base 7 "_law_better_kept" s_law_better_kept ["_law_better_here", "_law_worse"] [] [] spBK := by
  have nd := sc_law_better_kept.nd
  refine D.okP sc_law_better_kept (fun vs H Q E h => ?_) (fun f cdv A outer s H vs Q E hr h => ?_)
  · obtain ⟨l, m, rfl, _⟩ := h
    rfl
  · obtain ⟨l, m, rfl, ⟨hl, hm, h⟩, k⟩ := h
    have hu := hu64 hr
    refine ⟨_, (pss_cons (ps_if (pt_not (pt_val (pe_g C_law_above (by exact hr.mono (by decide)) (E := fun _ => E0) (fun σ => passC0 σ) (fun _ _ _ _ _ _ us hl => match us, hl with | [_, _], _ => rfl) (pa_cons (pe_g C_law_depths (by exact hr.mono (by decide)) (E := fun _ => E0) (fun σ => passC0 σ) (fun _ _ _ _ _ _ us hl => match us, hl with | [_], _ => rfl) (pa_cons (pv 0) pa_nil)) (pa_cons (pe_g C_law_depths (by exact hr.mono (by decide)) (E := fun _ => E0) (fun σ => passC0 σ) (fun _ _ _ _ _ _ us hl => match us, hl with | [_], _ => rfl) (pa_cons (pv 1) pa_nil)) pa_nil)))))
      (pss_one (ps_ret pe_bl))
      pss_nil)
    (pss_one (ps_ret (pe_cmpR op_isB (pe_g C_dominates (by exact hr.mono (by decide)) (E := fun _ => E0) (fun σ => passC0 σ) (fun _ _ _ _ _ _ us hl => match us, hl with | [_, _], _ => rfl) (pa_cons (pv 0) (pa_cons (pv 1) pa_nil))) pe_bl (nomark _))))), ?_⟩
    try dsimp only [L2.cxOf, L2.Cx.nox]
    simp only [L2.start, N_law_better_kept, List.map_cons, List.map_nil, List.length_cons, List.length_nil, Nat.reduceAdd, Nat.reduceSub, List.replicate_succ, List.replicate_zero, List.cons_append, List.nil_append]

    have h1 := hl.1
    have h2 := hm.1
    have h3 := dep_len l
    have h4 := cnt_le l
    walk_at "gos"
    exact q_bl (k _ Gx.rel) (by rw [decide_eq_true h]; rfl)
local macro_rules | `(tactic| walk_at "call") => `(tactic| ((with_reducible show spBK _ _ _ _); refine ⟨_, _, rfl, ⟨by assumption, by assumption, by assumption⟩, ?_⟩; intro H_ e_))


theorem use_relN {l : List Bool} {i : Nat} {H : Hp} {Q : VK} {E : XK} (h : Wd l) (hi : i < l.count true) (k : ∀ H', Ex H H' → Q (.str (tx (relW l i))) H') : spRelease ([.str (tx l), .int (i : Nat)] ++ []) H Q E :=
  ⟨l, i, rfl, ⟨h, by omega, by omega⟩, by rw [Int.toNat_natCast]; exact k⟩
theorem wd_relW {l : List Bool} {i : Nat} (h : Wd l) (hi : i < l.count true) : Wd (relW l i) := ⟨Nat.le_trans (rel_len hi) h.1, head_trim _⟩
local macro_rules | `(tactic| walk_at "wd") => `(tactic| first | assumption | (apply wd_relW <;> (first | assumption | omega)))
local macro_rules | `(tactic| walk_at "call") => `(tactic| first
  | ((with_reducible show spRelease _ _ _ _); refine use_relN (by assumption) (by omega) ?_; intro H_ e_)
  | ((with_reducible show spNewest _ _ _ _); refine ⟨_, rfl, by assumption, ?_⟩)
  | ((with_reducible show spIsW _ _ _ _); refine use_isW (by walk_at "wd") (by omega) (by omega) ?_; intro H_ e_))
abbrev s_law_release_kept : Stmt := (top 36)
abbrev N_law_release_kept : List Str := ["_law_better_here", "_law_worse", "_law_many", "_law_others", "_law_told", "_law_worst", "_law_index", "_law_left"]
theorem sc_law_release_kept : FnScope N_law_release_kept ["_law_better_here", "_law_worse"] (defScope s_law_release_kept) := ⟨rfl, rfl, rfl, by decide +kernel, rfl, by decide +kernel, by decide +kernel⟩
theorem cl_law_release_kept (T : Bl mg) (Z : EcF P K mg c_StoreError c_InvalidInput c_NoPlace) (D : DfG K mg "_law_release_kept" s_law_release_kept [] []) (C_law_better_kept : ClG CX0 P w K mg base 7 "_law_better_kept" s_law_better_kept ["_law_better_here", "_law_worse"] [] [] spBK) (C_law_is_word : ClG CX0 P w K mg base 5 "_law_is_word" s_law_is_word ["_law_told", "_law_many", "_law_most"] [] [] spIsW) (C_release : ClG CX0 P w K mg base 7 "release" s_release ["word", "index"] [] [] spRelease) (C_law_is_integer : ClG CX0 P w K mg base 3 "_law_is_integer" s_law_is_integer ["_law_told"] [] [] spIsInt) (C_newest : ClG CX0 P w K mg base 5 "newest" s_newest ["word"] [] [] spNewest) (C_law_depths : ClG CX0 P w K mg base 3 "_law_depths" s_law_depths ["_law_word_here"] [] [] spDeps) : ClG CX0 P w K mg base 9 "_law_release_kept" s_law_release_kept ["_law_better_here", "_law_worse"] [] [] spBK := by
  have nd := sc_law_release_kept.nd
  refine D.okP sc_law_release_kept (fun vs H Q E h => ?_) (fun f cdv A outer s H vs Q E hr h => ?_)
  · obtain ⟨l, m, rfl, _⟩ := h
    rfl
  · obtain ⟨l, m, rfl, ⟨hl, hm, h⟩, k⟩ := h
    have hu := hu64 hr
    refine ⟨_, (pss_cons (ps_set (i := 2) nd rfl (Or.inl rfl) (pe_callB (callLenK (K := K) (by rfl)) (by rfl) T.len (by decide +kernel) (pa_cons (pe_g C_law_depths (by exact hr.mono (by decide)) (E := fun _ => E0) (fun σ => passC0 σ) (fun _ _ _ _ _ _ us hl => match us, hl with | [_], _ => rfl) (pa_cons (pv 0) pa_nil)) pa_nil)))
    (pss_cons (ps_set (i := 3) nd rfl (Or.inl rfl) (pe_callB (callLenK (K := K) (by rfl)) (by rfl) T.len (by decide +kernel) (pa_cons (pe_g C_law_depths (by exact hr.mono (by decide)) (E := fun _ => E0) (fun σ => passC0 σ) (fun _ _ _ _ _ _ us hl => match us, hl with | [_], _ => rfl) (pa_cons (pv 1) pa_nil)) pa_nil)))
    (pss_cons (ps_if (pt_cmpR (opEqK (K := K) (by rfl) (by exact hu)) (pv 3) pe_int (nomark _))
      (pss_one (ps_ret (pe_cmpR opIsN (pe_g C_newest (by exact hr.mono (by decide)) (E := fun _ => E0) (fun σ => passC0 σ) (fun _ _ _ _ _ _ us hl => match us, hl with | [_], _ => rfl) (pa_cons (pv 1) pa_nil)) pe_non (nomark _))))
      pss_nil)
    (pss_cons (ps_set (i := 4) nd rfl (Or.inl rfl) (pe_g C_newest (by exact hr.mono (by decide)) (E := fun _ => E0) (fun σ => passC0 σ) (fun _ _ _ _ _ _ us hl => match us, hl with | [_], _ => rfl) (pa_cons (pv 1) pa_nil)))
    (pss_cons (ps_if (PW.pt (pw_or (pt_not (pt_val (pe_g C_law_is_integer (by exact hr.mono (by decide)) (E := fun _ => E0) (fun σ => passC0 σ) (fun _ _ _ _ _ _ us hl => match us, hl with | [_], _ => rfl) (pa_cons (pv 4) pa_nil)))) (pw_or1 (pt_cmpR (opNeK (K := K) (by rfl) (by exact hu)) (pv 4) (pe_op opSub (pv 3) pe_int) (nomark _)))))
      (pss_one (ps_ret pe_bl))
      pss_nil)
    (pss_cons (ps_set (i := 5) nd rfl (Or.inl rfl) (pe_g C_release (by exact hr.mono (by decide)) (E := fun _ => E0) (fun σ => passC0 σ) (fun _ _ _ _ _ _ us hl => match us, hl with | [_, _], _ => rfl) (pa_cons (pv 1) (pa_cons (pv 4) pa_nil))))
    (pss_cons (ps_if (pt_not (pt_val (pe_g C_law_is_word (by exact hr.mono (by decide)) (E := fun _ => E0) (fun σ => passC0 σ) (fun _ _ _ _ _ _ us hl => match us, hl with | [_, _, _], _ => rfl) (pa_cons (pv 5) (pa_cons (pe_op opSub (pv 3) pe_int) (pa_cons (pe_callB (callLenK (K := K) (by rfl)) (by rfl) T.len (by decide +kernel) (pa_cons (pv 1) pa_nil)) pa_nil))))))
      (pss_one (ps_ret pe_bl))
      pss_nil)
    (pss_cons (ps_if (PW.pt (pw_and (pt_cmpR opLt (pv 2) (pv 3) (nomark _)) (pw_and1 (pt_not (pt_val (pe_g C_law_better_kept (by exact hr.mono (by decide)) (E := fun _ => E0) (fun σ => passC0 σ) (fun _ _ _ _ _ _ us hl => match us, hl with | [_, _], _ => rfl) (pa_cons (pv 0) (pa_cons (pv 5) pa_nil))))))))
      (pss_one (ps_ret pe_bl))
      pss_nil)
    (pss_cons (ps_for PassesOwn.never rfl (pi_range1 rfl T.range (pa_cons (pv 2) pa_nil)) (pg_name (i := 6) nd rfl (Or.inl rfl))
      (pss_cons (ps_set (i := 7) nd rfl (Or.inl rfl) (pe_g C_release (by exact hr.mono (by decide)) (E := fun _ => E0) (fun σ => passC0 σ) (fun _ _ _ _ _ _ us hl => match us, hl with | [_, _], _ => rfl) (pa_cons (pv 0) (pa_cons (pv 6) pa_nil))))
    (pss_cons (ps_if (pt_not (pt_val (pe_g C_law_is_word (by exact hr.mono (by decide)) (E := fun _ => E0) (fun σ => passC0 σ) (fun _ _ _ _ _ _ us hl => match us, hl with | [_, _, _], _ => rfl) (pa_cons (pv 7) (pa_cons (pe_op opSub (pv 2) pe_int) (pa_cons (pe_callB (callLenK (K := K) (by rfl)) (by rfl) T.len (by decide +kernel) (pa_cons (pv 0) pa_nil)) pa_nil))))))
      (pss_one (ps_ret pe_bl))
      pss_nil)
    (pss_cons (ps_if (PW.pt (pw_or (pt_not (pt_val (pe_g C_law_better_kept (by exact hr.mono (by decide)) (E := fun _ => E0) (fun σ => passC0 σ) (fun _ _ _ _ _ _ us hl => match us, hl with | [_, _], _ => rfl) (pa_cons (pv 7) (pa_cons (pv 0) pa_nil))))) (pw_or1 (pt_not (pt_val (pe_g C_law_better_kept (by exact hr.mono (by decide)) (E := fun _ => E0) (fun σ => passC0 σ) (fun _ _ _ _ _ _ us hl => match us, hl with | [_, _], _ => rfl) (pa_cons (pv 7) (pa_cons (pv 1) pa_nil))))))))
      (pss_one (ps_ret pe_bl))
      pss_nil)
    (pss_one (ps_if (pt_not (pt_val (pe_g C_law_better_kept (by exact hr.mono (by decide)) (E := fun _ => E0) (fun σ => passC0 σ) (fun _ _ _ _ _ _ us hl => match us, hl with | [_, _], _ => rfl) (pa_cons (pv 7) (pa_cons (pv 5) pa_nil)))))
      (pss_one (ps_ret pe_bl))
      pss_nil))))))
    (pss_one (ps_ret pe_bl))))))))))), ?_⟩
    try dsimp only [L2.cxOf, L2.Cx.nox]
    simp only [L2.start, N_law_release_kept, List.map_cons, List.map_nil, List.length_cons, List.length_nil, Nat.reduceAdd, Nat.reduceSub, List.replicate_succ, List.replicate_zero, List.cons_append, List.nil_append]

    have h1 := hl.1
    have h2 := hm.1
    have h3 := dep_len l
    have h4 := cnt_le l
    have h5 := dep_len m
    have h6 := cnt_le m
    have h7 := h.cnt
    by_cases hz : m.count true = 0
    · walk_at "gos"
      rw [if_pos hz]
      walk_at "gos"
      exact k _ Gx.rel
    · obtain ⟨c, hc⟩ : ∃ c, m.count true = c + 1 := ⟨m.count true - 1, by omega⟩
      have hcr : c < m.count true := by omega
      have ecr : m.count true - 1 = c := by omega
      have hwc := wd_relW hm hcr
      have hcl := rel_len hcr
      have hcc := rel_cnt hcr
      have hDn : l.count true < m.count true → Toy.D l (relW m c) := fun z => by have := Toy.D.newest h z; rw [ecr] at this; exact this
      have hi1 : ∀ i : Nat, i < l.count true → Wd (relW l i) ∧ (relW l i).length ≤ l.length ∧ (relW l i).count true + 1 = l.count true ∧ Toy.D (relW l i) l ∧ Toy.D (relW l i) m ∧ Toy.D (relW l i) (relW m c) := fun i hi =>
        ⟨wd_relW hl hi, rel_len hi, rel_cnt hi, Toy.D.rel_self hi, (Toy.D.rel_self hi).trans h, by have := Toy.D.rel_newest h hi; rw [ecr] at this; exact this⟩
      walk_at "gos"
      rw [if_neg hz, show ((m.count true : Nat) : Int) - 1 = ((c : Nat) : Int) from by omega]
      walk_at "gos"
      · have hDn' := hDn (by omega)
        walk_at "gos"
        refine Gx.for1 [] (fun i σ' H' => ∃ s6 s7, σ' = [some (.str (tx l)), some (.str (tx m)), some (.int (l.count true : Nat)), some (.int (m.count true : Nat)), some (.int (c : Nat)), some (.str (tx (relW m c))), s6, s7]) (by omega) ⟨_, _, by rw [h3, h5]⟩ ?_ ?_
        · rintro i σ' H' hi e ⟨s6, s7, rfl⟩
          obtain ⟨g1, g2, g3, g4, g5, g6⟩ := hi1 i (by omega)
          walk_at "gos"
          exact Gx.li ⟨_, _, rfl⟩
        · rintro σ' H' e ⟨s6, s7, rfl⟩
          walk_at "gos"
          exact k _ Gx.rel
      · refine Gx.for1 [] (fun i σ' H' => ∃ s6 s7, σ' = [some (.str (tx l)), some (.str (tx m)), some (.int (l.count true : Nat)), some (.int (m.count true : Nat)), some (.int (c : Nat)), some (.str (tx (relW m c))), s6, s7]) (by omega) ⟨_, _, by rw [h3, h5]⟩ ?_ ?_
        · rintro i σ' H' hi e ⟨s6, s7, rfl⟩
          obtain ⟨g1, g2, g3, g4, g5, g6⟩ := hi1 i (by omega)
          walk_at "gos"
          exact Gx.li ⟨_, _, rfl⟩
        · rintro σ' H' e ⟨s6, s7, rfl⟩
          walk_at "gos"
          exact k _ Gx.rel
local macro_rules | `(tactic| walk_at "call") => `(tactic| ((with_reducible show spBK _ _ _ _); refine ⟨_, _, rfl, ⟨by assumption, by assumption, by assumption⟩, ?_⟩; intro H_ e_))
def spPK : Sp := fun vs H Q _ => ∃ (b l m : List Bool) (others most : Int), vs = [.str (tx b), .str (tx l), .str (tx m), .int others, .int most] ∧ (Wd b ∧ Wd l ∧ Wd m ∧ l.count true = b.count true ∧ l.length ≤ b.length ∧ ((m.count true : Nat) : Int) = others ∧ ((m.length : Nat) : Int) ≤ most ∧ Toy.D l b ∧ Toy.D l m) ∧ ∀ H', Ex H H' → Q (.bl true) H'
abbrev s_law_pair_kept : Stmt := (top 37)
abbrev N_law_pair_kept : List Str := ["_law_before", "_law_left", "_law_right", "_law_others", "_law_most"]
theorem sc_law_pair_kept : FnScope N_law_pair_kept ["_law_before", "_law_left", "_law_right", "_law_others", "_law_most"] (defScope s_law_pair_kept) := ⟨rfl, rfl, rfl, by decide +kernel, rfl, by decide +kernel, by decide +kernel⟩
theorem cl_law_pair_kept (T : Bl mg) (Z : EcF P K mg c_StoreError c_InvalidInput c_NoPlace) (D : DfG K mg "_law_pair_kept" s_law_pair_kept [] []) (C_law_better_kept : ClG CX0 P w K mg base 7 "_law_better_kept" s_law_better_kept ["_law_better_here", "_law_worse"] [] [] spBK) (C_law_is_word : ClG CX0 P w K mg base 5 "_law_is_word" s_law_is_word ["_law_told", "_law_many", "_law_most"] [] [] spIsW) (C_law_depths : ClG CX0 P w K mg base 3 "_law_depths" s_law_depths ["_law_word_here"] [] [] spDeps) : ClG CX0 P w K mg base 9 "_law_pair_kept" s_law_pair_kept ["_law_before", "_law_left", "_law_right", "_law_others", "_law_most"] [] [] spPK := by
  have nd := sc_law_pair_kept.nd
  refine D.okP sc_law_pair_kept (fun vs H Q E h => ?_) (fun f cdv A outer s H vs Q E hr h => ?_)
  · obtain ⟨b, l, m, others, most, rfl, _⟩ := h
    rfl
  · obtain ⟨b, l, m, others, most, rfl, ⟨hb, hl, hm, g1, g2, g3, g4, g5, g6⟩, k⟩ := h
    have hu := hu64 hr
    refine ⟨_, (pss_cons (ps_if (PW.pt (pw_or (pt_not (pt_val (pe_g C_law_is_word (by exact hr.mono (by decide)) (E := fun _ => E0) (fun σ => passC0 σ) (fun _ _ _ _ _ _ us hl => match us, hl with | [_, _, _], _ => rfl) (pa_cons (pv 1) (pa_cons (pe_callB (callLenK (K := K) (by rfl)) (by rfl) T.len (by decide +kernel) (pa_cons (pe_g C_law_depths (by exact hr.mono (by decide)) (E := fun _ => E0) (fun σ => passC0 σ) (fun _ _ _ _ _ _ us hl => match us, hl with | [_], _ => rfl) (pa_cons (pv 0) pa_nil)) pa_nil)) (pa_cons (pe_callB (callLenK (K := K) (by rfl)) (by rfl) T.len (by decide +kernel) (pa_cons (pv 0) pa_nil)) pa_nil)))))) (pw_or1 (pt_not (pt_val (pe_g C_law_is_word (by exact hr.mono (by decide)) (E := fun _ => E0) (fun σ => passC0 σ) (fun _ _ _ _ _ _ us hl => match us, hl with | [_, _, _], _ => rfl) (pa_cons (pv 2) (pa_cons (pv 3) (pa_cons (pv 4) pa_nil)))))))))
      (pss_one (ps_ret pe_bl))
      pss_nil)
    (pss_one (ps_ret (pe_and (pe_g C_law_better_kept (by exact hr.mono (by decide)) (E := fun _ => E0) (fun σ => passC0 σ) (fun _ _ _ _ _ _ us hl => match us, hl with | [_, _], _ => rfl) (pa_cons (pv 1) (pa_cons (pv 0) pa_nil))) (pe_one (pe_g C_law_better_kept (by exact hr.mono (by decide)) (E := fun _ => E0) (fun σ => passC0 σ) (fun _ _ _ _ _ _ us hl => match us, hl with | [_, _], _ => rfl) (pa_cons (pv 1) (pa_cons (pv 2) pa_nil)))))))), ?_⟩
    try dsimp only [L2.cxOf, L2.Cx.nox]
    simp only [L2.start, N_law_pair_kept, List.map_cons, List.map_nil, List.length_cons, List.length_nil, Nat.reduceAdd, Nat.reduceSub, List.replicate_succ, List.replicate_zero, List.cons_append, List.nil_append]

    have h1 := hb.1
    have h3 := dep_len b
    have h4 := cnt_le b
    walk_at "gos"
    exact k _ Gx.rel
theorem car_cnt {n : Nat} {l : List Bool} (hw : l.head? ≠ some false) : (carW n l).count true = l.count true := by
  by_cases h : l = [] ∨ n ≤ l.length
  · rw [car_stay h]
  · cases l with
    | nil => exact absurd (.inl rfl) h
    | cons b r => cases b with
      | false => simp at hw
      | true =>
        rw [show carW n (true :: r) = trimW ((true :: r).drop 1 ++ [true]) from if_neg h, trim_cnt]
        simp
theorem carN_cnt {n : Nat} : ∀ (k : Nat) {l : List Bool}, Wd l → (carN n k l).count true = l.count true
  | 0, l, _ => rfl
  | k + 1, l, h => by rw [carN, carN_cnt k (wd_car h), car_cnt h.2]
theorem car_len2 {n : Nat} {l : List Bool} : (carW n l).length ≤ l.length := by
  by_cases h : l = []
  · rw [h, car_stay (.inl rfl)]; exact Nat.le_refl _
  · have := car_len n l
    have : l.length ≠ 0 := fun z => h (List.length_eq_zero_iff.mp z)
    omega
theorem carN_len2 {n : Nat} : ∀ (k : Nat) {l : List Bool}, (carN n k l).length ≤ l.length
  | 0, l => Nat.le_refl _
  | k + 1, l => Nat.le_trans (carN_len2 k) car_len2
def spCK : Sp := fun vs H Q _ => ∃ (b c : Addr) (l m : List Bool) (n : Nat), vs = [.ref b, .str (tx l), .str (tx m), .int (n : Nat)] ∧ (Bx b c H ∧ Wd l ∧ Wd m ∧ Toy.D l m ∧ 1 ≤ n ∧ m.length ≤ n) ∧ ∀ H', ExB b H H' → Bx b c H' → Q (.bl true) H'
theorem use_PK {b l m : List Bool} {others most : Int} {H : Hp} {Q : VK} {E : XK} (h : Wd b ∧ Wd l ∧ Wd m ∧ l.count true = b.count true ∧ l.length ≤ b.length ∧ ((m.count true : Nat) : Int) = others ∧ ((m.length : Nat) : Int) ≤ most ∧ Toy.D l b ∧ Toy.D l m) (k : ∀ H', Ex H H' → Q (.bl true) H') : spPK ([.str (tx b), .str (tx l), .str (tx m), .int others, .int most] ++ []) H Q E := ⟨b, l, m, others, most, rfl, h, k⟩
local macro_rules | `(tactic| walk_at "call") => `(tactic| first
  | ((with_reducible show spCarry _ _ _ _); refine ⟨_, _, rfl, ⟨by assumption, by omega, by omega⟩, ?_⟩)
  | ((with_reducible show spCarries _ _ _ _); refine ⟨_, _, _, rfl, ⟨by assumption, by omega, by omega, by omega⟩, ?_⟩; intro H_ e_))
abbrev s_law_carry_kept : Stmt := (top 38)
abbrev N_law_carry_kept : List Str := ["_law_box_here", "_law_better_here", "_law_worse", "_law_places_here", "_law_others", "_law_left", "_law_right", "_law_less", "_law_more"]
theorem sc_law_carry_kept : FnScope N_law_carry_kept ["_law_box_here", "_law_better_here", "_law_worse", "_law_places_here"] (defScope s_law_carry_kept) := ⟨rfl, rfl, rfl, by decide +kernel, rfl, by decide +kernel, by decide +kernel⟩
theorem cl_law_carry_kept (T : Bl mg) (Z : EcF P K mg c_StoreError c_InvalidInput c_NoPlace) (D : DfG K mg "_law_carry_kept" s_law_carry_kept [] []) (C_law_pair_kept : ClG CX0 P w K mg base 9 "_law_pair_kept" s_law_pair_kept ["_law_before", "_law_left", "_law_right", "_law_others", "_law_most"] [] [] spPK) (C_carries : ClG CX0 P w K mg base 9 "carries" s_carries ["word", "count", "places"] [] [] spCarries) (C_law_take : ClG CX0 P w K mg base 3 "_law_take" s_law_take ["_law_box_here", "_law_size"] [] [] spTake) (C_carry : ClG CX0 P w K mg base 7 "carry" s_carry ["word", "places"] [] [] spCarry) (C_law_depths : ClG CX0 P w K mg base 3 "_law_depths" s_law_depths ["_law_word_here"] [] [] spDeps) : ClG CX0 P w K mg base 11 "_law_carry_kept" s_law_carry_kept ["_law_box_here", "_law_better_here", "_law_worse", "_law_places_here"] [] [] spCK := by
  have nd := sc_law_carry_kept.nd
  refine D.okP sc_law_carry_kept (fun vs H Q E h => ?_) (fun f cdv A outer s H vs Q E hr h => ?_)
  · obtain ⟨b, c, l, m, n, rfl, _⟩ := h
    rfl
  · obtain ⟨b, c, l, m, n, rfl, ⟨hb, hl, hm, h, hn, hmn⟩, k⟩ := h
    have hu := hu64 hr
    refine ⟨_, (pss_cons (ps_set (i := 4) nd rfl (Or.inl rfl) (pe_callB (callLenK (K := K) (by rfl)) (by rfl) T.len (by decide +kernel) (pa_cons (pe_g C_law_depths (by exact hr.mono (by decide)) (E := fun _ => E0) (fun σ => passC0 σ) (fun _ _ _ _ _ _ us hl => match us, hl with | [_], _ => rfl) (pa_cons (pv 2) pa_nil)) pa_nil)))
    (pss_cons (ps_set (i := 5) nd rfl (Or.inl rfl) (pe_g C_carry (by exact hr.mono (by decide)) (E := fun _ => E0) (fun σ => passC0 σ) (fun _ _ _ _ _ _ us hl => match us, hl with | [_, _], _ => rfl) (pa_cons (pv 1) (pa_cons (pv 3) pa_nil))))
    (pss_cons (ps_set (i := 6) nd rfl (Or.inl rfl) (pe_g C_carry (by exact hr.mono (by decide)) (E := fun _ => E0) (fun σ => passC0 σ) (fun _ _ _ _ _ _ us hl => match us, hl with | [_, _], _ => rfl) (pa_cons (pv 2) (pa_cons (pv 3) pa_nil))))
    (pss_cons (ps_if (pt_not (pt_val (pe_g C_law_pair_kept (by exact hr.mono (by decide)) (E := fun _ => E0) (fun σ => passC0 σ) (fun _ _ _ _ _ _ us hl => match us, hl with | [_, _, _, _, _], _ => rfl) (pa_cons (pv 1) (pa_cons (pv 5) (pa_cons (pv 6) (pa_cons (pv 4) (pa_cons (pe_callB (callLenK (K := K) (by rfl)) (by rfl) T.len (by decide +kernel) (pa_cons (pv 2) pa_nil)) pa_nil))))))))
      (pss_one (ps_ret pe_bl))
      pss_nil)
    (pss_cons (ps_set (i := 7) nd rfl (Or.inl rfl) (pe_g C_law_take (by exact hr.mono (by decide)) (E := fun _ => E0) (fun σ => passC0 σ) (fun _ _ _ _ _ _ us hl => match us, hl with | [_, _], _ => rfl) (pa_cons (pv 0) (pa_cons pe_int pa_nil))))
    (pss_cons (ps_set (i := 8) nd rfl (Or.inl rfl) (pe_op (opAddK (K := K) (by rfl)) (pv 7) (pe_g C_law_take (by exact hr.mono (by decide)) (E := fun _ => E0) (fun σ => passC0 σ) (fun _ _ _ _ _ _ us hl => match us, hl with | [_, _], _ => rfl) (pa_cons (pv 0) (pa_cons pe_int pa_nil)))))
    (pss_cons (ps_set (i := 5) nd rfl (Or.inl rfl) (pe_g C_carries (by exact hr.mono (by decide)) (E := fun _ => E0) (fun σ => passC0 σ) (fun _ _ _ _ _ _ us hl => match us, hl with | [_, _, _], _ => rfl) (pa_cons (pv 1) (pa_cons (pv 8) (pa_cons (pv 3) pa_nil)))))
    (pss_cons (ps_set (i := 6) nd rfl (Or.inl rfl) (pe_g C_carries (by exact hr.mono (by decide)) (E := fun _ => E0) (fun σ => passC0 σ) (fun _ _ _ _ _ _ us hl => match us, hl with | [_, _, _], _ => rfl) (pa_cons (pv 2) (pa_cons (pv 7) (pa_cons (pv 3) pa_nil)))))
    (pss_one (ps_ret (pe_g C_law_pair_kept (by exact hr.mono (by decide)) (E := fun _ => E0) (fun σ => passC0 σ) (fun _ _ _ _ _ _ us hl => match us, hl with | [_, _, _, _, _], _ => rfl) (pa_cons (pv 1) (pa_cons (pv 5) (pa_cons (pv 6) (pa_cons (pv 4) (pa_cons (pe_callB (callLenK (K := K) (by rfl)) (by rfl) T.len (by decide +kernel) (pa_cons (pv 2) pa_nil)) pa_nil)))))))))))))))), ?_⟩
    try dsimp only [L2.cxOf, L2.Cx.nox]
    simp only [L2.start, N_law_carry_kept, List.map_cons, List.map_nil, List.length_cons, List.length_nil, Nat.reduceAdd, Nat.reduceSub, List.replicate_succ, List.replicate_zero, List.cons_append, List.nil_append]

    have lc := liveBx2 hb
    have h1 := hl.1
    have h2 := hm.1
    have h5 := dep_len m
    have h6 := cnt_le m
    have hlm := h.len hl.2 hm.2
    have hp1 : Wd l ∧ Wd (carW n l) ∧ Wd (carW n m) ∧ (carW n l).count true = l.count true ∧ (carW n l).length ≤ l.length ∧ (((carW n m).count true : Nat) : Int) = ((dep m).length : Nat) ∧ (((carW n m).length : Nat) : Int) ≤ (m.length : Nat) ∧ Toy.D (carW n l) l ∧ Toy.D (carW n l) (carW n m) :=
      ⟨hl, wd_car hl, wd_car hm, car_cnt hl.2, car_len2, by rw [car_cnt hm.2, h5], by have := car_len2 (n := n) (l := m); omega, Toy.D.car_self hl.2, Toy.D.car hl.2 hm.2 h⟩
    have hp2 : ∀ i j : Nat, i ≤ j → Wd l ∧ Wd (carN n j l) ∧ Wd (carN n i m) ∧ (carN n j l).count true = l.count true ∧ (carN n j l).length ≤ l.length ∧ (((carN n i m).count true : Nat) : Int) = ((dep m).length : Nat) ∧ (((carN n i m).length : Nat) : Int) ≤ (m.length : Nat) ∧ Toy.D (carN n j l) l ∧ Toy.D (carN n j l) (carN n i m) := fun i j hij =>
      ⟨hl, wd_carN j hl, wd_carN i hm, carN_cnt j hl, carN_len2 j, by rw [carN_cnt i hm, h5], by have := carN_len2 (n := n) i (l := m); omega, Toy.D.carN_self j hl, Toy.D.more hl hm h hij⟩
    walk_at "go"
    refine use_PK hp1 fun H1 e1 => ?_
    walk_at "gos"
    rename_i x H2 x0 x1 e2 hB2 y H3 y0 y1 e3 hB3
    obtain ⟨i, rfl⟩ : ∃ i : Nat, x = i := ⟨x.toNat, by omega⟩
    obtain ⟨j, rfl⟩ : ∃ j : Nat, y = j := ⟨y.toNat, by omega⟩
    rw [show ((i : Nat) : Int) + ((j : Nat) : Int) = ((i + j : Nat) : Int) from by omega]
    walk_at "gos"
    refine use_PK (hp2 i (i + j) (by omega)) fun H4 e4 => ?_
    exact k _ Gx.rel inferInstance
def spAK : Sp := fun vs H Q _ => ∃ (l m : List Bool) (n : Nat), vs = [.str (tx l), .str (tx m), .int (n : Nat)] ∧ (Wd l ∧ Wd m ∧ Toy.D l m ∧ 1 ≤ n ∧ n ≤ 64 ∧ m.length ≤ n) ∧ ∀ H', Ex H H' → Q (.bl true) H'
theorem wd_app {l : List Bool} (h : Wd l) (hl : l.length ≤ 63) : Wd (l ++ [true]) := by
  refine ⟨by rw [List.length_append, List.length_singleton]; omega, ?_⟩
  have := h.2
  cases l with
  | nil => simp
  | cons b r => simpa using this
theorem use_appP {cN : Addr} {l : List Bool} {n : Nat} {z : V} {H : Hp} {Q : VK} {E : XK} (hz : z = .str (tx [true])) (h : Wd l) (hn : l.length < n) (k : ∀ H', Ex H H' → Q (.str (tx (l ++ [true]))) H') : spAppR cN [.str (tx l), .int (n : Nat), z] H Q E :=
  ⟨l, true, n, by rw [hz], ⟨h, by omega, by omega⟩, fun _ H' e => by rw [trim_snoc, trim_wd h.2]; exact k H' e, fun z => absurd hn z⟩
local macro_rules | `(tactic| walk_at "call") => `(tactic| ((with_reducible show spAppR _ _ _ _ _); refine use_appP (by exact rfl) (by assumption) (by omega) ?_; intro H_ e_))
abbrev s_law_append_kept : Stmt := (top 39)
abbrev N_law_append_kept : List Str := ["_law_better_here", "_law_worse", "_law_places_here", "_law_left", "_law_right", "_law_many", "_law_others"]
theorem sc_law_append_kept : FnScope N_law_append_kept ["_law_better_here", "_law_worse", "_law_places_here"] (defScope s_law_append_kept) := ⟨rfl, rfl, rfl, by decide +kernel, rfl, by decide +kernel, by decide +kernel⟩
theorem cl_law_append_kept (T : Bl mg) (Z : EcF P K mg c_StoreError c_InvalidInput c_NoPlace) (D : DfG K mg "_law_append_kept" s_law_append_kept [] []) (C_law_better_kept : ClG CX0 P w K mg base 7 "_law_better_kept" s_law_better_kept ["_law_better_here", "_law_worse"] [] [] spBK) (C_law_is_word : ClG CX0 P w K mg base 5 "_law_is_word" s_law_is_word ["_law_told", "_law_many", "_law_most"] [] [] spIsW) (C_law_depths : ClG CX0 P w K mg base 3 "_law_depths" s_law_depths ["_law_word_here"] [] [] spDeps) (C_append_record : ClG (L2.CX P w) P w K mg base 7 "append_record" s_append_record ["word", "places", "record"] [.str "1"] [] (spAppR c_NoPlace)) : ClG CX0 P w K mg base 9 "_law_append_kept" s_law_append_kept ["_law_better_here", "_law_worse", "_law_places_here"] [] [] spAK := by
  have nd := sc_law_append_kept.nd
  refine D.okP sc_law_append_kept (fun vs H Q E h => ?_) (fun f cdv A outer s H vs Q E hr h => ?_)
  · obtain ⟨l, m, n, rfl, _⟩ := h
    rfl
  · obtain ⟨l, m, n, rfl, ⟨hl, hm, h, hn, hn2, hmn⟩, k⟩ := h
    have hu := hu64 hr
    refine ⟨_, (pss_cons (ps_if (pt_cmpR opGe (pe_callB (callLenK (K := K) (by rfl)) (by rfl) T.len (by decide +kernel) (pa_cons (pv 1) pa_nil)) (pv 2) (nomark _))
      (pss_one (ps_ret pe_bl))
      pss_nil)
    (pss_cons (ps_set (i := 3) nd rfl (Or.inl rfl) (pe_g1 C_append_record (by exact hr.mono (by decide)) (fun σ => passC takes0 σ) 2 0 (by decide) (by decide) (fun _ _ _ _ _ _ _ us its h1 h2 => match us, its, h1, h2 with | [_, _], [_], _, _ => ⟨_, rfl, rfl⟩) (pa_cons (pv 0) (pa_cons (pv 2) pa_nil))))
    (pss_cons (ps_set (i := 4) nd rfl (Or.inl rfl) (pe_g1 C_append_record (by exact hr.mono (by decide)) (fun σ => passC takes0 σ) 2 0 (by decide) (by decide) (fun _ _ _ _ _ _ _ us its h1 h2 => match us, its, h1, h2 with | [_, _], [_], _, _ => ⟨_, rfl, rfl⟩) (pa_cons (pv 1) (pa_cons (pv 2) pa_nil))))
    (pss_cons (ps_set (i := 5) nd rfl (Or.inl rfl) (pe_op (opAddK (K := K) (by rfl)) (pe_callB (callLenK (K := K) (by rfl)) (by rfl) T.len (by decide +kernel) (pa_cons (pe_g C_law_depths (by exact hr.mono (by decide)) (E := fun _ => E0) (fun σ => passC0 σ) (fun _ _ _ _ _ _ us hl => match us, hl with | [_], _ => rfl) (pa_cons (pv 0) pa_nil)) pa_nil)) pe_int))
    (pss_cons (ps_set (i := 6) nd rfl (Or.inl rfl) (pe_op (opAddK (K := K) (by rfl)) (pe_callB (callLenK (K := K) (by rfl)) (by rfl) T.len (by decide +kernel) (pa_cons (pe_g C_law_depths (by exact hr.mono (by decide)) (E := fun _ => E0) (fun σ => passC0 σ) (fun _ _ _ _ _ _ us hl => match us, hl with | [_], _ => rfl) (pa_cons (pv 1) pa_nil)) pa_nil)) pe_int))
    (pss_cons (ps_if (PW.pt (pw_or (pt_not (pt_val (pe_g C_law_is_word (by exact hr.mono (by decide)) (E := fun _ => E0) (fun σ => passC0 σ) (fun _ _ _ _ _ _ us hl => match us, hl with | [_, _, _], _ => rfl) (pa_cons (pv 3) (pa_cons (pv 5) (pa_cons (pe_op (opAddK (K := K) (by rfl)) (pe_callB (callLenK (K := K) (by rfl)) (by rfl) T.len (by decide +kernel) (pa_cons (pv 0) pa_nil)) pe_int) pa_nil)))))) (pw_or1 (pt_not (pt_val (pe_g C_law_is_word (by exact hr.mono (by decide)) (E := fun _ => E0) (fun σ => passC0 σ) (fun _ _ _ _ _ _ us hl => match us, hl with | [_, _, _], _ => rfl) (pa_cons (pv 4) (pa_cons (pv 6) (pa_cons (pe_op (opAddK (K := K) (by rfl)) (pe_callB (callLenK (K := K) (by rfl)) (by rfl) T.len (by decide +kernel) (pa_cons (pv 1) pa_nil)) pe_int) pa_nil)))))))))
      (pss_one (ps_ret pe_bl))
      pss_nil)
    (pss_one (ps_ret (pe_g C_law_better_kept (by exact hr.mono (by decide)) (E := fun _ => E0) (fun σ => passC0 σ) (fun _ _ _ _ _ _ us hl => match us, hl with | [_, _], _ => rfl) (pa_cons (pv 3) (pa_cons (pv 4) pa_nil))))))))))), ?_⟩
    try dsimp only [L2.cxOf, L2.Cx.nox]
    simp only [L2.start, N_law_append_kept, List.map_cons, List.map_nil, List.length_cons, List.length_nil, Nat.reduceAdd, Nat.reduceSub, List.replicate_succ, List.replicate_zero, List.cons_append, List.nil_append]

    have h1 := hl.1
    have h2 := hm.1
    have h3 := dep_len l
    have h4 := cnt_le l
    have h5 := dep_len m
    have h6 := cnt_le m
    have hlm := h.len hl.2 hm.2
    have hla : (l ++ [true]).length = l.length + 1 := by simp
    have hma : (m ++ [true]).length = m.length + 1 := by simp
    have hlc : (l ++ [true]).count true = l.count true + 1 := by simp
    have hmc : (m ++ [true]).count true = m.count true + 1 := by simp
    have hD := h.app
    by_cases hz : m.length < n
    · have hwl := wd_app hl (by omega)
      have hwm := wd_app hm (by omega)
      walk_at "gos"
      exact k _ Gx.rel
    · walk_at "gos"
      exact k _ Gx.rel
theorem use_CK {b c : Addr} {l m : List Bool} {n : Nat} {H : Hp} {Q : VK} {E : XK} [hb : Bx b c H] (h : Wd l ∧ Wd m ∧ Toy.D l m ∧ 1 ≤ n ∧ n ≤ 64 ∧ m.length ≤ n) (k : ∀ H', ExB b H H' → Bx b c H' → Q (.bl true) H') : spCK ([.ref b, .str (tx l), .str (tx m), .int (n : Nat)] ++ []) H Q E := ⟨b, c, l, m, n, rfl, ⟨hb, h.1, h.2.1, h.2.2.1, h.2.2.2.1, h.2.2.2.2.2⟩, k⟩
local macro_rules | `(tactic| walk_at "call") => `(tactic| first
  | ((with_reducible show spCK _ _ _ _); refine use_CK (by assumption) ?_; intro H_ e_ hB_)
  | ((with_reducible show spAK _ _ _ _); refine ⟨_, _, _, rfl, by assumption, ?_⟩; intro H_ e_))
def spParts : Sp := fun vs H Q _ => ∃ (b c : Addr) (l m : List Bool) (n : Nat), vs = [.ref b, .str (tx l), .str (tx m), .int (n : Nat)] ∧ (Bx b c H ∧ Wd l ∧ Wd m ∧ Toy.D l m ∧ 1 ≤ n ∧ n ≤ 64 ∧ m.length ≤ n) ∧ ∀ H', ExB b H H' → Bx b c H' → Q (.bl true) H'
abbrev s_law_parts_kept : Stmt := (top 40)
abbrev N_law_parts_kept : List Str := ["_law_box_here", "_law_better_here", "_law_worse", "_law_places_here"]
theorem sc_law_parts_kept : FnScope N_law_parts_kept ["_law_box_here", "_law_better_here", "_law_worse", "_law_places_here"] (defScope s_law_parts_kept) := ⟨rfl, rfl, rfl, by decide +kernel, rfl, by decide +kernel, by decide +kernel⟩
theorem cl_law_parts_kept (T : Bl mg) (Z : EcF P K mg c_StoreError c_InvalidInput c_NoPlace) (D : DfG K mg "_law_parts_kept" s_law_parts_kept [] []) (C_law_append_kept : ClG CX0 P w K mg base 9 "_law_append_kept" s_law_append_kept ["_law_better_here", "_law_worse", "_law_places_here"] [] [] spAK) (C_law_carry_kept : ClG CX0 P w K mg base 11 "_law_carry_kept" s_law_carry_kept ["_law_box_here", "_law_better_here", "_law_worse", "_law_places_here"] [] [] spCK) (C_law_release_kept : ClG CX0 P w K mg base 9 "_law_release_kept" s_law_release_kept ["_law_better_here", "_law_worse"] [] [] spBK) (C_law_better_kept : ClG CX0 P w K mg base 7 "_law_better_kept" s_law_better_kept ["_law_better_here", "_law_worse"] [] [] spBK) : ClG CX0 P w K mg base 13 "_law_parts_kept" s_law_parts_kept ["_law_box_here", "_law_better_here", "_law_worse", "_law_places_here"] [] [] spParts := by
  have nd := sc_law_parts_kept.nd
  refine D.okP sc_law_parts_kept (fun vs H Q E h => ?_) (fun f cdv A outer s H vs Q E hr h => ?_)
  · obtain ⟨b, c, l, m, n, rfl, _⟩ := h
    rfl
  · obtain ⟨b, c, l, m, n, rfl, ⟨hb, hAll⟩, k⟩ := h
    have hu := hu64 hr
    refine ⟨_, (pss_cons (ps_if (PW.pt (pw_or (pt_not (pt_val (pe_g C_law_better_kept (by exact hr.mono (by decide)) (E := fun _ => E0) (fun σ => passC0 σ) (fun _ _ _ _ _ _ us hl => match us, hl with | [_, _], _ => rfl) (pa_cons (pv 1) (pa_cons (pv 2) pa_nil))))) (pw_or1 (pt_not (pt_val (pe_g C_law_release_kept (by exact hr.mono (by decide)) (E := fun _ => E0) (fun σ => passC0 σ) (fun _ _ _ _ _ _ us hl => match us, hl with | [_, _], _ => rfl) (pa_cons (pv 1) (pa_cons (pv 2) pa_nil))))))))
      (pss_one (ps_ret pe_bl))
      pss_nil)
    (pss_one (ps_ret (pe_and (pe_g C_law_carry_kept (by exact hr.mono (by decide)) (E := fun _ => E0) (fun σ => passC0 σ) (fun _ _ _ _ _ _ us hl => match us, hl with | [_, _, _, _], _ => rfl) (pa_cons (pv 0) (pa_cons (pv 1) (pa_cons (pv 2) (pa_cons (pv 3) pa_nil))))) (pe_one (pe_g C_law_append_kept (by exact hr.mono (by decide)) (E := fun _ => E0) (fun σ => passC0 σ) (fun _ _ _ _ _ _ us hl => match us, hl with | [_, _, _], _ => rfl) (pa_cons (pv 1) (pa_cons (pv 2) (pa_cons (pv 3) pa_nil))))))))), ?_⟩
    try dsimp only [L2.cxOf, L2.Cx.nox]
    simp only [L2.start, N_law_parts_kept, List.map_cons, List.map_nil, List.length_cons, List.length_nil, Nat.reduceAdd, Nat.reduceSub, List.replicate_succ, List.replicate_zero, List.cons_append, List.nil_append]

    obtain ⟨hl, hm, h, _⟩ := id hAll
    walk_at "gos"
    exact k _ Gx.rel inferInstance

/-- the put goes on -/
def goesW (l : List Bool) (o : Option Nat) (n : Nat) (late : Bool) : Bool := if late = true then decide (l.length < n) else decide (relO l o = [] ∨ (relO l o).length < n)
/-- what a put that goes on gives -/
def outW (l : List Bool) (o : Option Nat) (c n : Nat) (late : Bool) : List Bool := if late = true then bothW l o c (n - 1) ++ [true] else bothW l o c n ++ [true]
theorem both_lt {l : List Bool} {o : Option Nat} {c n : Nat} (hn : 1 ≤ n) : (relO l o = [] ∨ (relO l o).length < n) ↔ (bothW l o c n).length < n := by
  constructor
  · rintro (h | h)
    · unfold bothW
      rw [h]
      have : ∀ k, carN n k [] = [] := fun k => carN_fix (car_stay (.inl rfl)) k
      rw [this]
      simp
      omega
    · have := carN_len2 (n := n) (min c ((relO l o).count true)) (l := relO l o)
      unfold bothW
      omega
  · intro h
    by_cases z : (relO l o).length < n
    · exact .inr z
    · have : ∀ k, carN n k (relO l o) = relO l o := fun k => carN_fix (car_stay (.inr (by omega))) k
      unfold bothW at h
      rw [this] at h
      exact absurd h z
theorem step_goes {l : List Bool} {o : Option Nat} {c n : Nat} {late : Bool} (h : Wd l) (hn : 1 ≤ n) (ho : ∀ i, o = some i → i < l.count true) : stepW l o c n late = if goesW l o n late = true then some (outW l o c n late) else none := by
  cases late with
  | true =>
    by_cases z : l.length < n
    · rw [if_pos (by unfold goesW; rw [if_pos rfl]; exact decide_eq_true z)]
      have := twin_late (c := c) (n := n - 1) h (by omega) ho
      rw [show n - 1 + 1 = n by omega] at this
      rw [this]
      rfl
    · rw [if_neg (by unfold goesW; rw [if_pos rfl]; simpa using z)]
      exact step_l0 z
  | false =>
    by_cases z : (bothW l o c n).length < n
    · rw [if_pos (by unfold goesW; rw [if_neg Bool.false_ne_true]; exact decide_eq_true ((both_lt hn).mpr z)), twin_early h ho z]
      rfl
    · rw [if_neg (by unfold goesW; rw [if_neg Bool.false_ne_true]; exact fun y => z ((both_lt hn).mp (of_decide_eq_true y)))]
      exact twin_full z
structure OutOk (l : List Bool) (o : Option Nat) (n : Nat) (u : List Bool) : Prop where
  wd : Wd u
  cnt : u.count true = (relO l o).count true + 1
  len : u.length ≤ n
theorem out_ok {l : List Bool} {o : Option Nat} {c n : Nat} {late : Bool} (h : Wd l) (hn : 1 ≤ n) (hn2 : n ≤ 64) (ho : ∀ i, o = some i → i < l.count true) (hg : goesW l o n late = true) : OutOk l o n (outW l o c n late) := by
  have hr := wd_relO h ho
  have key : ∀ k : Nat, (bothW l o c k).length < n → OutOk l o n (bothW l o c k ++ [true]) := fun k hk => by
    have hw : Wd (bothW l o c k) := wd_carN _ hr.1
    refine ⟨wd_app hw (by omega), ?_, by rw [List.length_append, List.length_singleton]; omega⟩
    rw [List.count_append]
    unfold bothW
    rw [carN_cnt _ hr.1]
    rfl
  cases late with
  | true =>
    have hg' : l.length < n := by unfold goesW at hg; rw [if_pos rfl] at hg; exact of_decide_eq_true hg
    have := carN_len2 (n := n - 1) (min c ((relO l o).count true)) (l := relO l o)
    exact key (n - 1) (by unfold bothW; have := hr.2; omega)
  | false =>
    have hg' := hg
    unfold goesW at hg'
    rw [if_neg Bool.false_ne_true] at hg'
    exact key n ((both_lt hn).mp (of_decide_eq_true hg'))
/-- domination goes over a put -/
theorem D.put {l m : List Bool} {o o' : Option Nat} {ca cb n : Nat} {late : Bool} (hl : Wd l) (hm : Wd m) (h : Toy.D l m) (hD : Toy.D (relO l o) (relO m o')) (ho : ∀ i, o = some i → i < l.count true) (ho' : ∀ i, o' = some i → i < m.count true) (hc : cb ≤ ca) (hn : 1 ≤ n) :
    (goesW m o' n late = true → goesW l o n late = true) ∧ Toy.D (outW l o ca n late) (outW m o' cb n late) := by
  have h1 := wd_relO hl ho
  have h2 := wd_relO hm ho'
  cases late with
  | true =>
    refine ⟨fun g => ?_, ?_⟩
    · unfold goesW at g ⊢
      rw [if_pos rfl] at g ⊢
      have := of_decide_eq_true g
      have := h.len hl.2 hm.2
      exact decide_eq_true (by omega)
    · exact (Toy.D.both h1.1 h2.1 hD hc).app
  | false =>
    refine ⟨fun g => ?_, (Toy.D.both h1.1 h2.1 hD hc).app⟩
    unfold goesW at g ⊢
    rw [if_neg Bool.false_ne_true] at g ⊢
    have g1 := of_decide_eq_true g
    have g2 := hD.len h1.1.2 h2.1.2
    refine decide_eq_true ?_
    rcases g1 with g1 | g1
    · left
      rw [g1] at g2
      exact List.length_eq_zero_iff.mp (by simpa using g2)
    · right; omega
instance {ns : List Int} {n : Nat} : IntsC (cutV (ns.map V.int) none (some ((n : Nat) : Int))) (ns.take n) := ⟨Gx.cutTo⟩
instance {ns : List Int} {n : Nat} : IntsC (cutV (ns.map V.int) (some ((n : Nat) : Int)) none) (ns.drop n) := ⟨Gx.cutFrom⟩
instance {ns : List Int} {n : Nat} : IntsC (cutV (ns.map V.int) (some (((n : Nat) : Int) + 1)) none) (ns.drop (n + 1)) := ⟨Gx.cutFrom (n := n + 1)⟩
theorem erase_td {α : Type} (l : List α) (i : Nat) : l.eraseIdx i = l.take i ++ l.drop (i + 1) := List.eraseIdx_eq_take_drop_succ l i
local macro_rules | `(tactic| walk_at "szt") => `(tactic| (refine Nat.le_trans (Nat.add_le_add (L2.cutV_length _ _ _) (L2.cutV_length _ _ _)) ?_; simp only [List.length_map]; omega))
def spGoes : Sp := fun vs H Q _ => ∃ (l : List Bool) (v : V) (o : Option Nat) (n : Nat) (late : Bool), vs = [.str (tx l), v, .int (n : Nat), .bl late] ∧ (((v = .non ∧ o = none) ∨ ∃ i : Nat, v = .int (i : Nat) ∧ o = some i ∧ i < l.count true) ∧ Wd l) ∧ ∀ H', Ex H H' → Q (.bl (goesW l o n late)) H'
theorem rel_dep {l : List Bool} {o : Option Nat} (h : Wd l) (ho : ∀ i, o = some i → i < l.count true) : (relO l o = [] ↔ dep (relO l o) = []) ∧ ((dep (relO l o)).headD 0 = ((relO l o).length : Int)) := by
  have hw := wd_relO h ho
  refine ⟨⟨fun e => by rw [e]; rfl, fun e => ?_⟩, head_dep hw.1.2⟩
  have := head_dep hw.1.2
  rw [e] at this
  simp at this
  exact List.length_eq_zero_iff.mp (by omega)
theorem getD_hd (ds : List Int) : ds.getD 0 0 = ds.headD 0 := by cases ds <;> rfl
abbrev s_law_goes : Stmt := (top 41)
abbrev N_law_goes : List Str := ["_law_word_here", "_law_index", "_law_places_here", "_law_lately", "_law_due"]
theorem sc_law_goes : FnScope N_law_goes ["_law_word_here", "_law_index", "_law_places_here", "_law_lately"] (defScope s_law_goes) := ⟨rfl, rfl, rfl, by decide +kernel, rfl, by decide +kernel, by decide +kernel⟩
theorem cl_law_goes (T : Bl mg) (Z : EcF P K mg c_StoreError c_InvalidInput c_NoPlace) (D : DfG K mg "_law_goes" s_law_goes [] []) (C_law_depths : ClG CX0 P w K mg base 3 "_law_depths" s_law_depths ["_law_word_here"] [] [] spDeps) : ClG CX0 P w K mg base 5 "_law_goes" s_law_goes ["_law_word_here", "_law_index", "_law_places_here", "_law_lately"] [] [] spGoes := by
  have nd := sc_law_goes.nd
  refine D.okP sc_law_goes (fun vs H Q E h => ?_) (fun f cdv A outer s H vs Q E hr h => ?_)
  · obtain ⟨l, v, o, n, late, rfl, _⟩ := h
    rfl
  · obtain ⟨l, v, o, n, late, rfl, ⟨hv, h⟩, k⟩ := h
    have hu := hu64 hr
    refine ⟨_, (pss_cons (ps_if (pt_val (pv 3))
      (pss_one (ps_ret (pe_cmpR opLt (pe_callB (callLenK (K := K) (by rfl)) (by rfl) T.len (by decide +kernel) (pa_cons (pv 0) pa_nil)) (pv 2) (nomark _))))
      pss_nil)
    (pss_cons (ps_set (i := 4) nd rfl (Or.inl rfl) (pe_g C_law_depths (by exact hr.mono (by decide)) (E := fun _ => E0) (fun σ => passC0 σ) (fun _ _ _ _ _ _ us hl => match us, hl with | [_], _ => rfl) (pa_cons (pv 0) pa_nil)))
    (pss_cons (ps_if (pt_cmpR opNotN (pv 1) pe_non (nomark _))
      (pss_one (ps_set (i := 4) nd rfl (Or.inl rfl) (pe_op (opAddK (K := K) (by rfl)) (pe_slice (slAnyK (K := K) (by rfl)) (pv 4) po_none (po_some (pv 1))) (pe_slice (slAnyK (K := K) (by rfl)) (pv 4) (po_some (pe_op (opAddK (K := K) (by rfl)) (pv 1) pe_int)) po_none))))
      pss_nil)
    (pss_one (ps_ret (pe_or (pe_cmpR (opEqK (K := K) (by rfl) (by exact hu)) (pv 4) (pe_lst pa_nil) (nomark _)) (pe_one (pe_cmpR opLt (pe_ix (ixSeqK (K := K) (by rfl)) (pv 4) pe_int (fun _ _ => rfl)) (pv 2) (nomark _))))))))), ?_⟩
    try dsimp only [L2.cxOf, L2.Cx.nox]
    simp only [L2.start, N_law_goes, List.map_cons, List.map_nil, List.length_cons, List.length_nil, Nat.reduceAdd, Nat.reduceSub, List.replicate_succ, List.replicate_zero, List.cons_append, List.nil_append]

    have hl := h.1
    have h3 := dep_len l
    have h4 := cnt_le l
    cases late
    · rcases hv with ⟨rfl, rfl⟩ | ⟨i, rfl, rfl, hi⟩
      · have hrd := rel_dep (o := none) h (fun i hi => by cases hi)
        rw [show relO l none = l from rfl] at hrd
        have e : goesW l none n false = decide (l = [] ∨ l.length < n) := rfl
        rw [e] at k
        walk_at "gos"
        · exact Gx.q_dec' (k _ Gx.rel) (.inl (hrd.1.mpr (by assumption)))
        · rename_i hI
          have hpos : 0 < (dep l).length := List.length_pos_iff.mpr hI
          have hg : (dep l).getD (Int.toNat 0) 0 = (l.length : Int) := by rw [show Int.toNat 0 = 0 from rfl, getD_hd]; exact hrd.2
          walk_at "gos"
          rw [hg]
          exact q_bl (k _ Gx.rel) (decide_eq_decide.mpr ⟨fun z => z.elim (fun y => absurd (hrd.1.mp y) hI) (fun y => by omega), fun z => .inr (by omega)⟩)
      · have hrd := rel_dep (o := some i) h (fun j hj => by cases hj; exact hi)
        rw [show relO l (some i) = relW l i from rfl, dep_rel hi, erase_td] at hrd
        have e : goesW l (some i) n false = decide (relW l i = [] ∨ (relW l i).length < n) := rfl
        rw [e] at k
        walk_at "gos"
        · exact Gx.q_dec' (k _ Gx.rel) (.inl (hrd.1.mpr (by assumption)))
        · rename_i p4 H4 np4 e4 hp4 p5 H5 np5 e5 hp5 hI
          rw [Gx.cutTo, show (((i : Nat) : Int) + 1) = ((i + 1 : Nat) : Int) from rfl, Gx.cutFrom, ← List.map_append] at hp4
          generalize (dep l).take i ++ (dep l).drop (i + 1) = ds at *
          have hpos : 0 < ds.length := List.length_pos_iff.mpr hI
          have hg : ds.getD (Int.toNat 0) 0 = ((relW l i).length : Int) := by rw [show Int.toNat 0 = 0 from rfl, getD_hd]; exact hrd.2
          walk_at "gos"
          rw [hg]
          exact q_bl (k _ Gx.rel) (decide_eq_decide.mpr ⟨fun z => z.elim (fun y => absurd (hrd.1.mp y) hI) (fun y => by omega), fun z => .inr (by omega)⟩)
    · walk_at "gos"
      exact q_bl (k _ Gx.rel) (by unfold goesW; rw [if_pos rfl]; exact decide_eq_decide.mpr (by omega))
def spPutT : Sp := fun vs H Q _ => ∃ (l : List Bool) (v : V) (o : Option Nat) (c n : Nat) (late : Bool), vs = [.str (tx l), v, .int (c : Nat), .int (n : Nat), .bl late] ∧ (((v = .non ∧ o = none) ∨ ∃ i : Nat, v = .int (i : Nat) ∧ o = some i ∧ i < l.count true) ∧ (Wd l ∧ 1 ≤ n ∧ l.length ≤ n ∧ n ≤ 64)) ∧
  (goesW l o n late = true → ∀ q H', Nw H q → Ex H H' → At H' q (.tup [.str "word", .str (tx (outW l o c n late))]) → Q (.ref q) H') ∧ (goesW l o n late = false → ∀ q H', Nw H q → Ex H H' → At H' q (.tup [.str "full", .int (n : Nat)]) → Q (.ref q) H')
theorem use_step {cN : Addr} {l : List Bool} {v : V} {o : Option Nat} {c n : Nat} {late : Bool} {H : Hp} {Q : VK} {E : XK} (hv : (v = .non ∧ o = none) ∨ ∃ i : Nat, v = .int (i : Nat) ∧ o = some i ∧ i < l.count true) (h : Wd l ∧ 1 ≤ n ∧ l.length ≤ n ∧ n ≤ 65)
    (k : ∀ v, stepW l o c n late = some v → ∀ H', Ex H H' → Q (.str (tx v)) H') (k2 : stepW l o c n late = none → ∀ d H', Nw H d → Ex H H' → At H' d (.xd [("length", .int (n : Nat))]) → E (.ref cN) (some d) H') : spStep cN [.str (tx l), v, .int (c : Nat), .int (n : Nat), .bl late] H Q E :=
  ⟨l, v, o, c, n, late, rfl, hv, h, k, fun hn d H' m h1 h2 h3 h4 => k2 hn d H' h1 h2 (by subst h3; exact h4)⟩
local macro_rules | `(tactic| walk_at "call") => `(tactic| ((with_reducible show spStep _ _ _ _ _); refine use_step (by assumption) (by assumption) ?_ ?_; intro v_ hv_ H_ e_; rotate_left; intro hv_ d_ H_ np_ e_ hp_; rotate_left))
theorem hv_ho {v : V} {o : Option Nat} {m : Nat} (h : (v = .non ∧ o = none) ∨ ∃ i : Nat, v = .int (i : Nat) ∧ o = some i ∧ i < m) : ∀ i, o = some i → i < m := by
  rcases h with ⟨_, rfl⟩ | ⟨j, _, rfl, hj⟩
  · intro i hi; cases hi
  · intro i hi; cases hi; exact hj
abbrev s_law_put : Stmt := (top 42)
abbrev N_law_put : List Str := ["_law_word_here", "_law_index", "_law_count", "_law_places_here", "_law_lately", "_law_found"]
theorem sc_law_put : FnScope N_law_put ["_law_word_here", "_law_index", "_law_count", "_law_places_here", "_law_lately"] (defScope s_law_put) := ⟨rfl, rfl, rfl, by decide +kernel, rfl, by decide +kernel, by decide +kernel⟩
theorem cl_law_put (T : Bl mg) (Z : EcF P K mg c_StoreError c_InvalidInput c_NoPlace) (D : DfG K mg "_law_put" s_law_put [] []) (C_step : ClG (L2.CX P w) P w K mg base 9 "step" s_step ["word", "index", "count", "places", "late"] [] [("late", .bl false)] (spStep c_NoPlace)) : ClG CX0 P w K mg base 11 "_law_put" s_law_put ["_law_word_here", "_law_index", "_law_count", "_law_places_here", "_law_lately"] [] [] spPutT := by
  have nd := sc_law_put.nd
  refine D.okP sc_law_put (fun vs H Q E h => ?_) (fun f cdv A outer s H vs Q E hr h => ?_)
  · obtain ⟨l, v, o, c, n, late, rfl, _⟩ := h
    rfl
  · obtain ⟨l, v, o, c, n, late, rfl, ⟨hv, h⟩, k1, k2⟩ := h
    have hu := hu64 hr
    refine ⟨_, (pss_one (ps_try_as (c := .ref c_NoPlace) rfl rfl nd (i := 5) rfl rfl ⟨by rfl, by decide, .inl Z.g_NoPlace⟩ takes0 (fun W pn xe tk po => (pss_one (ps_ret (pe_tup (pa_cons pe_str (pa_cons (pe_gk (st := s_step) (ps := ["word", "index", "count", "places", "late"]) (kws := [("late", .bl false)]) (x := "step") C_step (by exact hr.mono (by decide)) (fun σ => passC tk σ) 4 ["late"] [] (fun us mv ws => (us ++ ((ws.drop 0).take 1))) (by decide) (by decide) (fun r1 r2 r3 => (Vals.append r1 ((r3.drop 0).take 1))) (fun _ _ _ _ _ _ us mv ws h1 h2 h3 => match us, mv, ws, h1, h2, h3 with | [_, _, _, _], [], [_], _, _, _ => rfl) (pa_cons (pv 0) (pa_cons (pv 1) (pa_cons (pv 2) (pa_cons (pv 3) pa_nil)))) (pk_cons (pv 4) pk_nil)) pa_nil))))))
      (fun a oe cls d pn hz hf => (pss_one (ps_ret (pe_tup (pa_cons pe_str (pa_cons (pe_xsK (K := K) (by rfl) (List.mem_cons_self ..) hz hf (pv 5)) pa_nil)))))))), ?_⟩
    try dsimp only [L2.cxOf, L2.Cx.nox]
    simp only [L2.start, N_law_put, List.map_cons, List.map_nil, List.length_cons, List.length_nil, Nat.reduceAdd, Nat.reduceSub, List.replicate_succ, List.replicate_zero, List.cons_append, List.nil_append]

    have hb : Wd l ∧ 1 ≤ n ∧ l.length ≤ n ∧ n ≤ 65 := ⟨h.1, h.2.1, h.2.2.1, by omega⟩
    have hs := step_goes (c := c) (late := late) h.1 h.2.1 (hv_ho hv)
    have hnone : stepW l o c n late = none → goesW l o n late = false := fun e => by
      cases g : goesW l o n late with
      | false => rfl
      | true => rw [g, if_pos rfl, e] at hs; cases hs
    have hsome : ∀ u, stepW l o c n late = some u → goesW l o n late = true ∧ u = outW l o c n late := fun u e => by
      cases g : goesW l o n late with
      | false => rw [g, if_neg Bool.false_ne_true, e] at hs; cases hs
      | true => rw [g, if_pos rfl, e] at hs; exact ⟨rfl, Option.some.inj hs⟩
    walk_at "gos"
    all_goals try walk_at "gos"
    · exact k2 (hnone (by assumption)) _ _ Gx.new Gx.rel (by assumption)
    · rename_i u hu _ _ _ _ _ _ _
      obtain ⟨g, rfl⟩ := hsome u hu
      exact k1 g _ _ Gx.new Gx.rel (by assumption)
theorem use_goes {l : List Bool} {v : V} {o : Option Nat} {n : Nat} {late g : Bool} {H : Hp} {Q : VK} {E : XK} (hg : goesW l o n late = g) (hv : (v = .non ∧ o = none) ∨ ∃ i : Nat, v = .int (i : Nat) ∧ o = some i ∧ i < l.count true) (hw : Wd l) (k : ∀ H', Ex H H' → Q (.bl g) H') : spGoes ([.str (tx l), v, .int (n : Nat), .bl late] ++ []) H Q E :=
  ⟨l, v, o, n, late, rfl, ⟨hv, hw⟩, by rw [hg]; exact k⟩
def spPutK (K : PySem.W.Frag) : Sp := fun vs H Q _ => ∃ (p : Addr) (l : List Bool) (v : V) (o : Option Nat) (n : Nat) (late : Bool), vs = [.ref p, .str (tx l), v, .int (n : Nat), .bl late] ∧ (((v = .non ∧ o = none) ∨ ∃ i : Nat, v = .int (i : Nat) ∧ o = some i ∧ i < l.count true) ∧ Wd l ∧
  ((goesW l o n late = true ∧ ∃ u, OutOk l o n u ∧ StC K H p [.str "word", .str (tx u)]) ∨ (goesW l o n late = false ∧ StC K H p [.str "full", .int (n : Nat)]))) ∧ ∀ H', Ex H H' → Q (.bl true) H'
local macro_rules | `(tactic| walk_at "call") => `(tactic| ((with_reducible show spGoes _ _ _ _); refine use_goes (by assumption) (by assumption) (by assumption) ?_; intro H_ e_))
abbrev s_law_put_kept : Stmt := (top 43)
abbrev N_law_put_kept : List Str := ["_law_told", "_law_word_here", "_law_index", "_law_places_here", "_law_lately", "_law_many"]
theorem sc_law_put_kept : FnScope N_law_put_kept ["_law_told", "_law_word_here", "_law_index", "_law_places_here", "_law_lately"] (defScope s_law_put_kept) := ⟨rfl, rfl, rfl, by decide +kernel, rfl, by decide +kernel, by decide +kernel⟩
theorem cl_law_put_kept (T : Bl mg) (Z : EcF P K mg c_StoreError c_InvalidInput c_NoPlace) (D : DfG K mg "_law_put_kept" s_law_put_kept [] []) (C_law_is_word : ClG CX0 P w K mg base 5 "_law_is_word" s_law_is_word ["_law_told", "_law_many", "_law_most"] [] [] spIsW) (C_law_depths : ClG CX0 P w K mg base 3 "_law_depths" s_law_depths ["_law_word_here"] [] [] spDeps) (C_law_goes : ClG CX0 P w K mg base 5 "_law_goes" s_law_goes ["_law_word_here", "_law_index", "_law_places_here", "_law_lately"] [] [] spGoes) (C_law_is_integer : ClG CX0 P w K mg base 3 "_law_is_integer" s_law_is_integer ["_law_told"] [] [] spIsInt) : ClG CX0 P w K mg base 7 "_law_put_kept" s_law_put_kept ["_law_told", "_law_word_here", "_law_index", "_law_places_here", "_law_lately"] [] [] (spPutK K) := by
  have nd := sc_law_put_kept.nd
  refine D.okP sc_law_put_kept (fun vs H Q E h => ?_) (fun f cdv A outer s H vs Q E hr h => ?_)
  · obtain ⟨p, l, v, o, n, late, rfl, _⟩ := h
    rfl
  · obtain ⟨p, l, v, o, n, late, rfl, ⟨hv, h, ht⟩, k⟩ := h
    have hu := hu64 hr
    refine ⟨_, (pss_cons (ps_if (pt_not (pt_val (pe_g C_law_goes (by exact hr.mono (by decide)) (E := fun _ => E0) (fun σ => passC0 σ) (fun _ _ _ _ _ _ us hl => match us, hl with | [_, _, _, _], _ => rfl) (pa_cons (pv 1) (pa_cons (pv 2) (pa_cons (pv 3) (pa_cons (pv 4) pa_nil)))))))
      (pss_one (ps_ret (pe_and (pe_cmpR (opEqK (K := K) (by rfl) (by exact hu)) (pe_ix (ixSeqK (K := K) (by rfl)) (pv 0) pe_int (fun _ _ => rfl)) pe_str (nomark _)) (pe_and (pe_g C_law_is_integer (by exact hr.mono (by decide)) (E := fun _ => E0) (fun σ => passC0 σ) (fun _ _ _ _ _ _ us hl => match us, hl with | [_], _ => rfl) (pa_cons (pe_ix (ixSeqK (K := K) (by rfl)) (pv 0) pe_int (fun _ _ => rfl)) pa_nil)) (pe_one (pe_cmpR (opEqK (K := K) (by rfl) (by exact hu)) (pe_ix (ixSeqK (K := K) (by rfl)) (pv 0) pe_int (fun _ _ => rfl)) (pv 3) (nomark _)))))))
      pss_nil)
    (pss_cons (ps_set (i := 5) nd rfl (Or.inl rfl) (pe_op (opAddK (K := K) (by rfl)) (pe_callB (callLenK (K := K) (by rfl)) (by rfl) T.len (by decide +kernel) (pa_cons (pe_g C_law_depths (by exact hr.mono (by decide)) (E := fun _ => E0) (fun σ => passC0 σ) (fun _ _ _ _ _ _ us hl => match us, hl with | [_], _ => rfl) (pa_cons (pv 1) pa_nil)) pa_nil)) (pe_callTy callInt (by rfl) T.int (by decide +kernel) (pa_cons (pe_cmpR opIsN (pv 2) pe_non (nomark _)) pa_nil))))
    (pss_one (ps_ret (pe_and (pe_cmpR (opEqK (K := K) (by rfl) (by exact hu)) (pe_ix (ixSeqK (K := K) (by rfl)) (pv 0) pe_int (fun _ _ => rfl)) pe_str (nomark _)) (pe_one (pe_g C_law_is_word (by exact hr.mono (by decide)) (E := fun _ => E0) (fun σ => passC0 σ) (fun _ _ _ _ _ _ us hl => match us, hl with | [_, _, _], _ => rfl) (pa_cons (pe_ix (ixSeqK (K := K) (by rfl)) (pv 0) pe_int (fun _ _ => rfl)) (pa_cons (pv 5) (pa_cons (pv 3) pa_nil)))))))))), ?_⟩
    try dsimp only [L2.cxOf, L2.Cx.nox]
    simp only [L2.start, N_law_put_kept, List.map_cons, List.map_nil, List.length_cons, List.length_nil, Nat.reduceAdd, Nat.reduceSub, List.replicate_succ, List.replicate_zero, List.cons_append, List.nil_append]

    have hl := h.1
    have h3 := dep_len l
    have h4 := cnt_le l
    rcases ht with ⟨hg, u, ⟨hu1, hu2, hu3⟩, hp⟩ | ⟨hg, hp⟩
    · rcases id hv with ⟨rfl, rfl⟩ | ⟨i, rfl, rfl, hi⟩
      · have hcn : u.count true = l.count true + 1 := hu2
        walk_at "gos"
        exact k _ Gx.rel
      · have hcn : u.count true = (relW l i).count true + 1 := hu2
        have := rel_cnt hi
        walk_at "gos"
        exact k _ Gx.rel
    · walk_at "gos"
      exact q_bl (k _ Gx.rel) (by simp)
def spMove : Sp := fun vs H Q _ => ∃ (b c : Addr) (many : Nat) (lim : Int), vs = [.ref b, .int (many : Nat), .int lim] ∧ (Bx b c H ∧ many ≤ 100) ∧ ∀ v (o : Option Nat) H', ExB b H H' → Bx b c H' → ((v = .non ∧ o = none) ∨ ∃ i : Nat, v = .int (i : Nat) ∧ o = some i ∧ i < many) → (o = none → many = 0 ∨ (many : Int) < lim) → Q v H'
theorem q_nat' {H : Hp} {Q : VK} {i : Int} (h : 0 ≤ i) (k : Q (.int (i.toNat : Nat)) H) : Q (.int i) H := by rw [Int.toNat_of_nonneg h] at k; exact k
theorem g_ixMem {K : PySem.W.Frag} {H : Hp} {Q : VK} {p : Addr} {xs : List V} {ns : List Int} {i : Int} [h : SqC K H p xs] [hi : IntsC xs ns] (h0 : 0 ≤ i) (h1 : i < (ns.length : Int)) (q : ∀ x ∈ ns, Q (.int x) H) : rIx K (.ref p) (.int i) H Q := by
  have hs : SqC K H p (ns.map V.int) := ⟨hi.eq ▸ h.sq⟩
  exact Gx.g_ixI h0 h1 (q _ (Gx.getD_mem (by omega)))
abbrev s_law_move : Stmt := (top 44)
abbrev N_law_move : List Str := ["_law_box_here", "_law_many", "_law_limit", "_law_menu", "_law_place"]
theorem sc_law_move : FnScope N_law_move ["_law_box_here", "_law_many", "_law_limit"] (defScope s_law_move) := ⟨rfl, rfl, rfl, by decide +kernel, rfl, by decide +kernel, by decide +kernel⟩
theorem cl_law_move (T : Bl mg) (Z : EcF P K mg c_StoreError c_InvalidInput c_NoPlace) (D : DfG K mg "_law_move" s_law_move [] []) (C_law_take : ClG CX0 P w K mg base 3 "_law_take" s_law_take ["_law_box_here", "_law_size"] [] [] spTake) : ClG CX0 P w K mg base 5 "_law_move" s_law_move ["_law_box_here", "_law_many", "_law_limit"] [] [] spMove := by
  have nd := sc_law_move.nd
  refine D.okP sc_law_move (fun vs H Q E h => ?_) (fun f cdv A outer s H vs Q E hr h => ?_)
  · obtain ⟨b, c, many, lim, rfl, _⟩ := h
    rfl
  · obtain ⟨b, c, many, lim, rfl, ⟨hb, hm⟩, k⟩ := h
    have hu := hu64 hr
    refine ⟨_, (pss_cons (ps_set (i := 3) nd rfl (Or.inl rfl) (pe_g C_law_take (by exact hr.mono (by decide)) (E := fun _ => E0) (fun σ => passC0 σ) (fun _ _ _ _ _ _ us hl => match us, hl with | [_, _], _ => rfl) (pa_cons (pv 0) (pa_cons pe_int pa_nil))))
    (pss_cons (ps_set (i := 4) nd rfl (Or.inl rfl) (pe_g C_law_take (by exact hr.mono (by decide)) (E := fun _ => E0) (fun σ => passC0 σ) (fun _ _ _ _ _ _ us hl => match us, hl with | [_, _], _ => rfl) (pa_cons (pv 0) (pa_cons (pe_callB (callMax2 rfl) (by rfl) T.max (by decide +kernel) (pa_cons pe_int (pa_cons (pv 1) pa_nil))) pa_nil))))
    (pss_cons (ps_if (PW.pt (pw_or (pt_cmpR (opEqK (K := K) (by rfl) (by exact hu)) (pv 1) pe_int (nomark _)) (pw_or1 (PW.pt (pw_and (pt_cmpR (opEqK (K := K) (by rfl) (by exact hu)) (pv 3) pe_int (nomark _)) (pw_and1 (pt_cmpR opLt (pv 1) (pv 2) (nomark _))))))))
      (pss_one (ps_ret pe_non))
      pss_nil)
    (pss_one (ps_ret (pe_ix (ixSeqK (K := K) (by rfl)) (pe_lst (pa_cons (pe_op opSub (pv 1) pe_int) (pa_cons (pe_op opSub (pv 1) pe_int) (pa_cons pe_int (pa_cons (pv 4) pa_nil))))) (pv 3) (fun _ _ => rfl))))))), ?_⟩
    try dsimp only [L2.cxOf, L2.Cx.nox]
    simp only [L2.start, N_law_move, List.map_cons, List.map_nil, List.length_cons, List.length_nil, Nat.reduceAdd, Nat.reduceSub, List.replicate_succ, List.replicate_zero, List.cons_append, List.nil_append]

    have lc := liveBx2 hb
    walk_at "gos"
    · exact k _ none _ Gx.rel inferInstance (.inl ⟨rfl, rfl⟩) (fun _ => by omega)
    · exact k _ none _ Gx.rel inferInstance (.inl ⟨rfl, rfl⟩) (fun _ => by omega)
    all_goals
      refine g_ixMem (by omega) (by simp; omega) (fun x hx => ?_)
      simp only [List.mem_cons, List.not_mem_nil, or_false] at hx
      have hx0 : 0 ≤ x ∧ x < (many : Int) := by omega
      exact q_nat' (by omega) (k _ (some _) _ Gx.rel inferInstance (.inr ⟨_, rfl, rfl, by omega⟩) (fun h => by cases h))
def spCounts : Sp := fun vs H Q _ => ∃ (b c : Addr), vs = [.ref b] ∧ Bx b c H ∧ ∀ q (x y : Nat) H', Nw H q → ExB b H H' → Bx b c H' → x ≤ y → At H' q (.lst [.int (x : Nat), .int (y : Nat)]) → Q (.ref q) H'
abbrev s_law_counts : Stmt := (top 45)
abbrev N_law_counts : List Str := ["_law_box_here", "_law_number", "_law_less", "_law_more"]
theorem sc_law_counts : FnScope N_law_counts ["_law_box_here"] (defScope s_law_counts) := ⟨rfl, rfl, rfl, by decide +kernel, rfl, by decide +kernel, by decide +kernel⟩
theorem cl_law_counts (T : Bl mg) (Z : EcF P K mg c_StoreError c_InvalidInput c_NoPlace) (D : DfG K mg "_law_counts" s_law_counts [] []) (C_law_take : ClG CX0 P w K mg base 3 "_law_take" s_law_take ["_law_box_here", "_law_size"] [] [] spTake) : ClG CX0 P w K mg base 5 "_law_counts" s_law_counts ["_law_box_here"] [] [] spCounts := by
  have nd := sc_law_counts.nd
  refine D.okP sc_law_counts (fun vs H Q E h => ?_) (fun f cdv A outer s H vs Q E hr h => ?_)
  · obtain ⟨b, c, rfl, _⟩ := h
    rfl
  · obtain ⟨b, c, rfl, hb, k⟩ := h
    have hu := hu64 hr
    refine ⟨_, (pss_cons (ps_set (i := 1) nd rfl (Or.inl rfl) (pe_g C_law_take (by exact hr.mono (by decide)) (E := fun _ => E0) (fun σ => passC0 σ) (fun _ _ _ _ _ _ us hl => match us, hl with | [_, _], _ => rfl) (pa_cons (pv 0) (pa_cons pe_int pa_nil))))
    (pss_cons (ps_set (i := 2) nd rfl (Or.inl rfl) (pe_ix (ixSeqK (K := K) (by rfl)) (pe_lst (pa_cons pe_int (pa_cons pe_int (pa_cons (pv 1) (pa_cons (pe_op opPow pe_int pe_int) pa_nil))))) (pe_g C_law_take (by exact hr.mono (by decide)) (E := fun _ => E0) (fun σ => passC0 σ) (fun _ _ _ _ _ _ us hl => match us, hl with | [_, _], _ => rfl) (pa_cons (pv 0) (pa_cons pe_int pa_nil))) (fun _ _ => rfl)))
    (pss_cons (ps_set (i := 3) nd rfl (Or.inl rfl) (pe_ix (ixSeqK (K := K) (by rfl)) (pe_lst (pa_cons (pv 2) (pa_cons (pe_op (opAddK (K := K) (by rfl)) (pv 2) (pe_op opMod (pv 1) pe_int)) (pa_cons (pe_op opPow pe_int pe_int) pa_nil)))) (pe_g C_law_take (by exact hr.mono (by decide)) (E := fun _ => E0) (fun σ => passC0 σ) (fun _ _ _ _ _ _ us hl => match us, hl with | [_, _], _ => rfl) (pa_cons (pv 0) (pa_cons pe_int pa_nil))) (fun _ _ => rfl)))
    (pss_one (ps_ret (pe_lst (pa_cons (pv 2) (pa_cons (pe_callB (callMin2 rfl) (by rfl) T.min (by decide +kernel) (pa_cons (pe_op opPow pe_int pe_int) (pa_cons (pv 3) pa_nil))) pa_nil)))))))), ?_⟩
    try dsimp only [L2.cxOf, L2.Cx.nox]
    simp only [L2.start, N_law_counts, List.map_cons, List.map_nil, List.length_cons, List.length_nil, Nat.reduceAdd, Nat.reduceSub, List.replicate_succ, List.replicate_zero, List.cons_append, List.nil_append]

    have lc := liveBx2 hb
    walk_at "gos"
    refine g_ixMem (by omega) (by simp; omega) (fun x hx => ?_)
    simp only [List.mem_cons, List.not_mem_nil, or_false] at hx
    have hx0 : 0 ≤ x ∧ x ≤ 1000000000000000000000000000000 := by omega
    walk_at "gos"
    refine g_ixMem (by omega) (by simp; omega) (fun y hy => ?_)
    simp only [List.mem_cons, List.not_mem_nil, or_false] at hy
    have hy0 : x ≤ y := by omega
    walk_at "gos"
    obtain ⟨a, rfl⟩ : ∃ a : Nat, x = a := ⟨x.toNat, by omega⟩
    rename_i q H5 np5 e5 hq
    obtain ⟨b', hb'⟩ : ∃ b' : Nat, (if y < 1000000000000000000000000000000 then y else 1000000000000000000000000000000) = (b' : Int) := ⟨(if y < 1000000000000000000000000000000 then y else 1000000000000000000000000000000).toNat, by omega⟩
    rw [hb'] at hq
    exact k _ a b' _ Gx.new Gx.rel inferInstance (by omega) hq

theorem use_putT1 {l : List Bool} {v : V} {o : Option Nat} {c n : Nat} {late : Bool} {H : Hp} {Q : VK} {E : XK} (hg : goesW l o n late = true) (hv : (v = .non ∧ o = none) ∨ ∃ i : Nat, v = .int (i : Nat) ∧ o = some i ∧ i < l.count true) (h : Wd l ∧ 1 ≤ n ∧ l.length ≤ n ∧ n ≤ 64)
    (k : ∀ q H', Nw H q → Ex H H' → At H' q (.tup [.str "word", .str (tx (outW l o c n late))]) → Q (.ref q) H') : spPutT ([.str (tx l), v, .int (c : Nat), .int (n : Nat), .bl late] ++ []) H Q E :=
  ⟨l, v, o, c, n, late, rfl, ⟨hv, h⟩, fun _ => k, (fun z => by rw [hg] at z; cases z)⟩
theorem use_putT0 {l : List Bool} {v : V} {o : Option Nat} {c n : Nat} {late : Bool} {H : Hp} {Q : VK} {E : XK} (hg : goesW l o n late = false) (hv : (v = .non ∧ o = none) ∨ ∃ i : Nat, v = .int (i : Nat) ∧ o = some i ∧ i < l.count true) (h : Wd l ∧ 1 ≤ n ∧ l.length ≤ n ∧ n ≤ 64)
    (k : ∀ q H', Nw H q → Ex H H' → At H' q (.tup [.str "full", .int (n : Nat)]) → Q (.ref q) H') : spPutT ([.str (tx l), v, .int (c : Nat), .int (n : Nat), .bl late] ++ []) H Q E :=
  ⟨l, v, o, c, n, late, rfl, ⟨hv, h⟩, (fun z => by rw [hg] at z; cases z), (fun _ => k)⟩
theorem use_putK1 {K : PySem.W.Frag} {p : Addr} {l u : List Bool} {v : V} {o : Option Nat} {n : Nat} {late : Bool} {H : Hp} {Q : VK} {E : XK} [hp : StC K H p [.str "word", .str (tx u)]] (hg : goesW l o n late = true) (hv : (v = .non ∧ o = none) ∨ ∃ i : Nat, v = .int (i : Nat) ∧ o = some i ∧ i < l.count true) (hw : Wd l) (hu : OutOk l o n u) (k : ∀ H', Ex H H' → Q (.bl true) H') : spPutK K ([.ref p, .str (tx l), v, .int (n : Nat), .bl late] ++ []) H Q E :=
  ⟨p, l, v, o, n, late, rfl, ⟨hv, hw, .inl ⟨hg, u, hu, hp⟩⟩, k⟩
theorem use_putK0 {K : PySem.W.Frag} {p : Addr} {l : List Bool} {v : V} {o : Option Nat} {n : Nat} {late : Bool} {H : Hp} {Q : VK} {E : XK} [hp : StC K H p [.str "full", .int (n : Nat)]] (hg : goesW l o n late = false) (hv : (v = .non ∧ o = none) ∨ ∃ i : Nat, v = .int (i : Nat) ∧ o = some i ∧ i < l.count true) (hw : Wd l) (k : ∀ H', Ex H H' → Q (.bl true) H') : spPutK K ([.ref p, .str (tx l), v, .int (n : Nat), .bl late] ++ []) H Q E :=
  ⟨p, l, v, o, n, late, rfl, ⟨hv, hw, .inr ⟨hg, hp⟩⟩, k⟩
theorem use_move {b c : Addr} {many : Nat} {lim : Int} {H : Hp} {Q : VK} {E : XK} [hb : Bx b c H] (hm : many ≤ 100) (k : ∀ v (o : Option Nat) H', ExB b H H' → Bx b c H' → ((v = .non ∧ o = none) ∨ ∃ i : Nat, v = .int (i : Nat) ∧ o = some i ∧ i < many) → (o = none → many = 0 ∨ (many : Int) < lim) → Q v H') : spMove ([.ref b, .int (many : Nat), .int lim] ++ []) H Q E := ⟨b, c, many, lim, rfl, ⟨hb, hm⟩, k⟩
theorem use_parts {b c : Addr} {l m : List Bool} {n : Nat} {H : Hp} {Q : VK} {E : XK} [hb : Bx b c H] (h : Wd l ∧ Wd m ∧ Toy.D l m ∧ 1 ≤ n ∧ n ≤ 64 ∧ m.length ≤ n) (k : ∀ H', ExB b H H' → Bx b c H' → Q (.bl true) H') : spParts ([.ref b, .str (tx l), .str (tx m), .int (n : Nat)] ++ []) H Q E := ⟨b, c, l, m, n, rfl, ⟨hb, h⟩, k⟩
theorem use_plc {b c : Addr} {size : Nat} {H : Hp} {Q : VK} {E : XK} [hb : Bx b c H] (h : size ≤ 64) (q : ∀ (n : Nat) H', ExB b H H' → Bx b c H' → 1 ≤ n → size ≤ n → n ≤ 64 → Q (.int (n : Nat)) H') : spPlc ([.ref b, .int (size : Nat)] ++ []) H Q E := ⟨b, c, size, rfl, ⟨hb, h⟩, q⟩
local macro_rules | `(tactic| walk_at "call") => `(tactic| first
  | ((with_reducible show spPutT _ _ _ _); first
    | (refine use_putT1 (by assumption) (by assumption) (by assumption) ?_; intro q_ H_ np_ e_ hp_)
    | (refine use_putT0 (by assumption) (by assumption) (by assumption) ?_; intro q_ H_ np_ e_ hp_))
  | ((with_reducible show spPutK _ _ _ _ _); first
    | (refine use_putK1 (by assumption) (by assumption) (by assumption) (by assumption) ?_; intro H_ e_)
    | (refine use_putK0 (by assumption) (by assumption) (by assumption) ?_; intro H_ e_))
  | ((with_reducible show spMove _ _ _ _); refine use_move (by omega) ?_; intro v_ o_ H_ e_ hB_ hv_ ho_)
  | ((with_reducible show spCounts _ _ _ _); refine ⟨_, _, rfl, inferInstance, ?_⟩; intro q_ x_ y_ H_ np_ e_ hB_ hxy_ hp_)
  | ((with_reducible show spParts _ _ _ _); refine use_parts (by assumption) ?_; intro H_ e_ hB_)
  | ((with_reducible show spPlc _ _ _ _); refine use_plc (by omega) ?_; intro n_ H_ e_ hB_ h1_ h2_ h3_)
  | ((with_reducible show spWord _ _ _ _); refine use_word (by omega) (by omega) ?_; intro l_ H_ e_ hB_ hw_ hl_))
def spLaw (K : PySem.W.Frag) : Sp := fun vs H Q _ => ∃ (a : Addr) (ns : List Int), vs = [.ref a] ∧ SqL K H a (ns.map V.int) ∧ ns.length ≤ 63 ∧ (∀ z ∈ ns, Builtin.Int.intBits z ≤ 1048576) ∧ ∀ H', Q (.bl true) H'
abbrev s_law : Stmt := (top 46)
abbrev N_law : List Str := ["_law_script", "_law_box_here", "_law_worse", "_law_better_here", "_law_places_here", "_law_least", "_law_limit", "_law_lately", "_law_turn", "_law_many", "_law_others", "_law_index", "_law_mine", "_law_counts_here", "_law_left", "_law_right"]
theorem sc_law : FnScope N_law ["_law_script"] (defScope s_law) := ⟨rfl, rfl, rfl, by decide +kernel, rfl, by decide +kernel, by decide +kernel⟩
theorem ok_law {f : Addr} {fd : FuncData} (T : Bl mg) (Z : EcF P K mg c_StoreError c_InvalidInput c_NoPlace) (F : FunD K "law" "law" (defArgs s_law) (defBody s_law) (defScope s_law) [] [] f fd) (C_law_parts_kept : ClG CX0 P w K mg base 13 "_law_parts_kept" s_law_parts_kept ["_law_box_here", "_law_better_here", "_law_worse", "_law_places_here"] [] [] spParts) (C_law_take : ClG CX0 P w K mg base 3 "_law_take" s_law_take ["_law_box_here", "_law_size"] [] [] spTake) (C_law_better_kept : ClG CX0 P w K mg base 7 "_law_better_kept" s_law_better_kept ["_law_better_here", "_law_worse"] [] [] spBK) (C_law_put_kept : ClG CX0 P w K mg base 7 "_law_put_kept" s_law_put_kept ["_law_told", "_law_word_here", "_law_index", "_law_places_here", "_law_lately"] [] [] (spPutK K)) (C_law_put : ClG CX0 P w K mg base 11 "_law_put" s_law_put ["_law_word_here", "_law_index", "_law_count", "_law_places_here", "_law_lately"] [] [] spPutT) (C_law_counts : ClG CX0 P w K mg base 5 "_law_counts" s_law_counts ["_law_box_here"] [] [] spCounts) (C_law_move : ClG CX0 P w K mg base 5 "_law_move" s_law_move ["_law_box_here", "_law_many", "_law_limit"] [] [] spMove) (C_law_depths : ClG CX0 P w K mg base 3 "_law_depths" s_law_depths ["_law_word_here"] [] [] spDeps) (C_law_places : ClG CX0 P w K mg base 5 "_law_places" s_law_places ["_law_box_here", "_law_size"] [] [] spPlc) (C_law_word_of : ClG CX0 P w K mg base 3 "_law_word_of" s_law_word_of ["_law_due"] [] [] (spWOf K)) (C_law_better : ClG CX0 P w K mg base 5 "_law_better" s_law_better ["_law_box_here", "_law_worse"] [] [] (spBet K)) (C_law_word : ClG CX0 P w K mg base 7 "_law_word" s_law_word ["_law_box_here", "_law_most"] [] [] spWord) (C_law_box : ClG CX0 P w K mg base 3 "_law_box" s_law_box ["_law_script"] [] [] (spBox K)) : FnOk P w K mg base CX0 15 f fd ["_law_script"] (spLaw K) := by
  have nd := sc_law.nd
  refine F.ok sc_law (fun vs H Q E h => ?_) (fun cdv A outer s H vs Q E hr h => ?_)
  · obtain ⟨a, ns, rfl, _⟩ := h
    rfl
  · obtain ⟨a, ns, rfl, hs, hl, hbits, k⟩ := h
    have hu := hu64 hr
    refine Gx.ex_nox ⟨_, (pss_cons (ps_set (i := 1) nd rfl (Or.inl rfl) (pe_g C_law_box (by exact hr.mono (by decide)) (E := fun _ => E0) (fun σ => passC0 σ) (fun _ _ _ _ _ _ us hl => match us, hl with | [_], _ => rfl) (pa_cons (pv 0) pa_nil)))
    (pss_cons (ps_set (i := 2) nd rfl (Or.inl rfl) (pe_g C_law_word (by exact hr.mono (by decide)) (E := fun _ => E0) (fun σ => passC0 σ) (fun _ _ _ _ _ _ us hl => match us, hl with | [_, _], _ => rfl) (pa_cons (pv 1) (pa_cons pe_int pa_nil))))
    (pss_cons (ps_set (i := 3) nd rfl (Or.inl rfl) (pe_g C_law_word_of (by exact hr.mono (by decide)) (E := fun _ => E0) (fun σ => passC0 σ) (fun _ _ _ _ _ _ us hl => match us, hl with | [_], _ => rfl) (pa_cons (pe_g C_law_better (by exact hr.mono (by decide)) (E := fun _ => E0) (fun σ => passC0 σ) (fun _ _ _ _ _ _ us hl => match us, hl with | [_, _], _ => rfl) (pa_cons (pv 1) (pa_cons (pe_g C_law_depths (by exact hr.mono (by decide)) (E := fun _ => E0) (fun σ => passC0 σ) (fun _ _ _ _ _ _ us hl => match us, hl with | [_], _ => rfl) (pa_cons (pv 2) pa_nil)) pa_nil))) pa_nil)))
    (pss_cons (ps_set (i := 4) nd rfl (Or.inl rfl) (pe_g C_law_places (by exact hr.mono (by decide)) (E := fun _ => E0) (fun σ => passC0 σ) (fun _ _ _ _ _ _ us hl => match us, hl with | [_, _], _ => rfl) (pa_cons (pv 1) (pa_cons (pe_callB (callLenK (K := K) (by rfl)) (by rfl) T.len (by decide +kernel) (pa_cons (pv 2) pa_nil)) pa_nil))))
    (pss_cons (ps_set (i := 5) nd rfl (Or.inl rfl) (pe_callB (callMax2 rfl) (by rfl) T.max (by decide +kernel) (pa_cons pe_int (pa_cons (pe_callB (callLenK (K := K) (by rfl)) (by rfl) T.len (by decide +kernel) (pa_cons (pe_g C_law_depths (by exact hr.mono (by decide)) (E := fun _ => E0) (fun σ => passC0 σ) (fun _ _ _ _ _ _ us hl => match us, hl with | [_], _ => rfl) (pa_cons (pv 2) pa_nil)) pa_nil)) pa_nil))))
    (pss_cons (ps_set (i := 6) nd rfl (Or.inl rfl) (pv 5))
    (pss_cons (ps_if (pt_cmpR opGt (pe_g C_law_take (by exact hr.mono (by decide)) (E := fun _ => E0) (fun σ => passC0 σ) (fun _ _ _ _ _ _ us hl => match us, hl with | [_, _], _ => rfl) (pa_cons (pv 1) (pa_cons pe_int pa_nil))) pe_int (nomark _))
      (pss_one (ps_set (i := 6) nd rfl (Or.inl rfl) (pe_op (opAddK (K := K) (by rfl)) (pv 5) (pe_g C_law_take (by exact hr.mono (by decide)) (E := fun _ => E0) (fun σ => passC0 σ) (fun _ _ _ _ _ _ us hl => match us, hl with | [_, _], _ => rfl) (pa_cons (pv 1) (pa_cons (pe_op (opAddK (K := K) (by rfl)) (pe_op opSub (pv 4) (pv 5)) pe_int) pa_nil))))))
      pss_nil)
    (pss_cons (ps_if (pt_not (pt_val (pe_g C_law_parts_kept (by exact hr.mono (by decide)) (E := fun _ => E0) (fun σ => passC0 σ) (fun _ _ _ _ _ _ us hl => match us, hl with | [_, _, _, _], _ => rfl) (pa_cons (pv 1) (pa_cons (pv 3) (pa_cons (pv 2) (pa_cons (pv 4) pa_nil)))))))
      (pss_one (ps_ret pe_bl))
      pss_nil)
    (pss_cons (ps_set (i := 7) nd rfl (Or.inl rfl) (pe_cmpR (opEqK (K := K) (by rfl) (by exact hu)) (pe_g C_law_take (by exact hr.mono (by decide)) (E := fun _ => E0) (fun σ => passC0 σ) (fun _ _ _ _ _ _ us hl => match us, hl with | [_, _], _ => rfl) (pa_cons (pv 1) (pa_cons pe_int pa_nil))) pe_int (nomark _)))
    (pss_cons (ps_for PassesOwn.never rfl (pi_range1 rfl T.range (pa_cons (pe_g C_law_take (by exact hr.mono (by decide)) (E := fun _ => E0) (fun σ => passC0 σ) (fun _ _ _ _ _ _ us hl => match us, hl with | [_, _], _ => rfl) (pa_cons (pv 1) (pa_cons pe_int pa_nil))) pa_nil)) (pg_name (i := 8) nd rfl (Or.inl rfl))
      (pss_cons (ps_set (i := 9) nd rfl (Or.inl rfl) (pe_callB (callLenK (K := K) (by rfl)) (by rfl) T.len (by decide +kernel) (pa_cons (pe_g C_law_depths (by exact hr.mono (by decide)) (E := fun _ => E0) (fun σ => passC0 σ) (fun _ _ _ _ _ _ us hl => match us, hl with | [_], _ => rfl) (pa_cons (pv 3) pa_nil)) pa_nil)))
    (pss_cons (ps_set (i := 10) nd rfl (Or.inl rfl) (pe_callB (callLenK (K := K) (by rfl)) (by rfl) T.len (by decide +kernel) (pa_cons (pe_g C_law_depths (by exact hr.mono (by decide)) (E := fun _ => E0) (fun σ => passC0 σ) (fun _ _ _ _ _ _ us hl => match us, hl with | [_], _ => rfl) (pa_cons (pv 2) pa_nil)) pa_nil)))
    (pss_cons (ps_set (i := 11) nd rfl (Or.inl rfl) pe_non)
    (pss_cons (ps_if (pt_cmpR opGe (pv 10) (pv 6) (nomark _))
      (pss_one (ps_set (i := 11) nd rfl (Or.inl rfl) (pe_op opSub (pv 10) pe_int)))
      pss_nil)
    (pss_cons (ps_set (i := 12) nd rfl (Or.inl rfl) (pe_g C_law_move (by exact hr.mono (by decide)) (E := fun _ => E0) (fun σ => passC0 σ) (fun _ _ _ _ _ _ us hl => match us, hl with | [_, _, _], _ => rfl) (pa_cons (pv 1) (pa_cons (pv 9) (pa_cons (pv 6) pa_nil)))))
    (pss_cons (ps_set (i := 13) nd rfl (Or.inl rfl) (pe_g C_law_counts (by exact hr.mono (by decide)) (E := fun _ => E0) (fun σ => passC0 σ) (fun _ _ _ _ _ _ us hl => match us, hl with | [_], _ => rfl) (pa_cons (pv 1) pa_nil)))
    (pss_cons (ps_set (i := 14) nd rfl (Or.inl rfl) (pe_g C_law_put (by exact hr.mono (by decide)) (E := fun _ => E0) (fun σ => passC0 σ) (fun _ _ _ _ _ _ us hl => match us, hl with | [_, _, _, _, _], _ => rfl) (pa_cons (pv 3) (pa_cons (pv 12) (pa_cons (pe_ix (ixSeqK (K := K) (by rfl)) (pv 13) pe_int (fun _ _ => rfl)) (pa_cons (pv 4) (pa_cons (pv 7) pa_nil)))))))
    (pss_cons (ps_set (i := 15) nd rfl (Or.inl rfl) (pe_g C_law_put (by exact hr.mono (by decide)) (E := fun _ => E0) (fun σ => passC0 σ) (fun _ _ _ _ _ _ us hl => match us, hl with | [_, _, _, _, _], _ => rfl) (pa_cons (pv 2) (pa_cons (pv 11) (pa_cons (pe_ix (ixSeqK (K := K) (by rfl)) (pv 13) pe_int (fun _ _ => rfl)) (pa_cons (pv 4) (pa_cons (pv 7) pa_nil)))))))
    (pss_cons (ps_if (pt_not (pt_val (pe_g C_law_put_kept (by exact hr.mono (by decide)) (E := fun _ => E0) (fun σ => passC0 σ) (fun _ _ _ _ _ _ us hl => match us, hl with | [_, _, _, _, _], _ => rfl) (pa_cons (pv 14) (pa_cons (pv 3) (pa_cons (pv 12) (pa_cons (pv 4) (pa_cons (pv 7) pa_nil))))))))
      (pss_one (ps_ret pe_bl))
      pss_nil)
    (pss_cons (ps_if (pt_not (pt_val (pe_g C_law_put_kept (by exact hr.mono (by decide)) (E := fun _ => E0) (fun σ => passC0 σ) (fun _ _ _ _ _ _ us hl => match us, hl with | [_, _, _, _, _], _ => rfl) (pa_cons (pv 15) (pa_cons (pv 2) (pa_cons (pv 11) (pa_cons (pv 4) (pa_cons (pv 7) pa_nil))))))))
      (pss_one (ps_ret pe_bl))
      pss_nil)
    (pss_cons (ps_if (pt_cmpR (opEqK (K := K) (by rfl) (by exact hu)) (pe_ix (ixSeqK (K := K) (by rfl)) (pv 15) pe_int (fun _ _ => rfl)) pe_str (nomark _))
      (pss_one ps_break)
      pss_nil)
    (pss_cons (ps_if (PW.pt (pw_or (pt_cmpR (opEqK (K := K) (by rfl) (by exact hu)) (pe_ix (ixSeqK (K := K) (by rfl)) (pv 14) pe_int (fun _ _ => rfl)) pe_str (nomark _)) (pw_or1 (pt_not (pt_val (pe_g C_law_better_kept (by exact hr.mono (by decide)) (E := fun _ => E0) (fun σ => passC0 σ) (fun _ _ _ _ _ _ us hl => match us, hl with | [_, _], _ => rfl) (pa_cons (pe_ix (ixSeqK (K := K) (by rfl)) (pv 14) pe_int (fun _ _ => rfl)) (pa_cons (pe_ix (ixSeqK (K := K) (by rfl)) (pv 15) pe_int (fun _ _ => rfl)) pa_nil))))))))
      (pss_one (ps_ret pe_bl))
      pss_nil)
    (pss_cons (ps_set (i := 3) nd rfl (Or.inl rfl) (pe_ix (ixSeqK (K := K) (by rfl)) (pv 14) pe_int (fun _ _ => rfl)))
    (pss_one (ps_set (i := 2) nd rfl (Or.inl rfl) (pe_ix (ixSeqK (K := K) (by rfl)) (pv 15) pe_int (fun _ _ => rfl))))))))))))))))))
    (pss_one (ps_ret (pe_g C_law_parts_kept (by exact hr.mono (by decide)) (E := fun _ => E0) (fun σ => passC0 σ) (fun _ _ _ _ _ _ us hl => match us, hl with | [_, _, _, _], _ => rfl) (pa_cons (pv 1) (pa_cons (pv 3) (pa_cons (pv 2) (pa_cons (pv 4) pa_nil))))))))))))))))), ?_⟩
    try dsimp only [L2.cxOf, L2.Cx.nox]
    simp only [L2.start, N_law, List.map_cons, List.map_nil, List.length_cons, List.length_nil, Nat.reduceAdd, Nat.reduceSub, List.replicate_succ, List.replicate_zero, List.cons_append, List.nil_append]

    have hs : SqC K H a (ns.map V.int) := ⟨hs⟩
    walk_at "go"
    rename_i b c H1 n1 e1 hB1 m H2 e2 hB2 hm hml p3 H3 n3 e3 hp3 q4 es H4 n4 e4 hB4 hq4 hes hab l H5 e5 hl hdl n H6 e6 hB6 g1 g2 g3 p7 H7 n7 e7 hp7 d H8 d0 d1 e8 hB8
    have lc := liveBx2 hB1
    have hD : Toy.D l m := by unfold Toy.D; rw [hdl]; exact hab
    have hAll : Wd l ∧ Wd m ∧ Toy.D l m ∧ 1 ≤ n ∧ n ≤ 64 ∧ m.length ≤ n := ⟨hl, hm, hD, g1, g3, g2⟩
    have hdm := dep_len m
    have hcm := cnt_le m
    walk_at "gos"
    all_goals
      refine Gx.for1 [b] (fun i σ' H' => ∃ (l m : List Bool) (x L : Int) (late : Bool) (s8 s9 s10 s11 s12 s13 s14 s15 : Option V), σ' = [some (.ref a), some (.ref b), some (.str (tx m)), some (.str (tx l)), some (.int (n : Nat)), some (.int x), some (.int L), some (.bl late), s8, s9, s10, s11, s12, s13, s14, s15] ∧ Bx b c H' ∧ 1 ≤ L ∧ (Wd l ∧ Wd m ∧ Toy.D l m ∧ 1 ≤ n ∧ n ≤ 64 ∧ m.length ≤ n)) (by omega)
        ⟨l, m, _, _, _, _, _, _, _, _, _, _, _, rfl, inferInstance, by omega, hAll⟩ ?_ ?_
      · rintro i σ' H' hi e ⟨l, m, x, L, late, s8, s9, s10, s11, s12, s13, s14, s15, rfl, hB, hL, hAll⟩
        obtain ⟨hl, hm, hD, _, _, g2⟩ := id hAll
        have hdl := dep_len l
        have hcl := cnt_le l
        have hdm := dep_len m
        have hcm := cnt_le m
        have hll := hl.1
        have hml := hm.1
        have hlm := hD.len hl.2 hm.2
        have hcnt := hD.cnt
        have hl4 : Wd l ∧ 1 ≤ n ∧ l.length ≤ n ∧ n ≤ 64 := ⟨hl, g1, by omega, g3⟩
        have hm4 : Wd m ∧ 1 ≤ n ∧ m.length ≤ n ∧ n ≤ 64 := ⟨hm, g1, g2, g3⟩
        walk_at "gos"
        · rename_i p1 X1 _ _ _ p2 X2 _ _ _ hI v o X3 _ _ hv ho q u w X4 _ _ _ hxy hq
          rw [show (((dep m).length : Nat) : Int) - 1 = ((m.count true - 1 : Nat) : Int) from by omega]
          rw [hdl] at hv
          have hv2 : (V.int ((m.count true - 1 : Nat) : Int) = .non ∧ some (m.count true - 1) = none) ∨ ∃ i : Nat, V.int ((m.count true - 1 : Nat) : Int) = .int (i : Nat) ∧ some (m.count true - 1) = some i ∧ i < m.count true := .inr ⟨_, rfl, rfl, by omega⟩
          have ho1 := hv_ho hv
          have ho2 := hv_ho hv2
          have hDr : Toy.D (relO l o) (relO m (some (m.count true - 1))) := by
            cases o with
            | none =>
              show Toy.D l (relW m (m.count true - 1))
              exact Toy.D.newest hD (by have := ho rfl; omega)
            | some i => exact Toy.D.rel_newest hD (ho1 i rfl)
          have hp := Toy.D.put (late := late) (n := n) (ca := w) (cb := u) hl hm hD hDr ho1 ho2 hxy g1
          cases hg : goesW m (some (m.count true - 1)) n late with
          | true =>
            have hgl := hp.1 hg
            have ok1 := out_ok (c := w) hl g1 g3 ho1 hgl
            have ok2 := out_ok (c := u) hm g1 g3 ho2 hg
            have hwd1 := ok1.wd
            have hwd2 := ok2.wd
            have hD2 := hp.2
            walk_at "gos"
            exact Gx.li ⟨_, _, _, _, _, _, _, _, _, _, _, _, _, rfl, inferInstance, hL, hwd1, hwd2, hD2, g1, g3, ok2.len⟩
          | false =>
            cases hgl : goesW l o n late with
            | true =>
              have ok1 := out_ok (c := w) hl g1 g3 ho1 hgl
              walk_at "gos"
              exact k _
            | false =>
              walk_at "gos"
              exact k _
        · rename_i p1 X1 _ _ _ p2 X2 _ _ _ hI v o X3 _ _ hv ho q u w X4 _ _ _ hxy hq
          rw [hdl] at hv
          have hv2 : (V.non = .non ∧ (none : Option Nat) = none) ∨ ∃ i : Nat, V.non = .int (i : Nat) ∧ (none : Option Nat) = some i ∧ i < m.count true := .inl ⟨rfl, rfl⟩
          have ho1 := hv_ho hv
          have ho2 := hv_ho hv2
          have hDr : Toy.D (relO l o) (relO m none) := by
            cases o with
            | none => exact hD
            | some i => exact (Toy.D.rel_self (ho1 i rfl)).trans hD
          have hp := Toy.D.put (late := late) (n := n) (ca := w) (cb := u) hl hm hD hDr ho1 ho2 hxy g1
          cases hg : goesW m none n late with
          | true =>
            have hgl := hp.1 hg
            have ok1 := out_ok (c := w) hl g1 g3 ho1 hgl
            have ok2 := out_ok (c := u) hm g1 g3 ho2 hg
            have hwd1 := ok1.wd
            have hwd2 := ok2.wd
            have hD2 := hp.2
            walk_at "gos"
            exact Gx.li ⟨_, _, _, _, _, _, _, _, _, _, _, _, _, rfl, inferInstance, hL, hwd1, hwd2, hD2, g1, g3, ok2.len⟩
          | false =>
            cases hgl : goesW l o n late with
            | true =>
              have ok1 := out_ok (c := w) hl g1 g3 ho1 hgl
              walk_at "gos"
              exact k _
            | false =>
              walk_at "gos"
              exact k _
      · rintro σ' H' e ⟨l, m, x, L, late, s8, s9, s10, s11, s12, s13, s14, s15, rfl, hB, hL, hAll⟩
        walk_at "gos"
        exact k _

end
theorem all_mk {l : PySem.W.OpenLaw} {w : World} {K : PySem.W.Frag} {h : Heap} {mg : Str → Option Value} {fa : Addr} {c_StoreError c_InvalidInput c_NoPlace : Addr} (X : K.In h) (G : h.Ns mainGlobals mg) (hfa : mg "law" = some (.ref fa)) (T : Bl mg) (Z : EcF l.prog K mg c_StoreError c_InvalidInput c_NoPlace) (D_law_box : DfG K mg "_law_box" s_law_box [] []) (D_law_take : DfG K mg "_law_take" s_law_take [] []) (D_at_least : DfG K mg "at_least" s_at_least [] []) (D_at_most : DfG K mg "at_most" s_at_most [] []) (D_good_word : DfG K mg "good_word" s_good_word [] []) (D_trimmed : DfG K mg "_trimmed" s_trimmed [] []) (D_ones : DfG K mg "_ones" s_ones [] []) (D_depth_list : DfG K mg "_depth_list" s_depth_list [] []) (D_newest : DfG K mg "newest" s_newest [] []) (D_dominates : DfG K mg "dominates" s_dominates [] []) (D_released : DfG K mg "_released" s_released [] []) (D_carried : DfG K mg "_carried" s_carried [] []) (D_carried_often : DfG K mg "_carried_often" s_carried_often [] []) (D_appended : DfG K mg "_appended" s_appended [] []) (D_release : DfG K mg "release" s_release [] []) (D_carry : DfG K mg "carry" s_carry [] []) (D_carries : DfG K mg "carries" s_carries [] []) (D_append_record : DfG K mg "append_record" s_append_record [.str "1"] []) (D_step : DfG K mg "step" s_step [] [("late", .bl false)]) (D_law_bits : DfG K mg "_law_bits" s_law_bits [] []) (D_law_word : DfG K mg "_law_word" s_law_word [] []) (D_law_depths : DfG K mg "_law_depths" s_law_depths [] []) (D_law_word_of : DfG K mg "_law_word_of" s_law_word_of [] []) (D_law_better : DfG K mg "_law_better" s_law_better [] []) (D_law_above : DfG K mg "_law_above" s_law_above [] []) (D_law_places : DfG K mg "_law_places" s_law_places [] []) (D_law_is_integer : DfG K mg "_law_is_integer" s_law_is_integer [] []) (D_law_is_word : DfG K mg "_law_is_word" s_law_is_word [] []) (D_law_better_kept : DfG K mg "_law_better_kept" s_law_better_kept [] []) (D_law_release_kept : DfG K mg "_law_release_kept" s_law_release_kept [] []) (D_law_pair_kept : DfG K mg "_law_pair_kept" s_law_pair_kept [] []) (D_law_carry_kept : DfG K mg "_law_carry_kept" s_law_carry_kept [] []) (D_law_append_kept : DfG K mg "_law_append_kept" s_law_append_kept [] []) (D_law_parts_kept : DfG K mg "_law_parts_kept" s_law_parts_kept [] []) (D_law_goes : DfG K mg "_law_goes" s_law_goes [] []) (D_law_put : DfG K mg "_law_put" s_law_put [] []) (D_law_put_kept : DfG K mg "_law_put_kept" s_law_put_kept [] []) (D_law_move : DfG K mg "_law_move" s_law_move [] []) (D_law_counts : DfG K mg "_law_counts" s_law_counts [] []) (D_law : DfG K mg "law" s_law [] []) :
    ∃ fd : FuncData, (∀ (s : Shared) (u : Value), BindsTo s fd ⟨[u], []⟩ [("_law_script", u)]) ∧ ∀ base : Heap, K.In base → base.Ns mainGlobals mg → FnOk l.prog w K mg base CX0 15 fa fd ["_law_script"] (spLaw K) := by
  obtain ⟨f, fd, h1, F⟩ := D_law.ex
  have e := hfa.symm.trans h1
  cases e
  refine ⟨fd, fun s u => F.bindsA (ps := ["_law_script"]) (fun _ _ _ _ _ _ us hl => match us, hl with | [_], _ => rfl) s [u] rfl, fun base _ _ => ?_⟩
  have C_law_box : ClG CX0 l.prog w K mg base 3 "_law_box" s_law_box ["_law_script"] [] [] (spBox K) := cl_law_box T Z D_law_box 
  have C_law_take : ClG CX0 l.prog w K mg base 3 "_law_take" s_law_take ["_law_box_here", "_law_size"] [] [] spTake := cl_law_take T Z D_law_take 
  have C_at_least : ClG CX0 l.prog w K mg base 3 "at_least" s_at_least ["value", "least", "field"] [] [] spAtLeast := cl_at_least T Z D_at_least 
  have C_at_most : ClG CX0 l.prog w K mg base 3 "at_most" s_at_most ["value", "most", "field"] [] [] spAtMost := cl_at_most T Z D_at_most 
  have C_good_word : ClG CX0 l.prog w K mg base 3 "good_word" s_good_word ["word", "field"] [] [] spGood := cl_good_word T Z D_good_word 
  have C_trimmed : ClG CX0 l.prog w K mg base 3 "_trimmed" s_trimmed ["text"] [] [] spTrim := cl_trimmed T Z D_trimmed 
  have C_ones : ClG CX0 l.prog w K mg base 3 "_ones" s_ones ["word"] [] [] spOnes := cl_ones T Z D_ones 
  have C_depth_list : ClG CX0 l.prog w K mg base 3 "_depth_list" s_depth_list ["word"] [] [] spDeps := cl_depth_list T Z D_depth_list 
  have C_newest : ClG CX0 l.prog w K mg base 5 "newest" s_newest ["word"] [] [] spNewest := cl_newest T Z D_newest C_ones C_good_word
  have C_dominates : ClG CX0 l.prog w K mg base 5 "dominates" s_dominates ["first", "second"] [] [] spDom := cl_dominates T Z D_dominates C_depth_list C_good_word
  have C_released : ClG CX0 l.prog w K mg base 5 "_released" s_released ["word", "index"] [] [] spRelN := cl_released T Z D_released C_trimmed C_depth_list
  have C_carried : ClG CX0 l.prog w K mg base 5 "_carried" s_carried ["word", "places"] [] [] spCar := cl_carried T Z D_carried C_trimmed
  have C_carried_often : ClG CX0 l.prog w K mg base 7 "_carried_often" s_carried_often ["word", "count", "places"] [] [] spCarN := cl_carried_often T Z D_carried_often C_carried
  have C_appended : ClG (L2.CX l.prog w) l.prog w K mg base 5 "_appended" s_appended ["word", "places", "record"] [] [] (spApp c_NoPlace) := cl_appended T Z D_appended C_trimmed
  have C_release : ClG CX0 l.prog w K mg base 7 "release" s_release ["word", "index"] [] [] spRelease := cl_release T Z D_release C_released C_at_most C_ones C_at_least C_good_word
  have C_carry : ClG CX0 l.prog w K mg base 7 "carry" s_carry ["word", "places"] [] [] spCarry := cl_carry T Z D_carry C_carried C_at_least C_good_word
  have C_carries : ClG CX0 l.prog w K mg base 9 "carries" s_carries ["word", "count", "places"] [] [] spCarries := cl_carries T Z D_carries C_carried_often C_at_least C_good_word
  have C_append_record : ClG (L2.CX l.prog w) l.prog w K mg base 7 "append_record" s_append_record ["word", "places", "record"] [.str "1"] [] (spAppR c_NoPlace) := cl_append_record T Z D_append_record C_appended C_at_least C_good_word
  have C_step : ClG (L2.CX l.prog w) l.prog w K mg base 9 "step" s_step ["word", "index", "count", "places", "late"] [] [("late", .bl false)] (spStep c_NoPlace) := cl_step T Z D_step C_appended C_carried_often C_ones C_released C_at_least C_at_most C_good_word
  have C_law_bits : ClG CX0 l.prog w K mg base 5 "_law_bits" s_law_bits ["_law_box_here", "_law_size"] [] [] spBits := cl_law_bits T Z D_law_bits C_law_take
  have C_law_word : ClG CX0 l.prog w K mg base 7 "_law_word" s_law_word ["_law_box_here", "_law_most"] [] [] spWord := cl_law_word T Z D_law_word C_law_take C_law_bits
  have C_law_depths : ClG CX0 l.prog w K mg base 3 "_law_depths" s_law_depths ["_law_word_here"] [] [] spDeps := cl_law_depths T Z D_law_depths 
  have C_law_word_of : ClG CX0 l.prog w K mg base 3 "_law_word_of" s_law_word_of ["_law_due"] [] [] (spWOf K) := cl_law_word_of T Z D_law_word_of 
  have C_law_better : ClG CX0 l.prog w K mg base 5 "_law_better" s_law_better ["_law_box_here", "_law_worse"] [] [] (spBet K) := cl_law_better T Z D_law_better C_law_take
  have C_law_above : ClG CX0 l.prog w K mg base 3 "_law_above" s_law_above ["_law_one", "_law_other"] [] [] (spAbove K) := cl_law_above T Z D_law_above 
  have C_law_places : ClG CX0 l.prog w K mg base 5 "_law_places" s_law_places ["_law_box_here", "_law_size"] [] [] spPlc := cl_law_places T Z D_law_places C_law_take
  have C_law_is_integer : ClG CX0 l.prog w K mg base 3 "_law_is_integer" s_law_is_integer ["_law_told"] [] [] spIsInt := cl_law_is_integer T Z D_law_is_integer 
  have C_law_is_word : ClG CX0 l.prog w K mg base 5 "_law_is_word" s_law_is_word ["_law_told", "_law_many", "_law_most"] [] [] spIsW := cl_law_is_word T Z D_law_is_word C_law_depths
  have C_law_better_kept : ClG CX0 l.prog w K mg base 7 "_law_better_kept" s_law_better_kept ["_law_better_here", "_law_worse"] [] [] spBK := cl_law_better_kept T Z D_law_better_kept C_dominates C_law_above C_law_depths
  have C_law_release_kept : ClG CX0 l.prog w K mg base 9 "_law_release_kept" s_law_release_kept ["_law_better_here", "_law_worse"] [] [] spBK := cl_law_release_kept T Z D_law_release_kept C_law_better_kept C_law_is_word C_release C_law_is_integer C_newest C_law_depths
  have C_law_pair_kept : ClG CX0 l.prog w K mg base 9 "_law_pair_kept" s_law_pair_kept ["_law_before", "_law_left", "_law_right", "_law_others", "_law_most"] [] [] spPK := cl_law_pair_kept T Z D_law_pair_kept C_law_better_kept C_law_is_word C_law_depths
  have C_law_carry_kept : ClG CX0 l.prog w K mg base 11 "_law_carry_kept" s_law_carry_kept ["_law_box_here", "_law_better_here", "_law_worse", "_law_places_here"] [] [] spCK := cl_law_carry_kept T Z D_law_carry_kept C_law_pair_kept C_carries C_law_take C_carry C_law_depths
  have C_law_append_kept : ClG CX0 l.prog w K mg base 9 "_law_append_kept" s_law_append_kept ["_law_better_here", "_law_worse", "_law_places_here"] [] [] spAK := cl_law_append_kept T Z D_law_append_kept C_law_better_kept C_law_is_word C_law_depths C_append_record
  have C_law_parts_kept : ClG CX0 l.prog w K mg base 13 "_law_parts_kept" s_law_parts_kept ["_law_box_here", "_law_better_here", "_law_worse", "_law_places_here"] [] [] spParts := cl_law_parts_kept T Z D_law_parts_kept C_law_append_kept C_law_carry_kept C_law_release_kept C_law_better_kept
  have C_law_goes : ClG CX0 l.prog w K mg base 5 "_law_goes" s_law_goes ["_law_word_here", "_law_index", "_law_places_here", "_law_lately"] [] [] spGoes := cl_law_goes T Z D_law_goes C_law_depths
  have C_law_put : ClG CX0 l.prog w K mg base 11 "_law_put" s_law_put ["_law_word_here", "_law_index", "_law_count", "_law_places_here", "_law_lately"] [] [] spPutT := cl_law_put T Z D_law_put C_step
  have C_law_put_kept : ClG CX0 l.prog w K mg base 7 "_law_put_kept" s_law_put_kept ["_law_told", "_law_word_here", "_law_index", "_law_places_here", "_law_lately"] [] [] (spPutK K) := cl_law_put_kept T Z D_law_put_kept C_law_is_word C_law_depths C_law_goes C_law_is_integer
  have C_law_move : ClG CX0 l.prog w K mg base 5 "_law_move" s_law_move ["_law_box_here", "_law_many", "_law_limit"] [] [] spMove := cl_law_move T Z D_law_move C_law_take
  have C_law_counts : ClG CX0 l.prog w K mg base 5 "_law_counts" s_law_counts ["_law_box_here"] [] [] spCounts := cl_law_counts T Z D_law_counts C_law_take
  exact ok_law T Z F C_law_parts_kept C_law_take C_law_better_kept C_law_put_kept C_law_put C_law_counts C_law_move C_law_depths C_law_places C_law_word_of C_law_better C_law_word C_law_box
theorem walk {l : PySem.W.OpenLaw} {q : Program} {loose : List Str} {XP : (Str → Option Value) → Heap → Prop} {YP : World → Heap → Prop} {d : DefRec} {K : Params → PySem.W.Frag} (hn : l.most = some 63) (hdf : d.params.defaults = [])
    (hY : ∀ (w : World) (h : Heap), YP w h → (K w.params).In h)
    (F : ∀ (w : World) (mg : Str → Option Value) (fa : Addr) (h : Heap), (K w.params).In h → h.Ns mainGlobals mg → mg d.name = some (.ref fa) →
      ∃ fd : FuncData, (∀ (s : Shared) (u : Value), BindsTo s fd ⟨[u], []⟩ [("_law_script", u)]) ∧ ∀ base : Heap, (K w.params).In base → base.Ns mainGlobals mg → FnOk l.prog w (K w.params) mg base CX0 15 fa fd ["_law_script"] (spLaw (K w.params))) :
    PySem.W.WalkO q loose XP YP l.row.toRowW d [] (fun f vs => PySem.call f vs) :=
  L2.walk_ofB (n := 63) (k := 15) (x := "_law_script") (CX := fun _ => CX0) (sp := fun w => spLaw (K w.params)) hn (by decide) hdf ⟨rfl, by decide, by decide⟩ hY F (fun _ _ a ns hl hb _ hS => ⟨a, ns, rfl, hS, hl, hb, fun _ => rfl⟩) fun _ _ _ _ _ z => z
end Toy
open PySem PySem.W PyProof.Rows in
set_option maxRecDepth 100000 in
set_option maxHeartbeats 0 in
theorem PySem.Challenge.cw_carrylog_k10_whole_domination_is_kept_holds : PySem.Challenge.rw_carrylog_k10_whole_domination_is_kept.Holds := by
  w_on; o_law; k_head; (case hw => w_witness2)
  k_fill
  refine Toy.walk (l := PySem.Challenge.rw_carrylog_k10_whole_domination_is_kept) rfl rfl (fun w h Y => PySem.W.kIn_of Y) ?F
  case F =>
    intro w mg fa h KX G hmg
    refine' Toy.all_mk KX G hmg ?T ?Z ?d0 ?d1 ?d2 ?d3 ?d4 ?d5 ?d6 ?d7 ?d8 ?d9 ?d10 ?d11 ?d12 ?d13 ?d14 ?d15 ?d16 ?d17 ?d18 ?d19 ?d20 ?d21 ?d22 ?d23 ?d24 ?d25 ?d26 ?d27 ?d28 ?d29 ?d30 ?d31 ?d32 ?d33 ?d34 ?d35 ?d36 ?d37 ?d38 ?d39
    case T =>
      constructor
      all_goals (refine PySem.W.mg_none_of KX G ?_; k_is)
    (case d0 => (refine' Gx.dfg_mk KX G ?zza ?zzl ?zzc ?zzk ?zzd ?zzq; (case zza => k_is); (case zzl => k_is); (case zzc => k_is); (case zzk => k_is); (case zzd => exact .inl ⟨rfl, rfl⟩); (case zzq => exact .inl rfl)))
    (case d1 => (refine' Gx.dfg_mk KX G ?zza ?zzl ?zzc ?zzk ?zzd ?zzq; (case zza => k_is); (case zzl => k_is); (case zzc => k_is); (case zzk => k_is); (case zzd => exact .inl ⟨rfl, rfl⟩); (case zzq => exact .inl rfl)))
    (case d2 => (refine' Gx.dfg_mk KX G ?zza ?zzl ?zzc ?zzk ?zzd ?zzq; (case zza => k_is); (case zzl => k_is); (case zzc => k_is); (case zzk => k_is); (case zzd => exact .inl ⟨rfl, rfl⟩); (case zzq => exact .inl rfl)))
    (case d3 => (refine' Gx.dfg_mk KX G ?zza ?zzl ?zzc ?zzk ?zzd ?zzq; (case zza => k_is); (case zzl => k_is); (case zzc => k_is); (case zzk => k_is); (case zzd => exact .inl ⟨rfl, rfl⟩); (case zzq => exact .inl rfl)))
    (case d4 => (refine' Gx.dfg_mk KX G ?zza ?zzl ?zzc ?zzk ?zzd ?zzq; (case zza => k_is); (case zzl => k_is); (case zzc => k_is); (case zzk => k_is); (case zzd => exact .inl ⟨rfl, rfl⟩); (case zzq => exact .inl rfl)))
    (case d5 => (refine' Gx.dfg_mk KX G ?zza ?zzl ?zzc ?zzk ?zzd ?zzq; (case zza => k_is); (case zzl => k_is); (case zzc => k_is); (case zzk => k_is); (case zzd => exact .inl ⟨rfl, rfl⟩); (case zzq => exact .inl rfl)))
    (case d6 => (refine' Gx.dfg_mk KX G ?zza ?zzl ?zzc ?zzk ?zzd ?zzq; (case zza => k_is); (case zzl => k_is); (case zzc => k_is); (case zzk => k_is); (case zzd => exact .inl ⟨rfl, rfl⟩); (case zzq => exact .inl rfl)))
    (case d7 => (refine' Gx.dfg_mk KX G ?zza ?zzl ?zzc ?zzk ?zzd ?zzq; (case zza => k_is); (case zzl => k_is); (case zzc => k_is); (case zzk => k_is); (case zzd => exact .inl ⟨rfl, rfl⟩); (case zzq => exact .inl rfl)))
    (case d8 => (refine' Gx.dfg_mk KX G ?zza ?zzl ?zzc ?zzk ?zzd ?zzq; (case zza => k_is); (case zzl => k_is); (case zzc => k_is); (case zzk => k_is); (case zzd => exact .inl ⟨rfl, rfl⟩); (case zzq => exact .inl rfl)))
    (case d9 => (refine' Gx.dfg_mk KX G ?zza ?zzl ?zzc ?zzk ?zzd ?zzq; (case zza => k_is); (case zzl => k_is); (case zzc => k_is); (case zzk => k_is); (case zzd => exact .inl ⟨rfl, rfl⟩); (case zzq => exact .inl rfl)))
    (case d10 => (refine' Gx.dfg_mk KX G ?zza ?zzl ?zzc ?zzk ?zzd ?zzq; (case zza => k_is); (case zzl => k_is); (case zzc => k_is); (case zzk => k_is); (case zzd => exact .inl ⟨rfl, rfl⟩); (case zzq => exact .inl rfl)))
    (case d11 => (refine' Gx.dfg_mk KX G ?zza ?zzl ?zzc ?zzk ?zzd ?zzq; (case zza => k_is); (case zzl => k_is); (case zzc => k_is); (case zzk => k_is); (case zzd => exact .inl ⟨rfl, rfl⟩); (case zzq => exact .inl rfl)))
    (case d12 => (refine' Gx.dfg_mk KX G ?zza ?zzl ?zzc ?zzk ?zzd ?zzq; (case zza => k_is); (case zzl => k_is); (case zzc => k_is); (case zzk => k_is); (case zzd => exact .inl ⟨rfl, rfl⟩); (case zzq => exact .inl rfl)))
    (case d13 => (refine' Gx.dfg_mk KX G ?zza ?zzl ?zzc ?zzk ?zzd ?zzq; (case zza => k_is); (case zzl => k_is); (case zzc => k_is); (case zzk => k_is); (case zzd => exact .inl ⟨rfl, rfl⟩); (case zzq => exact .inl rfl)))
    (case d14 => (refine' Gx.dfg_mk KX G ?zza ?zzl ?zzc ?zzk ?zzd ?zzq; (case zza => k_is); (case zzl => k_is); (case zzc => k_is); (case zzk => k_is); (case zzd => exact .inl ⟨rfl, rfl⟩); (case zzq => exact .inl rfl)))
    (case d15 => (refine' Gx.dfg_mk KX G ?zza ?zzl ?zzc ?zzk ?zzd ?zzq; (case zza => k_is); (case zzl => k_is); (case zzc => k_is); (case zzk => k_is); (case zzd => exact .inl ⟨rfl, rfl⟩); (case zzq => exact .inl rfl)))
    (case d16 => (refine' Gx.dfg_mk KX G ?zza ?zzl ?zzc ?zzk ?zzd ?zzq; (case zza => k_is); (case zzl => k_is); (case zzc => k_is); (case zzk => k_is); (case zzd => exact .inl ⟨rfl, rfl⟩); (case zzq => exact .inl rfl)))
    (case d17 => (refine' Gx.dfg_mk KX G ?zza ?zzl ?zzc ?zzk ?zzd ?zzq; (case zza => k_is); (case zzl => k_is); (case zzc => k_is); (case zzk => k_is); (case zzd => (refine' Gx.dfl1 ?zzla ?zzlv0; (case zzla => k_is); (case zzlv0 => exact ⟨_, rfl⟩))); (case zzq => exact .inl rfl)))
    (case d18 => (refine' Gx.dfg_mk KX G ?zza ?zzl ?zzc ?zzk ?zzd ?zzq; (case zza => k_is); (case zzl => k_is); (case zzc => k_is); (case zzk => k_is); (case zzd => exact .inl ⟨rfl, rfl⟩); (case zzq => (refine .inr ⟨_, rfl, ?_⟩; intro q hq; rcases List.mem_cons.mp hq with rfl | hq; exact ⟨_, by k_is, rfl⟩; cases hq))))
    (case d19 => (refine' Gx.dfg_mk KX G ?zza ?zzl ?zzc ?zzk ?zzd ?zzq; (case zza => k_is); (case zzl => k_is); (case zzc => k_is); (case zzk => k_is); (case zzd => exact .inl ⟨rfl, rfl⟩); (case zzq => exact .inl rfl)))
    (case d20 => (refine' Gx.dfg_mk KX G ?zza ?zzl ?zzc ?zzk ?zzd ?zzq; (case zza => k_is); (case zzl => k_is); (case zzc => k_is); (case zzk => k_is); (case zzd => exact .inl ⟨rfl, rfl⟩); (case zzq => exact .inl rfl)))
    (case d21 => (refine' Gx.dfg_mk KX G ?zza ?zzl ?zzc ?zzk ?zzd ?zzq; (case zza => k_is); (case zzl => k_is); (case zzc => k_is); (case zzk => k_is); (case zzd => exact .inl ⟨rfl, rfl⟩); (case zzq => exact .inl rfl)))
    (case d22 => (refine' Gx.dfg_mk KX G ?zza ?zzl ?zzc ?zzk ?zzd ?zzq; (case zza => k_is); (case zzl => k_is); (case zzc => k_is); (case zzk => k_is); (case zzd => exact .inl ⟨rfl, rfl⟩); (case zzq => exact .inl rfl)))
    (case d23 => (refine' Gx.dfg_mk KX G ?zza ?zzl ?zzc ?zzk ?zzd ?zzq; (case zza => k_is); (case zzl => k_is); (case zzc => k_is); (case zzk => k_is); (case zzd => exact .inl ⟨rfl, rfl⟩); (case zzq => exact .inl rfl)))
    (case d24 => (refine' Gx.dfg_mk KX G ?zza ?zzl ?zzc ?zzk ?zzd ?zzq; (case zza => k_is); (case zzl => k_is); (case zzc => k_is); (case zzk => k_is); (case zzd => exact .inl ⟨rfl, rfl⟩); (case zzq => exact .inl rfl)))
    (case d25 => (refine' Gx.dfg_mk KX G ?zza ?zzl ?zzc ?zzk ?zzd ?zzq; (case zza => k_is); (case zzl => k_is); (case zzc => k_is); (case zzk => k_is); (case zzd => exact .inl ⟨rfl, rfl⟩); (case zzq => exact .inl rfl)))
    (case d26 => (refine' Gx.dfg_mk KX G ?zza ?zzl ?zzc ?zzk ?zzd ?zzq; (case zza => k_is); (case zzl => k_is); (case zzc => k_is); (case zzk => k_is); (case zzd => exact .inl ⟨rfl, rfl⟩); (case zzq => exact .inl rfl)))
    (case d27 => (refine' Gx.dfg_mk KX G ?zza ?zzl ?zzc ?zzk ?zzd ?zzq; (case zza => k_is); (case zzl => k_is); (case zzc => k_is); (case zzk => k_is); (case zzd => exact .inl ⟨rfl, rfl⟩); (case zzq => exact .inl rfl)))
    (case d28 => (refine' Gx.dfg_mk KX G ?zza ?zzl ?zzc ?zzk ?zzd ?zzq; (case zza => k_is); (case zzl => k_is); (case zzc => k_is); (case zzk => k_is); (case zzd => exact .inl ⟨rfl, rfl⟩); (case zzq => exact .inl rfl)))
    (case d29 => (refine' Gx.dfg_mk KX G ?zza ?zzl ?zzc ?zzk ?zzd ?zzq; (case zza => k_is); (case zzl => k_is); (case zzc => k_is); (case zzk => k_is); (case zzd => exact .inl ⟨rfl, rfl⟩); (case zzq => exact .inl rfl)))
    (case d30 => (refine' Gx.dfg_mk KX G ?zza ?zzl ?zzc ?zzk ?zzd ?zzq; (case zza => k_is); (case zzl => k_is); (case zzc => k_is); (case zzk => k_is); (case zzd => exact .inl ⟨rfl, rfl⟩); (case zzq => exact .inl rfl)))
    (case d31 => (refine' Gx.dfg_mk KX G ?zza ?zzl ?zzc ?zzk ?zzd ?zzq; (case zza => k_is); (case zzl => k_is); (case zzc => k_is); (case zzk => k_is); (case zzd => exact .inl ⟨rfl, rfl⟩); (case zzq => exact .inl rfl)))
    (case d32 => (refine' Gx.dfg_mk KX G ?zza ?zzl ?zzc ?zzk ?zzd ?zzq; (case zza => k_is); (case zzl => k_is); (case zzc => k_is); (case zzk => k_is); (case zzd => exact .inl ⟨rfl, rfl⟩); (case zzq => exact .inl rfl)))
    (case d33 => (refine' Gx.dfg_mk KX G ?zza ?zzl ?zzc ?zzk ?zzd ?zzq; (case zza => k_is); (case zzl => k_is); (case zzc => k_is); (case zzk => k_is); (case zzd => exact .inl ⟨rfl, rfl⟩); (case zzq => exact .inl rfl)))
    (case d34 => (refine' Gx.dfg_mk KX G ?zza ?zzl ?zzc ?zzk ?zzd ?zzq; (case zza => k_is); (case zzl => k_is); (case zzc => k_is); (case zzk => k_is); (case zzd => exact .inl ⟨rfl, rfl⟩); (case zzq => exact .inl rfl)))
    (case d35 => (refine' Gx.dfg_mk KX G ?zza ?zzl ?zzc ?zzk ?zzd ?zzq; (case zza => k_is); (case zzl => k_is); (case zzc => k_is); (case zzk => k_is); (case zzd => exact .inl ⟨rfl, rfl⟩); (case zzq => exact .inl rfl)))
    (case d36 => (refine' Gx.dfg_mk KX G ?zza ?zzl ?zzc ?zzk ?zzd ?zzq; (case zza => k_is); (case zzl => k_is); (case zzc => k_is); (case zzk => k_is); (case zzd => exact .inl ⟨rfl, rfl⟩); (case zzq => exact .inl rfl)))
    (case d37 => (refine' Gx.dfg_mk KX G ?zza ?zzl ?zzc ?zzk ?zzd ?zzq; (case zza => k_is); (case zzl => k_is); (case zzc => k_is); (case zzk => k_is); (case zzd => exact .inl ⟨rfl, rfl⟩); (case zzq => exact .inl rfl)))
    (case d38 => (refine' Gx.dfg_mk KX G ?zza ?zzl ?zzc ?zzk ?zzd ?zzq; (case zza => k_is); (case zzl => k_is); (case zzc => k_is); (case zzk => k_is); (case zzd => exact .inl ⟨rfl, rfl⟩); (case zzq => exact .inl rfl)))
    (case d39 => (refine' Gx.dfg_mk KX G ?zza ?zzl ?zzc ?zzk ?zzd ?zzq; (case zza => k_is); (case zzl => k_is); (case zzc => k_is); (case zzk => k_is); (case zzd => exact .inl ⟨rfl, rfl⟩); (case zzq => exact .inl rfl)))
    case Z =>
      refine' ⟨?g_StoreError, ?g_InvalidInput, ?g_NoPlace, ?d_InvalidInput, ?xf_InvalidInput, ?xc_InvalidInput, ?em_InvalidInput_StoreError, ?kt_InvalidInput_StoreError, ?em_InvalidInput_InvalidInput, ?kt_InvalidInput_InvalidInput, ?em_InvalidInput_NoPlace, ?kt_InvalidInput_NoPlace, ?em_InvalidInput_ValueError, ?kt_InvalidInput_ValueError, ?d_NoPlace, ?xf_NoPlace, ?xc_NoPlace, ?em_NoPlace_StoreError, ?kt_NoPlace_StoreError, ?em_NoPlace_InvalidInput, ?kt_NoPlace_InvalidInput, ?em_NoPlace_NoPlace, ?kt_NoPlace_NoPlace, ?em_NoPlace_ValueError, ?kt_NoPlace_ValueError⟩
      case g_StoreError => exact PySem.W.mg_of KX G (by k_is)
      case g_InvalidInput => exact PySem.W.mg_of KX G (by k_is)
      case g_NoPlace => exact PySem.W.mg_of KX G (by k_is)
      case d_InvalidInput => (refine' Gx.exd_mk (sx := "StoreError") KX G ?zzaS ?zza ?zzxL ?zzhbm ?zzsa ?zzexC ?zztyC ?zzkC ?zzmro ?zzh1 ?zzh2 ?zzhm ?zzhf ?zzsub' ?zzhn ?zzfl ?zzi1 ?zzi2 ?zzlf ?zzcf ?zzlc ?zzhv ?zzhfile ?zzlcc ?zzns ?zztop ?zzop; (case zzaS => k_is); (case zza => k_is); (case zzxL => k_is); (case zzsa => k_is); (case zzexC => k_is); (case zztyC => k_is); (case zzkC => k_is); (case zzmro => k_is); (case zzh1 => k_is); (case zzh2 => k_is); (case zzhbm => decide +kernel); (case zzhm => exact rfl); (case zzhf => k_is); (case zzhn => exact rfl); (case zzsub' => k_is); (case zzfl => k_is); (case zzi1 => k_is); (case zzi2 => k_is); (case zzlf => k_is); (case zzcf => k_is); (case zzlc => k_is); (case zzlcc => k_is); (case zzns => k_is); (case zzop => k_is); (case zzhv => exact rfl); (case zzhfile => exact rfl); (case zztop => exact rfl))
      case xf_InvalidInput => (constructor <;> k_is)
      case xc_InvalidInput => (constructor <;> k_is)
      case em_InvalidInput_StoreError => (refine' Gx.exm_of ?zza ?zzb ?zzc ?zzd; (case zza => k_is); (case zzb => k_is); (case zzc => k_is); (case zzd => k_is))
      case kt_InvalidInput_StoreError => (refine' Gx.kit_ne ?zza ?zzb ?zzc ?zzd; (case zza => exact rfl); (case zzb => k_is); (case zzc => k_is); (case zzd => k_is))
      case em_InvalidInput_InvalidInput => (refine' Gx.exm_of ?zza ?zzb ?zzc ?zzd; (case zza => k_is); (case zzb => k_is); (case zzc => k_is); (case zzd => k_is))
      case kt_InvalidInput_InvalidInput => exact Gx.kit_same
      case em_InvalidInput_NoPlace => (refine' Gx.exm_of ?zza ?zzb ?zzc ?zzd; (case zza => k_is); (case zzb => k_is); (case zzc => k_is); (case zzd => k_is))
      case kt_InvalidInput_NoPlace => (refine' Gx.kit_ne ?zza ?zzb ?zzc ?zzd; (case zza => exact rfl); (case zzb => k_is); (case zzc => k_is); (case zzd => k_is))
      case em_InvalidInput_ValueError => (refine' Gx.exm_tyB ?zza ?zzb ?zzd; (case zza => decide +kernel); (case zzb => k_is); (case zzd => k_is))
      case kt_InvalidInput_ValueError => (refine' Gx.kit_tyB ?zza ?zzd; (case zza => decide +kernel); (case zzd => k_is))
      case d_NoPlace => (refine' Gx.exd_mk (sx := "StoreError") KX G ?zzaS ?zza ?zzxL ?zzhbm ?zzsa ?zzexC ?zztyC ?zzkC ?zzmro ?zzh1 ?zzh2 ?zzhm ?zzhf ?zzsub' ?zzhn ?zzfl ?zzi1 ?zzi2 ?zzlf ?zzcf ?zzlc ?zzhv ?zzhfile ?zzlcc ?zzns ?zztop ?zzop; (case zzaS => k_is); (case zza => k_is); (case zzxL => k_is); (case zzsa => k_is); (case zzexC => k_is); (case zztyC => k_is); (case zzkC => k_is); (case zzmro => k_is); (case zzh1 => k_is); (case zzh2 => k_is); (case zzhbm => decide +kernel); (case zzhm => exact rfl); (case zzhf => k_is); (case zzhn => exact rfl); (case zzsub' => k_is); (case zzfl => k_is); (case zzi1 => k_is); (case zzi2 => k_is); (case zzlf => k_is); (case zzcf => k_is); (case zzlc => k_is); (case zzlcc => k_is); (case zzns => k_is); (case zzop => k_is); (case zzhv => exact rfl); (case zzhfile => exact rfl); (case zztop => exact rfl))
      case xf_NoPlace => (constructor <;> k_is)
      case xc_NoPlace => (constructor <;> k_is)
      case em_NoPlace_StoreError => (refine' Gx.exm_of ?zza ?zzb ?zzc ?zzd; (case zza => k_is); (case zzb => k_is); (case zzc => k_is); (case zzd => k_is))
      case kt_NoPlace_StoreError => (refine' Gx.kit_ne ?zza ?zzb ?zzc ?zzd; (case zza => exact rfl); (case zzb => k_is); (case zzc => k_is); (case zzd => k_is))
      case em_NoPlace_InvalidInput => (refine' Gx.exm_of ?zza ?zzb ?zzc ?zzd; (case zza => k_is); (case zzb => k_is); (case zzc => k_is); (case zzd => k_is))
      case kt_NoPlace_InvalidInput => (refine' Gx.kit_ne ?zza ?zzb ?zzc ?zzd; (case zza => exact rfl); (case zzb => k_is); (case zzc => k_is); (case zzd => k_is))
      case em_NoPlace_NoPlace => (refine' Gx.exm_of ?zza ?zzb ?zzc ?zzd; (case zza => k_is); (case zzb => k_is); (case zzc => k_is); (case zzd => k_is))
      case kt_NoPlace_NoPlace => exact Gx.kit_same
      case em_NoPlace_ValueError => (refine' Gx.exm_tyB ?zza ?zzb ?zzd; (case zza => decide +kernel); (case zzb => k_is); (case zzd => k_is))
      case kt_NoPlace_ValueError => (refine' Gx.kit_tyB ?zza ?zzd; (case zza => decide +kernel); (case zzd => k_is))
#print axioms PySem.Challenge.cw_carrylog_k10_whole_domination_is_kept_holds

