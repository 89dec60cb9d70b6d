import PyProof.Rows.All
import Wide.All
import OpenK.AllK
import Wide.FinOn
import HandS.ForMost
import HandS.Wide
import HandS.WideBits
import HandS.IsInst
import HandS.StrMore
import HandS.TupAny
import HandS.EndBits
import PyProof.StrOps2
import HandS.Style
import HandS.Iter
import HandS.Comp
import HandS.Zip
import HandS.Codes
import KE.GoesMore
import PyProof.EnumMake
import PyProof.Draws
import HandS.Defaults
import HandS.MakeKwOnly
import PySem.Challenge.RW_carrylog_k09_dominates_is_an_order
set_option Elab.async false
set_option linter.all false
set_option maxRecDepth 100000
set_option maxHeartbeats 2000000
/-! Gx: short words over the hand layer: callable defs by name (Df, Cl), operators by the values' kinds, steps of a reading (g_..), heaps that only grow (Ex, ExB). -/
namespace Gx
open PySem PySem.Spec PyProof.Rows L2

/-- n times the text z -/
def repS (z : Str) (n : Nat) : Str := ⟨((List.replicate n z.cps.toList).flatten).toArray⟩
theorem foldl_app (l : List (Array Nat)) : ∀ a : Array Nat, (l.foldl (· ++ ·) a).toList = a.toList ++ (l.map Array.toList).flatten := by
  induction l with
  | nil => intro a; simp
  | cons x r ih => intro a; rw [List.foldl_cons, ih]; simp
theorem repS_fold (z : Str) (n : Nat) : (⟨(List.replicate n z.cps).foldl (· ++ ·) #[]⟩ : Str) = repS z n := by
  unfold repS
  congr 1
  apply Array.toList_inj.mp
  rw [foldl_app]
  simp
theorem repS_one (z : Str) : repS z 1 = z := by
  unfold repS
  simp
theorem repS_nil (z : Str) (n : Nat) (h : z.length = 0) : repS z n = z := by
  obtain ⟨a⟩ := z
  have h' : a = #[] := Array.size_eq_zero_iff.mp h
  subst h'
  unfold repS
  simp
theorem repS_zero (z : Str) : repS z 0 = Str.empty := by
  unfold repS
  simp
  rfl
theorem repS_length (z : Str) (n : Nat) : (repS z n).length = z.length * n := by
  unfold repS Str.length
  simp [Nat.mul_comm]
section
variable {P : Program} {w : World} {K : PySem.W.Frag} {mg : Str → Option Value} {base : Heap}
/-- the def x of the text st as the top left it -/
structure Df (K : PySem.W.Frag) (mg : Str → Option Value) (x : Str) (st : Stmt) (ps : List Str) : Prop where
  ex : ∃ (f : Addr) (fd : FuncData), mg x = some (.ref f) ∧ Fun K x x st f fd ∧ ∀ us : List Value, us.length = ps.length → bindArgs fd ⟨us, []⟩ = pure (ps.zip us)
/-- the def x may be called -/
structure Cl (P : Program) (w : World) (K : PySem.W.Frag) (mg : Str → Option Value) (base : Heap) (k : Nat) (x : Str) (ps : List Str) (sp : Sp) : Prop where
  ex : ∃ (f : Addr) (fd : FuncData), mg x = some (.ref f) ∧ PySem.W.keepIn K (.ref f) = true ∧ (∀ us : List Value, us.length = ps.length → bindArgs fd ⟨us, []⟩ = pure (ps.zip us)) ∧ FnOk P w K mg base CX0 k f fd ps sp
theorem df_mk {h : Heap} {x : Str} {st : Stmt} {ps : List Str} {f : Addr} {oc : Value} {od an : Option Addr} {osl : Array (Option Value)} {kV doc pm cdv ct : Value} (X : K.In h) (G : h.Ns mainGlobals mg)
    (a : PySem.W.nsIn K mainGlobals x = some (some (.ref f))) (l : K.lookup f = some ⟨oc, od, .func (PySem.W.fnOf x x (defArgs st) (defBody st) (defScope st) .none kV doc pm an cdv ct), osl⟩)
    (c : PySem.W.codeIn K cdv x = true) (k : PySem.W.keepIn K (.ref f) = true)
    (b : ∀ us : List Value, us.length = ps.length → bindArgs (PySem.W.fnOf x x (defArgs st) (defBody st) (defScope st) .none kV doc pm an cdv ct) ⟨us, []⟩ = pure (ps.zip us)) : Df K mg x st ps :=
  ⟨f, _, PySem.W.mg_of X G a, fun_mk l c k, b⟩
theorem Df.ok {x : Str} {st : Stmt} {N ps : List Str} {k : Nat} {sp : Sp} (D : Df K mg x st ps) (S : FnScope N ps (defScope st)) (len : ∀ vs H Q E, sp vs H Q E → vs.length = ps.length)
    (hbody : ∀ (f : Addr) (cdv : Value) (A : Around) (outer : List Env) (s : Shared) (H : Hp) (vs : List V) (Q : VK) (E : XK), Room k (A.deeper (envOfC x (defScope st) s.heap.objs.size f cdv)) → sp vs H Q E →
      ∃ t, PSs (cxOf CX0 P w K mg base N x (defScope st) f cdv A outer s H E).nox (defBody st) t ∧ t { nx := fun _ H' => Q .non H', rt := Q } (start N vs) H) : Cl P w K mg base (k + 1) x ps sp := by
  obtain ⟨f, fd, h1, h2, h3⟩ := D.ex
  exact ⟨f, fd, h1, h2.kp, h3, h2.ok S len fun cdv A outer s H vs Q E hr h => hbody f cdv A outer s H vs Q E hr h⟩
theorem Cl.mono {x : Str} {ps : List Str} {j k : Nat} {sp : Sp} (C : Cl P w K mg base j x ps sp) (h : j ≤ k) : Cl P w K mg base k x ps sp := by
  obtain ⟨f, fd, h1, h2, h3, h4⟩ := C.ex
  exact ⟨f, fd, h1, h2, h3, h4.mono h⟩
end

section
variable {X : Cx} {x : Str} {p pos : Pos} {e a b : Expr} {es : List Expr} {t : TA} {ta tb : TE} {k : Nat} {ps : List Str} {sp : Sp}
theorem pe_cl (C : Cl X.prog X.w X.K X.mg X.base k x ps sp) (hr : Room k X.A) (ha : PA X (e :: es) t) (hg : Gl X x := by rfl) (hdb : (x == ("__debug__" : Str)) = false := by decide)
    (he : starEach (e :: es) X.env = (false, eval e X.env) :: starEach es X.env := by rfl) (hpl : (backTo pos (starEach es X.env)).any (·.1) = false := by rfl) :
    PE X (.Call (.Name x p) (e :: es) [] pos) (tCall sp [] E0 t) := by
  obtain ⟨f, fd, h1, h2, h3, h4⟩ := C.ex
  exact pe_call h4 hr hg h1 h2 (Binds.all h3) .nil pass0 ha hdb he hpl
theorem pe_cl0 (C : Cl X.prog X.w X.K X.mg X.base k x ps sp) (hr : Room k X.A) (hg : Gl X x := by rfl) (hdb : (x == ("__debug__" : Str)) = false := by decide) :
    PE X (.Call (.Name x p) [] [] pos) (tCall sp [] E0 tNil) := by
  obtain ⟨f, fd, h1, h2, h3, h4⟩ := C.ex
  exact pe_call0 h4 hr hg h1 h2 (Binds.all h3) .nil pass0 hdb
end


/-! ### keyword-only parameters -/
section
variable {P : Program} {w : World} {K : PySem.W.Frag} {mg : Str → Option Value} {base : Heap}
structure DfK (K : PySem.W.Frag) (mg : Str → Option Value) (x : Str) (st : Stmt) (kws : List (Str × V)) : Prop where
  ex : ∃ (f : Addr) (fd : FuncData), mg x = some (.ref f) ∧ FunD K x x (defArgs st) (defBody st) (defScope st) [] kws f fd
structure ClK (P : Program) (w : World) (K : PySem.W.Frag) (mg : Str → Option Value) (base : Heap) (k : Nat) (x : Str) (st : Stmt) (ps : List Str) (kws : List (Str × V)) (sp : Sp) : Prop where
  ex : ∃ (f : Addr) (fd : FuncData), mg x = some (.ref f) ∧ FunD K x x (defArgs st) (defBody st) (defScope st) [] kws f fd ∧ FnOk P w K mg base CX0 k f fd ps sp
theorem dfk_mk {h : Heap} {x : Str} {st : Stmt} {f D : Addr} {oc : Value} {od an : Option Addr} {osl : Array (Option Value)} {doc pm cdv ct : Value} {kws : List (Str × V)} (X : K.In h) (G : h.Ns mainGlobals mg)
    (a : PySem.W.nsIn K mainGlobals x = some (some (.ref f))) (l : K.lookup f = some ⟨oc, od, .func (PySem.W.fnOf x x (defArgs st) (defBody st) (defScope st) .none (.ref D) doc pm an cdv ct), osl⟩)
    (c : PySem.W.codeIn K cdv x = true) (k : PySem.W.keepIn K (.ref f) = true) (d : ∀ q ∈ kws, ∃ u, PySem.W.nsIn K D q.1 = some (some u) ∧ RelV q.2 u) : DfK K mg x st kws :=
  ⟨f, _, PySem.W.mg_of X G a, ⟨⟨oc, od, .none, .ref D, doc, pm, an, cdv, ct, osl, rfl, l, c, .inl ⟨rfl, rfl⟩, .inr ⟨D, rfl, d⟩⟩, k⟩⟩
theorem DfK.ok {x : Str} {st : Stmt} {N ps : List Str} {kws : List (Str × V)} {k : Nat} {sp : Sp} (D : DfK K mg x st kws) (S : FnScope N ps (defScope st)) (len : ∀ vs H Q E, sp vs H Q E → vs.length = ps.length)
    (hbody : ∀ (f : Addr) (cdv : Value) (A : Around) (outer : List Env) (s : Shared) (H : Hp) (vs : List V) (Q : VK) (E : XK), Room k (A.deeper (envOfC x (defScope st) s.heap.objs.size f cdv)) → sp vs H Q E →
      ∃ t, PSs (cxOf CX0 P w K mg base N x (defScope st) f cdv A outer s H E).nox (defBody st) t ∧ t { nx := fun _ H' => Q .non H', rt := Q } (start N vs) H) : ClK P w K mg base (k + 1) x st ps kws sp := by
  obtain ⟨f, fd, h1, h2⟩ := D.ex
  exact ⟨f, fd, h1, h2, h2.ok S len fun cdv A outer s H vs Q E hr h => by
    obtain ⟨t, a, b⟩ := hbody f cdv A outer s H vs Q E hr h
    exact ⟨t, a.nox, b⟩⟩
end
section
variable {X : Cx} {x : Str} {p pos : Pos} {e : Expr} {es : List Expr} {kw : List Keyword} {t tk : TA} {k : Nat} {ps : List Str} {sp : Sp} {st : Stmt} {kws : List (Str × V)}
theorem pe_clk0 (C : ClK X.prog X.w X.K X.mg X.base k x st ps kws sp) (hr : Room k X.A) (n : Nat) (hk : kws ≠ []) (hn : n + kws.length = ps.length)
    (h : ∀ (D : Addr) (doc pm : Value) (an : Option Addr) (cdv ct : Value) (us ks : List Value), us.length = n → ks.length = kws.length →
      KwChain D ((kws.map (·.1)).zip ks) (bindArgs (PySem.W.fnOf x x (defArgs st) (defBody st) (defScope st) .none (.ref D) doc pm an cdv ct) ⟨us, []⟩) (ps.zip (us ++ ks)))
    (ha : PA X (e :: es) t) (hg : Gl X x := by rfl) (hdb : (x == ("__debug__" : Str)) = false := by decide)
    (he : starEach (e :: es) X.env = (false, eval e X.env) :: starEach es X.env := by rfl) (hpl : (backTo pos (starEach es X.env)).any (·.1) = false := by rfl) :
    PE X (.Call (.Name x p) (e :: es) [] pos) (tCall sp (kws.map (·.2)) E0 t) := by
  obtain ⟨f, fd, h1, h2, h4⟩ := C.ex
  obtain ⟨ds, r, b⟩ := h2.binds0 n hk hn h
  exact pe_call h4 hr hg h1 h2.kp b r pass0 ha hdb he hpl
theorem pe_clk (C : ClK X.prog X.w X.K X.mg X.base k x st ps kws sp) (hr : Room k X.A) (n : Nat) (ks : List Str) (ms : List (Str × V)) (g : {α : Type} → List α → List α → List α → List α) (hk : kws ≠ []) (hms : ∀ q ∈ ms, q ∈ kws)
    (hrel : ∀ {vs mz zs : List V} {us mv ws : List Value}, Vals vs us → Vals mz mv → Vals zs ws → Vals (g vs mz zs) (g us mv ws))
    (h : ∀ (D : Addr) (doc pm : Value) (an : Option Addr) (cdv ct : Value) (us mv ws : List Value), us.length = n → mv.length = ms.length → ws.length = ks.length →
      KwChain D ((ms.map (·.1)).zip mv) (bindArgs (PySem.W.fnOf x x (defArgs st) (defBody st) (defScope st) .none (.ref D) doc pm an cdv ct) ⟨us, ks.zip ws⟩) (ps.zip (g us mv ws)))
    (ha : PA X (e :: es) t) (hkw : PK X kw tk) (hg : Gl X x := by rfl) (hall : (backToKw pos (keywordEach kw X.env)).all (·.1.isSome) = true := by rfl) (hks : (backToKw pos (keywordEach kw X.env)).filterMap (·.1) = ks := by rfl)
    (hdb : (x == ("__debug__" : Str)) = false := by decide) (he : starEach (e :: es) X.env = (false, eval e X.env) :: starEach es X.env := by rfl)
    (hpl : ((backTo pos (starEach (e :: es) X.env)).any (·.1) || (backToKw pos (keywordEach kw X.env)).any (·.1.isNone)) = false := by rfl) :
    PE X (.Call (.Name x p) (e :: es) kw pos) (tCallN n ks.length sp (fun vs zs => g vs (ms.map (·.2)) zs) E0 t tk) := by
  obtain ⟨f, fd, h1, h2, h4⟩ := C.ex
  obtain ⟨mv, b⟩ := h2.kbinds0 n ks ms g hk hms hrel h
  exact pe_callN h4 hr hg h1 h2.kp b pass0 ha hkw hall hks hdb he hpl
end

/-! ### operators by the kinds of the values -/
section
variable {X : Cx}
def rRepS : R2 := fun x y H Q => ∃ (z : Str) (n : Int), x = .str z ∧ y = .int n ∧ (n < 2 ^ 40 ∧ -(2 ^ 40) ≤ n ∧ z.length * n.toNat ≤ 100000) ∧ Q (.str (repS z n.toNat)) H
theorem op_repS : OpR X (binaryOp .Mult) rRepS := by
  intro pins s σ H x y v u Q I rx ry h
  obtain ⟨z, n, rfl, rfl, ⟨h1, h2, h3⟩, q⟩ := h
  obtain ⟨t, rfl⟩ := rx
  obtain ⟨t', rfl⟩ := ry
  have hs : sizeLine = 16777216 := sizeLine_eq
  have hz : Builtin.Str.tooLong (z.length * n.toNat) = false := by
    unfold Builtin.Str.tooLong
    exact decide_eq_false (by omega)
  refine PySem.P.mul_str ?_ (fun h4 h5 => ?_) (fun _ _ => hz) ?_
  · rw [decide_eq_false (by omega), decide_eq_false (by omega)]; rfl
  · intro h6
    have h7 : 0 < n := by omega
    have h8 : ((z.length : Int)) * n ≤ 100000 := by
      have : ((z.length * n.toNat : Nat) : Int) ≤ 100000 := by omega
      rw [Int.natCast_mul, Int.toNat_of_nonneg (by omega)] at this
      exact this
    have h9 : ((2 ^ 63 - 1 : Int) / n + 1) ≤ (z.length : Int) := by omega
    have ha : ((2 ^ 63 - 1 : Int) / n + 1) * n ≤ (z.length : Int) * n := Int.mul_le_mul_of_nonneg_right h9 (by omega)
    have hb : (2 ^ 63 - 1 : Int) < ((2 ^ 63 - 1 : Int) / n + 1) * n := Int.lt_ediv_add_one_mul_self _ h7
    omega
  · by_cases h4 : n < 1
    · rw [if_pos h4]
      refine ⟨by decide, .str Str.empty, H, I.tok _, ⟨_, rfl⟩, ?_⟩
      have e : n.toNat = 0 := by omega
      rw [e, repS_zero] at q
      exact q
    · rw [if_neg h4]
      by_cases h5 : (n == 1 || z.length == 0) = true
      · rw [if_pos h5]
        refine ⟨.str z, H, I, ⟨_, rfl⟩, ?_⟩
        have e : repS z n.toNat = z := by
          rw [Bool.or_eq_true] at h5
          rcases h5 with h5 | h5
          · have e : n.toNat = 1 := by
              have := beq_iff_eq.mp h5
              omega
            rw [e, repS_one]
          · exact repS_nil _ _ (beq_iff_eq.mp h5)
        rw [e] at q
        exact q
      · rw [if_neg h5, repS_fold]
        refine ⟨by rw [repS_length]; omega, .str _, H, I.tok _, ⟨_, rfl⟩, q⟩
end
def rAdd (K : PySem.W.Frag) : R2 := fun x y H Q => rI0 (fun i j => .int (i + j)) x y H Q ∨ (∃ i j, x = .str i ∧ y = .str j ∧ i.length + j.length ≤ sizeLine ∧ Q (.str (i ++ j)) H) ∨ rCat x y H Q ∨ rCatA K x y H Q
def rMul (K : PySem.W.Frag) : R2 := fun x y H Q => rI CMul (fun i j => .int (i * j)) x y H Q ∨ rI CMulX (fun i j => .int (i * j)) x y H Q ∨ rRepS x y H Q ∨ rRep x y H Q
def rSub : R2 := rI0 fun i j => .int (i - j)
def rMod : R2 := rI (fun _ j => 0 < j) fun i j => .int (i % j)
def rDiv : R2 := rI CDivW fun i j => .int (i / j)
def rPow : R2 := rI CPow fun i j => .int (i ^ j.toNat)
def rEqX (K : PySem.W.Frag) : R2 := fun x y H Q => rEq x y H Q ∨ rEqD K x y H Q
def rNeX (K : PySem.W.Frag) : R2 := fun x y H Q => rNe x y H Q ∨ rNeD K x y H Q
def rLt : R2 := rI0 fun i j => .bl (decide (i < j))
def rLe : R2 := rI0 fun i j => .bl (decide (i ≤ j))
def rGt : R2 := rI0 fun i j => .bl (decide (j < i))
def rGe : R2 := rI0 fun i j => .bl (decide (j ≤ i))
def rIsN : R2 := fun x y H Q => y = .non ∧ Q (.bl (decide (x = .non))) H
def rNotN : R2 := fun x y H Q => y = .non ∧ Q (.bl (!decide (x = .non))) H
section
variable {X : Cx}
theorem opAdd : OpR X (binaryOp .Add) (rAdd X.K) := op_add.or (op_add_str.or (op_cat.or op_catA))
theorem opMul : OpR X (binaryOp .Mult) (rMul X.K) := op_mul.or (op_mulX.or (op_repS.or op_rep))
theorem opSub : OpR X (binaryOp .Sub) rSub := op_sub
theorem opMod : OpR X (binaryOp .Mod) rMod := op_mod
theorem opDiv : OpR X (binaryOp .FloorDiv) rDiv := op_fdivW
theorem opPow : OpR X (binaryOp .Pow) rPow := op_pow
theorem opEq (hu : X.A.units + 64 < cLine) : OpR X (compareOp .Eq) (rEqX X.K) := op_eq.or (op_eqD hu)
theorem opNe (hu : X.A.units + 64 < cLine) : OpR X (compareOp .NotEq) (rNeX X.K) := op_ne.or (op_neD hu)
theorem opLt : OpR X (compareOp .Lt) rLt := op_lt
theorem opLe : OpR X (compareOp .LtE) rLe := op_le
theorem opGt : OpR X (compareOp .Gt) rGt := op_gt
theorem opGe : OpR X (compareOp .GtE) rGe := op_ge
theorem opIsN : OpR X (compareOp .Is) rIsN := op_isN
theorem opNotN : OpR X (compareOp .IsNot) rNotN := op_notN
def rInt : List V → Hp → VK → Prop := fun xs H Q => (∃ i, xs = [.int i] ∧ Q (.int i) H) ∨ ∃ k, xs = [.bl k] ∧ Q (.int (if k then 1 else 0)) H
def rAbs : List V → Hp → VK → Prop := fun xs H Q => ∃ i, xs = [.int i] ∧ Q (.int (if i < 0 then -i else i)) H
def rMax2 : List V → Hp → VK → Prop := fun xs H Q => ∃ i j, xs = [.int i, .int j] ∧ Q (.int (if j > i then j else i)) H
def rMin2 : List V → Hp → VK → Prop := fun xs H Q => ∃ i j, xs = [.int i, .int j] ∧ Q (.int (if j < i then j else i)) H
def rLen (K : PySem.W.Frag) : List V → Hp → VK → Prop := fun xs H Q => ∃ x n, xs = [x] ∧ LenV K x H n ∧ Q (.int n) H
def rListOf (K : PySem.W.Frag) : List V → Hp → VK → Prop := fun xs H Q => ∃ p ys, xs = [.ref p] ∧ (SqL K H p ys ∨ SqT K H p ys) ∧ ∀ l, H l = none → Q (.ref l) (upd H l (.lst ys))
def rStr : List V → Hp → VK → Prop := fun xs H Q => ∃ i, xs = [.int i] ∧ i.natAbs.log2 < 1920 ∧ Q (.str (toString i)) H
theorem callStr : CallR X (.type "str") rStr := call_str_int
theorem callInt : CallR X (.type "int") rInt := call_int1
theorem callAbs : CallR X (.builtin "abs") rAbs := call_abs
theorem callMax2 (hc : X.calm = true) : CallR X (.builtin "max") rMax2 := call_max2 hc
theorem callMin2 (hc : X.calm = true) : CallR X (.builtin "min") rMin2 := call_min2 hc
theorem callLen : CallR X (.builtin "len") (rLen X.K) := call_len
theorem callListOf : CallR X (.type "list") (rListOf X.K) := call_list_of
def rSlX (K : PySem.W.Frag) : V → Option Int → Option Int → Hp → VK → Prop := fun x lo hi H Q => rSlL K x lo hi H Q ∨ rSlS x lo hi H Q ∨ rSlA K x lo hi H Q
theorem slAny : SlR X (rSlX X.K) := sl_list.or (sl_str.or sl_tupA)
theorem hu64 {A : Around} {k : Nat} (hr : Room k A) : A.units + 64 < cLine := by
  have := hr.un
  omega
end

/-- the built-in names are not the module's own -/
structure Bl (mg : Str → Option Value) : Prop where
  abs : mg "abs" = none
  all : mg "all" = none
  any : mg "any" = none
  bool : mg "bool" = none
  dict : mg "dict" = none
  divmod : mg "divmod" = none
  enumerate : mg "enumerate" = none
  int : mg "int" = none
  isinstance : mg "isinstance" = none
  len : mg "len" = none
  list : mg "list" = none
  max : mg "max" = none
  min : mg "min" = none
  range : mg "range" = none
  repr : mg "repr" = none
  reversed : mg "reversed" = none
  sorted : mg "sorted" = none
  str : mg "str" = none
  sum : mg "sum" = none
  tuple : mg "tuple" = none
  zip : mg "zip" = none
  ValueError' : mg "ValueError" = none

/-! ### heaps -/
/-- what stood stands, but for what is in bs -/
class Chg (bs : outParam (List Addr)) (H : outParam Hp) (H' : Hp) : Prop where
  keep : ∀ a o, a ∉ bs → H a = some o → H' a = some o
  live : ∀ a, H' a = none → H a = none
abbrev Ex (H : Hp) (H' : Hp) : Prop := Chg [] H H'
abbrev ExB (b : Addr) (H : Hp) (H' : Hp) : Prop := Chg [b] H H'
class Nw (H : outParam Hp) (p : Addr) : Prop where
  eq : H p = none
class At (H : Hp) (p : Addr) (o : outParam HO) : Prop where
  eq : H p = some o
class Live (H : Hp) (p : Addr) : Prop where
  ex : ∃ o, H p = some o
class NeC (p q : Addr) : Prop where
  ne : p ≠ q
class NotIn (p : Addr) (bs : List Addr) : Prop where
  out : p ∉ bs
class Anc (H H' : Hp) : Prop where
  none : ∀ a, H' a = none → H a = none
class Nu (H : Hp) (p : Addr) : Prop where
  eq : H p = none
class InNew (c : Addr) (bs : List Addr) (H : Hp) : Prop where
  or : c ∈ bs ∨ H c = none
class SubC (cs bs : List Addr) (H : Hp) : Prop where
  sub : ∀ c ∈ cs, c ∈ bs ∨ H c = none
class RelC (bs : List Addr) (H H' : Hp) : Prop where
  keep : ∀ a o, a ∉ bs → H a = some o → H' a = some o
class SqC (K : PySem.W.Frag) (H : Hp) (p : Addr) (xs : outParam (List V)) : Prop where
  sq : SqL K H p xs
class StC (K : PySem.W.Frag) (H : Hp) (p : Addr) (xs : outParam (List V)) : Prop where
  st : SqT K H p xs
section
variable {H H' H1 H0 : Hp} {p q b c : Addr} {o : HO} {bs cs : List Addr} {K : PySem.W.Frag} {xs : List V}
instance : NotIn p [] := ⟨by simp⟩
instance [h : NeC p b] [k : NotIn p bs] : NotIn p (b :: bs) := ⟨by
  intro e
  rcases List.mem_cons.mp e with e | e
  · exact h.ne e
  · exact k.out e⟩
instance (priority := low) atStep [r : Chg cs H1 H] [n : NotIn p cs] [h : At H1 p o] : At H p o := ⟨r.keep p o n.out h.eq⟩
instance ancRefl : Anc H H := ⟨fun _ h => h⟩
instance (priority := low) ancStep [r : Chg cs H1 H'] [k : Anc H H1] : Anc H H' := ⟨fun a h => k.none a (r.live a h)⟩
instance nuOf [n : Nw H1 p] [k : Anc H H1] : Nu H p := ⟨k.none p n.eq⟩
instance liveAt [h : At H p o] : Live H p := ⟨⟨o, h.eq⟩⟩
instance (priority := low) liveStep [r : Chg cs H1 H] [h : Live H1 p] : Live H p := ⟨by
  cases e : H p with
  | none => obtain ⟨o, h⟩ := h.ex; rw [r.live p e] at h; cases h
  | some o => exact ⟨o, rfl⟩⟩
instance neNew [n : Nw H q] [h : Live H p] : NeC p q := ⟨by
  obtain ⟨o, h⟩ := h.ex
  intro e
  rw [e, n.eq] at h
  cases h⟩
instance neNew' [n : Nw H q] [h : Live H p] : NeC q p := ⟨(neNew (H := H)).ne.symm⟩
instance inHere : InNew c (c :: bs) H := ⟨.inl (List.mem_cons_self ..)⟩
instance (priority := low) inThere [h : InNew c bs H] : InNew c (b :: bs) H := ⟨h.or.imp (List.mem_cons_of_mem _) _root_.id⟩
instance inNew [h : Nu H c] : InNew c bs H := ⟨.inr h.eq⟩
instance : SubC [] bs H := ⟨by simp⟩
instance [h : InNew c bs H] [k : SubC cs bs H] : SubC (c :: cs) bs H := ⟨by
  intro d hd
  rcases List.mem_cons.mp hd with e | e
  · rw [e]; exact h.or
  · exact k.sub d e⟩
instance relRefl : RelC bs H H := ⟨fun _ _ _ h => h⟩
instance (priority := low) relStep [r : Chg cs H1 H'] [s : SubC cs bs H] [k : RelC bs H H1] : RelC bs H H' := ⟨fun a o n h => r.keep a o (fun hc => by
  rcases s.sub a hc with e | e
  · exact n e
  · rw [e] at h; cases h) (k.keep a o n h)⟩
theorem rel [r : RelC bs H H'] [k : Anc H H'] : Chg bs H H' := ⟨r.keep, k.none⟩
theorem new [h : Nu H p] : Nw H p := ⟨h.eq⟩
theorem at_ [h : At H p o] : At H p o := h
theorem ne_ [h : NeC p q] : p ≠ q := h.ne
instance sqAt [h : At H p (.lst xs)] : SqC K H p xs := ⟨.inl (.inl h.eq)⟩
instance stAt [h : At H p (.tup xs)] : StC K H p xs := ⟨.inl (.inl h.eq)⟩
theorem Chg.rd {a : Addr} {u : HO} (e : Chg bs H H') (n : a ∉ bs) (h : Rd H a u) : Rd H' a u := by
  rcases h with h | ⟨o, h⟩
  · exact .inl (e.keep a _ n h)
  · exact .inr ⟨o, e.keep a _ n h⟩
theorem Chg.l {a : Addr} (e : Chg bs H H') (n : a ∉ bs) (h : SqL K H a xs) : SqL K H' a xs := by
  rcases h with h | h
  · exact .inl (e.rd n h)
  · exact .inr h
theorem Chg.t {a : Addr} (e : Chg bs H H') (n : a ∉ bs) (h : SqT K H a xs) : SqT K H' a xs := by
  rcases h with h | h
  · exact .inl (e.rd n h)
  · exact .inr h
instance (priority := low) sqStep [r : Chg cs H1 H] [n : NotIn p cs] [h : SqC K H1 p xs] : SqC K H p xs := ⟨r.l n.out h.sq⟩
instance (priority := low) stStep [r : Chg cs H1 H] [n : NotIn p cs] [h : StC K H1 p xs] : StC K H p xs := ⟨r.t n.out h.st⟩
theorem Chg.refl (bs : List Addr) (H : Hp) : Chg bs H H := ⟨fun _ _ _ h => h, fun _ h => h⟩
theorem Ex.refl (H : Hp) : Ex H H := Chg.refl _ H
theorem ExB.refl (b : Addr) (H : Hp) : ExB b H H := Chg.refl _ H
theorem Chg.trans {H1 H2 : Hp} (a : Chg bs H H1) (c : Chg bs H1 H2) : Chg bs H H2 := ⟨fun x o n h => c.keep x o n (a.keep x o n h), fun x h => a.live x (c.live x h)⟩
theorem Ex.l {a : Addr} (e : Ex H H') (h : SqL K H a xs) : SqL K H' a xs := Chg.l e (by simp) h
theorem Ex.t {a : Addr} (e : Ex H H') (h : SqT K H a xs) : SqT K H' a xs := Chg.t e (by simp) h
theorem ExB.l {a b : Addr} (e : ExB b H H') (n : a ≠ b) (h : SqL K H a xs) : SqL K H' a xs := Chg.l e (by simpa using n) h
theorem Ex.mk (h : H p = none) : Ex H (upd H p o) := ⟨fun a u _ e => by
  rw [upd_ne (ne_of_none e h)]
  exact e, fun a e => by
  by_cases z : a = p
  · rw [z]; exact h
  · rw [upd_ne z] at e; exact e⟩
theorem ExB.upd : ExB b H (upd H b o) := ⟨fun a u n e => by
  rw [upd_ne (by simpa using n)]
  exact e, fun a e => by
  by_cases z : a = b
  · rw [z, upd_same] at e; cases e
  · rw [upd_ne z] at e; exact e⟩
end

/-! ### steps of a reading -/
section
variable {K : PySem.W.Frag} {σ : L2.St} {H H1 H2 : Hp} {Q : VK} {QB : Bool → Hp → Prop} {QL : List V → Hp → Prop} {v x y : V} {i j : Nat} {te ta tb : TE} {tt tu : TT} {tl tr : TA} {r : R2} {D : Ends} {t u : TS} {b c : Bool} {sp : Sp} {dvs : List V} {E : XK}
theorem g_var (h : σ[i]? = some (some v)) (q : Q v H) : tVar i σ H Q := ⟨v, h, q⟩
theorem g_c (q : Q v H) : tC v σ H Q := q
theorem g_op (q : ta σ H fun x H1 => tb σ H1 fun y H2 => r x y H2 Q) : tOp r ta tb σ H Q := q
theorem g_un {r : V → Hp → VK → Prop} (q : ta σ H fun x H1 => r x H1 Q) : tUn r ta σ H Q := q
theorem g_test (q : te σ H fun x H' => ∃ k, x = .bl k ∧ QB k H') : tTest te σ H QB := q
theorem g_tB (q : te σ H fun x H' => ∃ k, x = .bl k ∧ QB k H') : tB te σ H QB := q
theorem g_not (q : tt σ H fun c H1 => QB (!c) H1) : tNot tt σ H QB := q
theorem g_and (q : tt σ H fun c H1 => if c = true then tu σ H1 QB else QB false H1) : tAnd tt tu σ H QB := q
theorem g_or (q : tt σ H fun c H1 => if c = true then QB true H1 else tu σ H1 QB) : tOr tt tu σ H QB := q
theorem g_notV (q : te σ H fun x H1 => ∃ c, x = .bl c ∧ Q (.bl (!c)) H1) : tNotV te σ H Q := q
theorem g_andV (q : ta σ H fun x H1 => ∃ c, x = .bl c ∧ if c = true then tb σ H1 Q else Q (.bl false) H1) : tAndV ta tb σ H Q := q
theorem g_orV (q : ta σ H fun x H1 => ∃ c, x = .bl c ∧ if c = true then Q (.bl true) H1 else tb σ H1 Q) : tOrV ta tb σ H Q := q
theorem g_if (q : tt σ H fun c H1 => if c = true then ta σ H1 Q else tb σ H1 Q) : tIf tt ta tb σ H Q := q
theorem g_ifs (q : tt σ H fun c H1 => if c = true then t D σ H1 else u D σ H1) : tIfS tt t u D σ H := q
theorem g_ex {R : Bool → Prop} (q : R b) : ∃ k, V.bl b = .bl k ∧ R k := ⟨b, rfl, q⟩
theorem g_seq (q : t { D with nx := u D } σ H) : tSeq t u D σ H := q
theorem g_seqM {a : L2.St → Hp → Prop} {rt : VK} {bk ct : L2.St → Hp → Prop} (q : t (Ends.mk (u (Ends.mk a rt bk ct)) rt bk ct) σ H) : tSeq t u (Ends.mk a rt bk ct) σ H := q
theorem g_asg (q : te σ H fun x H1 => D.nx (σ.set i (some x)) H1) : tAsg te (gName i) D σ H := q
theorem g_asgG {g : TG} (q : te σ H fun x H1 => g x σ H1 D.nx) : tAsg te g D σ H := q
theorem g_ret (q : te σ H D.rt) : tRet te D σ H := q
theorem g_drop (q : te σ H fun _ H1 => D.nx σ H1) : tDrop te D σ H := q
theorem g_next (q : D.nx σ H) : tNext D σ H := q
theorem g_nx {a : L2.St → Hp → Prop} {rt : VK} {bk ct : L2.St → Hp → Prop} (q : a σ H) : (Ends.mk a rt bk ct).nx σ H := q
theorem g_rt {a : L2.St → Hp → Prop} {rt : VK} {bk ct : L2.St → Hp → Prop} (q : rt v H) : (Ends.mk a rt bk ct).rt v H := q
theorem g_call (q : tl σ H fun vs H1 => sp (vs ++ dvs) H1 Q E) : tCall sp dvs E tl σ H Q := q
theorem g_cons (q : te σ H fun x H1 => tl σ H1 fun xs H2 => QL (x :: xs) H2) : tCons te tl σ H QL := q
theorem g_nil (q : QL [] H) : tNil σ H QL := q
theorem g_cb {r : List V → Hp → VK → Prop} (q : tl σ H fun vs H1 => r vs H1 Q) : tCB r tl σ H Q := q
theorem g_lst (q : tl σ H fun xs H1 => xs.length ≤ sizeLine ∧ ∀ p, H1 p = none → Q (.ref p) (upd H1 p (.lst xs))) : tLst tl σ H Q := q
theorem g_tup (q : tl σ H fun xs H1 => xs.length ≤ sizeLine ∧ ∀ p, H1 p = none → Q (.ref p) (upd H1 p (.tup xs))) : tTup tl σ H Q := q
theorem g_sz {n : Nat} {R : Prop} (h : n ≤ 100000) (q : R) : n ≤ sizeLine ∧ R := ⟨Nat.le_trans h (by decide), q⟩
theorem g_len {y : V} {n : Nat} (h : LenV K y H n) (q : Q (.int n) H) : rLen K [y] H Q := ⟨y, n, rfl, h, q⟩
theorem len_l {p : Addr} {xs : List V} [h : SqC K H p xs] : LenV K (.ref p) H xs.length := .inl ⟨xs, h.sq, rfl⟩
theorem len_t {p : Addr} {xs : List V} [h : StC K H p xs] : LenV K (.ref p) H xs.length := .inr ⟨xs, h.st, rfl⟩
theorem len_s {z : Str} (h : z.length ≤ 100000) : LenV K (.str z) H z.length := ⟨Nat.le_trans h (by decide), rfl⟩
theorem g_int {i : Int} (q : Q (.int i) H) : rInt [V.int i] H Q := .inl ⟨i, rfl, q⟩
theorem g_intB {k : Bool} (q : Q (.int (if k then 1 else 0)) H) : rInt [V.bl k] H Q := .inr ⟨k, rfl, q⟩
theorem g_abs {i : Int} (q : Q (.int (if i < 0 then -i else i)) H) : rAbs [V.int i] H Q := ⟨i, rfl, q⟩
theorem g_max2 {i j : Int} (q : Q (.int (if j > i then j else i)) H) : rMax2 [V.int i, .int j] H Q := ⟨i, j, rfl, q⟩
theorem g_min2 {i j : Int} (q : Q (.int (if j < i then j else i)) H) : rMin2 [V.int i, .int j] H Q := ⟨i, j, rfl, q⟩
theorem g_ixL {p : Addr} {xs : List V} {i : Int} [h : SqC K H p xs] (a : atI xs i = some v) (q : Q v H) : rIx K (.ref p) (.int i) H Q := .inl ⟨p, xs, i, v, rfl, rfl, h.sq, a, q⟩
theorem g_ixT {p : Addr} {xs : List V} {i : Int} [h : StC K H p xs] (a : atI xs i = some v) (q : Q v H) : rIx K (.ref p) (.int i) H Q := .inr (.inl ⟨p, xs, i, v, rfl, rfl, h.st, a, q⟩)
theorem g_ixI {p : Addr} {ns : List Int} {i : Int} [h : SqC K H p (ns.map V.int)] (h0 : 0 ≤ i) (h1 : i < (ns.length : Int)) (q : Q (.int (ns.getD i.toNat 0)) H) : rIx K (.ref p) (.int i) H Q := by
  refine g_ixL ?_ q
  obtain ⟨j, rfl⟩ : ∃ j : Nat, i = (j : Int) := ⟨i.toNat, by omega⟩
  refine atI_nat ?_
  have h2 : j < ns.length := by omega
  rw [List.getElem?_map, List.getElem?_eq_getElem h2, Option.map_some, Int.toNat_natCast, List.getD_eq_getElem?_getD, List.getElem?_eq_getElem h2, Option.getD_some]
theorem g_ixS {z : Str} {i : Int} {c : Nat} (h : z.length ≤ 100000) (a : atI z.cps.toList i = some c) (q : Q (.str ⟨#[c]⟩) H) : rIx K (.str z) (.int i) H Q := .inr (.inr ⟨z, i, c, rfl, rfl, Nat.le_trans h (by decide), a, q⟩)
theorem g_gsub {to ti : TE} {ts : TSet} {R : L2.St → Hp → Prop} (q : to σ H fun o H1 => ti σ H1 fun i H2 => ts o i v H2 fun H3 => R σ H3) : gSub to ti ts v σ H R := q
theorem g_set {p : Addr} {xs : List V} {k : Int} {j : Nat} {R : Hp → Prop} [h : At H p (.lst xs)] (hj : ixN xs.length k = some j) (q : ∀ H2, ExB p H H2 → At H2 p (.lst (xs.set j v)) → R H2) : rSetL (.ref p) (.int k) v H R :=
  ⟨p, xs, k, j, rfl, rfl, h.eq, hj, q _ ExB.upd ⟨upd_same⟩⟩
theorem g_sl {r : V → Option Int → Option Int → Hp → VK → Prop} {t1 t2 : TO} (q : te σ H fun x H1 => t1 σ H1 fun l H2 => t2 σ H2 fun u H3 => r x l u H3 Q) : tSl r te t1 t2 σ H Q := q
theorem g_noPart {R : Option Int → Hp → Prop} (q : R none H) : tNoPart σ H R := q
theorem g_part {R : Option Int → Hp → Prop} (q : te σ H fun x H1 => ∃ i, x = .int i ∧ R (some i) H1) : tPart te σ H R := q
theorem g_exI {i : Int} {R : Int → Prop} (q : R i) : ∃ k, V.int i = .int k ∧ R k := ⟨i, rfl, q⟩
theorem g_bm {T : String} {r : V → List V → Hp → VK → Prop} (q : te σ H fun x H1 => tyV K T x H1 ∧ tl σ H1 fun xs H2 => r x xs H2 Q) : tBM K T r te tl σ H Q := q
theorem g_bm0 {T : String} {r : V → List V → Hp → VK → Prop} (q : te σ H fun x H1 => tyV K T x H1 ∧ r x [] H1 Q) : tBM0 K T r te σ H Q := q
theorem g_tyL {p : Addr} {xs : List V} {R : Prop} [h : SqC K H p xs] (q : R) : tyV K "list" (.ref p) H ∧ R := ⟨.inl ⟨rfl, xs, h.sq⟩, q⟩
theorem g_tyS {z : Str} {R : Prop} (q : R) : tyV K "str" (.str z) H ∧ R := ⟨rfl, q⟩
theorem g_app {p : Addr} {xs : List V} [h : At H p (.lst xs)] (hz : xs.length < 100000) (q : ∀ H2, ExB p H H2 → At H2 p (.lst (xs ++ [v])) → Q .non H2) : rAppend (.ref p) [v] H Q :=
  ⟨p, xs, v, rfl, rfl, h.eq, Nat.lt_of_lt_of_le hz (by decide), q _ ExB.upd ⟨upd_same⟩⟩
theorem g_new {o : HO} {R : Addr → Hp → Prop} (q : ∀ p H2, Nw H p → Ex H H2 → At H2 p o → R p H2) : ∀ p, H p = none → R p (upd H p o) := fun p hp => q p _ ⟨hp⟩ (Ex.mk hp) ⟨upd_same⟩

theorem g_I0 {g : Int → Int → V} {i j : Int} (q : Q (g i j) H) : rI0 g (.int i) (.int j) H Q := ⟨i, j, rfl, rfl, q⟩
theorem g_add {i j : Int} (q : Q (.int (i + j)) H) : rAdd K (.int i) (.int j) H Q := .inl ⟨i, j, rfl, rfl, q⟩
theorem g_addS {a b : Str} (h : a.length + b.length ≤ 100000) (q : Q (.str (a ++ b)) H) : rAdd K (.str a) (.str b) H Q := .inr (.inl ⟨a, b, rfl, rfl, Nat.le_trans h (by decide), q⟩)
theorem g_mulL {i j : Int} (h : -(2 ^ 64) < i ∧ i < 2 ^ 64) (q : Q (.int (i * j)) H) : rMul K (.int i) (.int j) H Q := .inl ⟨i, j, rfl, rfl, .inl h, q⟩
theorem g_mulR {i j : Int} (h : -(2 ^ 64) < j ∧ j < 2 ^ 64) (q : Q (.int (i * j)) H) : rMul K (.int i) (.int j) H Q := .inl ⟨i, j, rfl, rfl, .inr h, q⟩
theorem g_mulX {i j : Int} (h : CMulX i j) (q : Q (.int (i * j)) H) : rMul K (.int i) (.int j) H Q := .inr (.inl ⟨i, j, rfl, rfl, h, q⟩)
theorem g_mulS {z : Str} {n : Int} (h : n < 2 ^ 40 ∧ -(2 ^ 40) ≤ n ∧ z.length * n.toNat ≤ 100000) (q : Q (.str (repS z n.toNat)) H) : rMul K (.str z) (.int n) H Q := .inr (.inr (.inl ⟨z, n, rfl, rfl, h, q⟩))
theorem g_sub {i j : Int} (q : Q (.int (i - j)) H) : rSub (.int i) (.int j) H Q := ⟨i, j, rfl, rfl, q⟩
theorem g_mod {i j : Int} (h : 0 < j) (q : Q (.int (i % j)) H) : rMod (.int i) (.int j) H Q := ⟨i, j, rfl, rfl, h, q⟩
theorem g_div {i j : Int} (h : CDivW i j) (q : Q (.int (i / j)) H) : rDiv (.int i) (.int j) H Q := ⟨i, j, rfl, rfl, h, q⟩
theorem cpow_ok {i j : Int} (h1 : 0 ≤ j) (h2 : j ≤ 1000000) (h3 : i.natAbs < 2 ^ 64) : CPow i j := ⟨h1, h2, h3⟩
theorem g_pow {i j k : Int} (h : CPow i j) (e : i ^ j.toNat = k) (q : Q (.int k) H) : rPow (.int i) (.int j) H Q := ⟨i, j, rfl, rfl, h, by show Q (.int (i ^ j.toNat)) H; rw [e]; exact q⟩
theorem g_lt {i j : Int} (q : Q (.bl (decide (i < j))) H) : rLt (.int i) (.int j) H Q := ⟨i, j, rfl, rfl, q⟩
theorem g_le {i j : Int} (q : Q (.bl (decide (i ≤ j))) H) : rLe (.int i) (.int j) H Q := ⟨i, j, rfl, rfl, q⟩
theorem g_gt {i j : Int} (q : Q (.bl (decide (j < i))) H) : rGt (.int i) (.int j) H Q := ⟨i, j, rfl, rfl, q⟩
theorem g_ge {i j : Int} (q : Q (.bl (decide (j ≤ i))) H) : rGe (.int i) (.int j) H Q := ⟨i, j, rfl, rfl, q⟩
theorem dI {i j : Int} : decide (V.int i = V.int j) = decide (i = j) := by
  by_cases h : i = j <;> simp [h]
theorem dB {i j : Bool} : decide (V.bl i = V.bl j) = (i == j) := dec_bl
theorem dS {i j : Str} : decide (V.str i = V.str j) = decide (i = j) := by
  by_cases h : i = j <;> simp [h]
theorem g_eq {i j : Int} (q : Q (.bl (decide (i = j))) H) : rEqX K (.int i) (.int j) H Q := .inl ⟨rfl, by rw [dI]; exact q⟩
theorem g_ne {i j : Int} (q : Q (.bl (!decide (i = j))) H) : rNeX K (.int i) (.int j) H Q := .inl ⟨rfl, by rw [dI]; exact q⟩
theorem g_eqB {i j : Bool} (q : Q (.bl (i == j)) H) : rEqX K (.bl i) (.bl j) H Q := .inl ⟨rfl, by rw [dB]; exact q⟩
theorem g_neB {i j : Bool} (q : Q (.bl (!(i == j))) H) : rNeX K (.bl i) (.bl j) H Q := .inl ⟨rfl, by rw [dB]; exact q⟩
theorem g_eqS {i j : Str} (q : Q (.bl (decide (i = j))) H) : rEqX K (.str i) (.str j) H Q := .inl ⟨rfl, by rw [dS]; exact q⟩
theorem g_neS {i j : Str} (q : Q (.bl (!decide (i = j))) H) : rNeX K (.str i) (.str j) H Q := .inl ⟨rfl, by rw [dS]; exact q⟩
theorem g_isN (q : Q (.bl (decide (x = .non))) H) : rIsN x .non H Q := ⟨rfl, q⟩
theorem g_notN (q : Q (.bl (!decide (x = .non))) H) : rNotN x .non H Q := ⟨rfl, q⟩

theorem g_ite {p : Prop} {_ : Decidable p} {A B : Prop} (h1 : p → A) (h2 : ¬ p → B) : if decide p = true then A else B := by
  by_cases h : p
  · rw [if_pos (decide_eq_true h)]; exact h1 h
  · rw [if_neg (by rw [decide_eq_false h]; exact Bool.false_ne_true)]; exact h2 h
theorem g_iteN {p : Prop} {_ : Decidable p} {A B : Prop} (h1 : ¬ p → A) (h2 : p → B) : if (!decide p) = true then A else B := by
  by_cases h : p
  · rw [if_neg (by rw [decide_eq_true h]; exact Bool.false_ne_true)]; exact h2 h
  · rw [if_pos (by rw [decide_eq_false h]; rfl)]; exact h1 h
theorem iteNT {A B : Prop} (h : A) : if (!false) = true then A else B := iteT h
theorem iteNF {A B : Prop} (h : B) : if (!true) = true then A else B := iteF h
theorem g_itB {A B : Prop} (h1 : b = true → A) (h2 : b = false → B) : if b = true then A else B := by
  cases b
  · rw [if_neg Bool.false_ne_true]; exact h2 rfl
  · rw [if_pos rfl]; exact h1 rfl
theorem g_itNB {A B : Prop} (h1 : b = false → A) (h2 : b = true → B) : if (!b) = true then A else B := by
  cases b
  · exact iteT (h1 rfl)
  · exact iteF (h2 rfl)
end


/-! ### steps found by their head -/
/-- G follows from G' -/
class Step (G : Prop) (G' : outParam Prop) : Prop where
  run : G' → G
class Look (σ : L2.St) (i : Nat) (v : outParam V) : Prop where
  at_ : σ[i]? = some (some v)
instance {v : V} {σ : L2.St} : Look (some v :: σ) 0 v := ⟨rfl⟩
instance {a : Option V} {σ : L2.St} {i : Nat} {v : V} [h : Look σ i v] : Look (a :: σ) (i + 1) v := ⟨by simpa using h.at_⟩
class SetL (σ : L2.St) (i : Nat) (x : Option V) (τ : outParam L2.St) : Prop where
  eq : σ.set i x = τ
instance {a x : Option V} {σ : L2.St} : SetL (a :: σ) 0 x (x :: σ) := ⟨rfl⟩
instance {a x : Option V} {σ τ : L2.St} {i : Nat} [h : SetL σ i x τ] : SetL (a :: σ) (i + 1) x (a :: τ) := ⟨by rw [← h.eq]; rfl⟩
section
variable {K : PySem.W.Frag} {σ τ : L2.St} {H H1 H2 : Hp} {Q : VK} {QB : Bool → Hp → Prop} {QL : List V → Hp → Prop} {v x y : V} {i j : Nat} {te ta tb : TE} {tt tu : TT} {tl tr : TA} {r : R2} {D : Ends} {t u : TS} {b c : Bool} {sp : Sp} {dvs : List V} {E : XK}
instance [h : Look σ i v] : Step (tVar i σ H Q) (Q v H) := ⟨g_var h.at_⟩
instance : Step (tC v σ H Q) (Q v H) := ⟨g_c⟩
instance : Step (tOp r ta tb σ H Q) (ta σ H fun x H1 => tb σ H1 fun y H2 => r x y H2 Q) := ⟨g_op⟩
instance {r : V → Hp → VK → Prop} : Step (tUn r ta σ H Q) (ta σ H fun x H1 => r x H1 Q) := ⟨g_un⟩
instance : Step (tTest te σ H QB) (te σ H fun x H' => ∃ k, x = .bl k ∧ QB k H') := ⟨g_test⟩
instance : Step (tB te σ H QB) (te σ H fun x H' => ∃ k, x = .bl k ∧ QB k H') := ⟨g_tB⟩
instance : Step (tNot tt σ H QB) (tt σ H fun c H1 => QB (!c) H1) := ⟨g_not⟩
instance : Step (tAnd tt tu σ H QB) (tt σ H fun c H1 => if c = true then tu σ H1 QB else QB false H1) := ⟨g_and⟩
instance : Step (tOr tt tu σ H QB) (tt σ H fun c H1 => if c = true then QB true H1 else tu σ H1 QB) := ⟨g_or⟩
instance : Step (tNotV te σ H Q) (te σ H fun x H1 => ∃ c, x = .bl c ∧ Q (.bl (!c)) H1) := ⟨g_notV⟩
instance : Step (tAndV ta tb σ H Q) (ta σ H fun x H1 => ∃ c, x = .bl c ∧ if c = true then tb σ H1 Q else Q (.bl false) H1) := ⟨g_andV⟩
instance : Step (tOrV ta tb σ H Q) (ta σ H fun x H1 => ∃ c, x = .bl c ∧ if c = true then Q (.bl true) H1 else tb σ H1 Q) := ⟨g_orV⟩
instance : Step (tIf tt ta tb σ H Q) (tt σ H fun c H1 => if c = true then ta σ H1 Q else tb σ H1 Q) := ⟨g_if⟩
instance : Step (tIfS tt t u D σ H) (tt σ H fun c H1 => if c = true then t D σ H1 else u D σ H1) := ⟨g_ifs⟩
instance {R : Bool → Prop} : Step (∃ k, V.bl b = .bl k ∧ R k) (R b) := ⟨g_ex⟩
instance {i : Int} {R : Int → Prop} : Step (∃ k, V.int i = .int k ∧ R k) (R i) := ⟨g_exI⟩
instance : Step (tSeq t u D σ H) (t { D with nx := u D } σ H) := ⟨g_seq⟩
instance (priority := high) {a : L2.St → Hp → Prop} {rt : VK} {bk ct : L2.St → Hp → Prop} : Step (tSeq t u (Ends.mk a rt bk ct) σ H) (t (Ends.mk (u (Ends.mk a rt bk ct)) rt bk ct) σ H) := ⟨g_seqM⟩
instance : Step (tAsg te (gName i) D σ H) (te σ H fun x H1 => gName i x σ H1 D.nx) := ⟨fun q => q⟩
instance {R : L2.St → Hp → Prop} [h : SetL σ i (some v) τ] : Step (gName i v σ H R) (R τ H) := ⟨fun q => by show R _ H; rw [h.eq]; exact q⟩
instance : Step (tRet te D σ H) (te σ H D.rt) := ⟨g_ret⟩
instance : Step (tRetN D σ H) (D.rt .non H) := ⟨fun q => q⟩
instance : Step (tDrop te D σ H) (te σ H fun _ H1 => D.nx σ H1) := ⟨g_drop⟩
instance : Step (tNext D σ H) (D.nx σ H) := ⟨g_next⟩
instance : Step (tBreak D σ H) (D.bk σ H) := ⟨fun q => q⟩
instance : Step (tCont D σ H) (D.ct σ H) := ⟨fun q => q⟩
instance {a : L2.St → Hp → Prop} {rt : VK} {bk ct : L2.St → Hp → Prop} : Step ((Ends.mk a rt bk ct).nx σ H) (a σ H) := ⟨g_nx⟩
instance {a : L2.St → Hp → Prop} {rt : VK} {bk ct : L2.St → Hp → Prop} : Step ((Ends.mk a rt bk ct).rt v H) (rt v H) := ⟨g_rt⟩
instance {a : L2.St → Hp → Prop} {rt : VK} {bk ct : L2.St → Hp → Prop} : Step ((Ends.mk a rt bk ct).bk σ H) (bk σ H) := ⟨fun q => q⟩
instance {a : L2.St → Hp → Prop} {rt : VK} {bk ct : L2.St → Hp → Prop} : Step ((Ends.mk a rt bk ct).ct σ H) (ct σ H) := ⟨fun q => q⟩
instance : Step (tCall sp dvs E tl σ H Q) (tl σ H fun vs H1 => sp (vs ++ dvs) H1 Q E) := ⟨g_call⟩
instance : Step (tCons te tl σ H QL) (te σ H fun x H1 => tl σ H1 fun xs H2 => QL (x :: xs) H2) := ⟨g_cons⟩
instance : Step (tNil σ H QL) (QL [] H) := ⟨g_nil⟩
instance {n m : Nat} {gV : List V → List V → List V} : Step (tCallN n m sp gV E tl tr σ H Q) (tl σ H fun vs H1 => tr σ H1 fun zs H2 => vs.length = n ∧ zs.length = m ∧ sp (gV vs zs) H2 Q E) := ⟨fun q => q⟩
instance {r : List V → Hp → VK → Prop} : Step (tCB r tl σ H Q) (tl σ H fun vs H1 => r vs H1 Q) := ⟨g_cb⟩
def rNewL (xs : List V) (H1 : Hp) (Q : VK) : Prop := xs.length ≤ sizeLine ∧ ∀ p, H1 p = none → Q (.ref p) (upd H1 p (.lst xs))
def rNewT (xs : List V) (H1 : Hp) (Q : VK) : Prop := xs.length ≤ sizeLine ∧ ∀ p, H1 p = none → Q (.ref p) (upd H1 p (.tup xs))
theorem g_newL {xs : List V} (hz : xs.length ≤ 100000) (q : ∀ p H2, Nw H p → Ex H H2 → At H2 p (.lst xs) → Q (.ref p) H2) : rNewL xs H Q := ⟨Nat.le_trans hz (by decide), fun p hp => q p _ ⟨hp⟩ (Ex.mk hp) ⟨upd_same⟩⟩
theorem g_newT {xs : List V} (hz : xs.length ≤ 100000) (q : ∀ p H2, Nw H p → Ex H H2 → At H2 p (.tup xs) → Q (.ref p) H2) : rNewT xs H Q := ⟨Nat.le_trans hz (by decide), fun p hp => q p _ ⟨hp⟩ (Ex.mk hp) ⟨upd_same⟩⟩
instance : Step (tLst tl σ H Q) (tl σ H fun xs H1 => rNewL xs H1 Q) := ⟨g_lst⟩
instance : Step (tTup tl σ H Q) (tl σ H fun xs H1 => rNewT xs H1 Q) := ⟨g_tup⟩
instance {i j : Int} : Step (rAdd K (.int i) (.int j) H Q) (Q (.int (i + j)) H) := ⟨g_add⟩
instance {i j : Int} : Step (rSub (.int i) (.int j) H Q) (Q (.int (i - j)) H) := ⟨g_sub⟩
instance {i j : Int} : Step (rLt (.int i) (.int j) H Q) (Q (.bl (decide (i < j))) H) := ⟨g_lt⟩
instance {i j : Int} : Step (rLe (.int i) (.int j) H Q) (Q (.bl (decide (i ≤ j))) H) := ⟨g_le⟩
instance {i j : Int} : Step (rGt (.int i) (.int j) H Q) (Q (.bl (decide (j < i))) H) := ⟨g_gt⟩
instance {i j : Int} : Step (rGe (.int i) (.int j) H Q) (Q (.bl (decide (j ≤ i))) H) := ⟨g_ge⟩
instance {i j : Int} : Step (rEqX K (.int i) (.int j) H Q) (Q (.bl (decide (i = j))) H) := ⟨g_eq⟩
instance {i j : Int} : Step (rNeX K (.int i) (.int j) H Q) (Q (.bl (!decide (i = j))) H) := ⟨g_ne⟩
instance {i j : Bool} : Step (rEqX K (.bl i) (.bl j) H Q) (Q (.bl (i == j)) H) := ⟨g_eqB⟩
instance {i j : Bool} : Step (rNeX K (.bl i) (.bl j) H Q) (Q (.bl (!(i == j))) H) := ⟨g_neB⟩
instance {i j : Str} : Step (rEqX K (.str i) (.str j) H Q) (Q (.bl (decide (i = j))) H) := ⟨g_eqS⟩
instance {i j : Str} : Step (rNeX K (.str i) (.str j) H Q) (Q (.bl (!decide (i = j))) H) := ⟨g_neS⟩
theorem g_isNn (q : Q (.bl true) H) : rIsN .non .non H Q := ⟨rfl, q⟩
theorem g_notNn (q : Q (.bl false) H) : rNotN .non .non H Q := ⟨rfl, q⟩
instance : Step (rIsN .non .non H Q) (Q (.bl true) H) := ⟨g_isNn⟩
instance : Step (rNotN .non .non H Q) (Q (.bl false) H) := ⟨g_notNn⟩
instance {i : Int} : Step (rIsN (.int i) .non H Q) (Q (.bl false) H) := ⟨fun q => ⟨rfl, q⟩⟩
instance {i : Int} : Step (rNotN (.int i) .non H Q) (Q (.bl true) H) := ⟨fun q => ⟨rfl, q⟩⟩
instance {p : Addr} : Step (rIsN (.ref p) .non H Q) (Q (.bl false) H) := ⟨fun q => ⟨rfl, q⟩⟩
instance {p : Addr} : Step (rNotN (.ref p) .non H Q) (Q (.bl true) H) := ⟨fun q => ⟨rfl, q⟩⟩
instance {z : Str} : Step (rIsN (.str z) .non H Q) (Q (.bl false) H) := ⟨fun q => ⟨rfl, q⟩⟩
instance {z : Str} : Step (rNotN (.str z) .non H Q) (Q (.bl true) H) := ⟨fun q => ⟨rfl, q⟩⟩
instance {i : Int} : Step (rInt [V.int i] H Q) (Q (.int i) H) := ⟨g_int⟩
instance {k : Bool} : Step (rInt [V.bl k] H Q) (Q (.int (if k then 1 else 0)) H) := ⟨g_intB⟩
instance {i : Int} : Step (rAbs [V.int i] H Q) (Q (.int (if i < 0 then -i else i)) H) := ⟨g_abs⟩
instance {i j : Int} : Step (rMax2 [V.int i, .int j] H Q) (Q (.int (if j > i then j else i)) H) := ⟨g_max2⟩
instance {i j : Int} : Step (rMin2 [V.int i, .int j] H Q) (Q (.int (if j < i then j else i)) H) := ⟨g_min2⟩
instance {g : Int → V} {i : Int} : Step (rU g (.int i) H Q) (Q (g i) H) := ⟨fun q => ⟨i, rfl, q⟩⟩
instance {to ti : TE} {ts : TSet} {R : L2.St → Hp → Prop} : Step (gSub to ti ts v σ H R) (to σ H fun o H1 => ti σ H1 fun i H2 => ts o i v H2 fun H3 => R σ H3) := ⟨g_gsub⟩
instance (priority := low) {g : TG} : Step (tAsg te g D σ H) (te σ H fun x H1 => g x σ H1 D.nx) := ⟨g_asgG⟩
instance {r : V → Option Int → Option Int → Hp → VK → Prop} {t1 t2 : TO} : Step (tSl r te t1 t2 σ H Q) (te σ H fun x H1 => t1 σ H1 fun l H2 => t2 σ H2 fun u H3 => r x l u H3 Q) := ⟨g_sl⟩
instance {R : Option Int → Hp → Prop} : Step (tNoPart σ H R) (R none H) := ⟨g_noPart⟩
instance {R : Option Int → Hp → Prop} : Step (tPart te σ H R) (te σ H fun x H1 => ∃ i, x = .int i ∧ R (some i) H1) := ⟨g_part⟩
instance {T : String} {r : V → List V → Hp → VK → Prop} : Step (tBM K T r te tl σ H Q) (te σ H fun x H1 => tyV K T x H1 ∧ tl σ H1 fun xs H2 => r x xs H2 Q) := ⟨g_bm⟩
instance {T : String} {r : V → List V → Hp → VK → Prop} : Step (tBM0 K T r te σ H Q) (te σ H fun x H1 => tyV K T x H1 ∧ r x [] H1 Q) := ⟨g_bm0⟩
instance {z : Str} {R : Prop} : Step (tyV K "str" (.str z) H ∧ R) R := ⟨g_tyS⟩
instance {A B : Prop} : Step (if true = true then A else B) A := ⟨iteT⟩
instance {A B : Prop} : Step (if false = true then A else B) B := ⟨iteF⟩
instance {A B : Prop} : Step (if (!false) = true then A else B) A := ⟨iteNT⟩
instance {A B : Prop} : Step (if (!true) = true then A else B) B := ⟨iteNF⟩
end

/-! ### enumerate(text) -/
def Itse (x : Str) : It :=
  ⟨fun i _ => i < x.cps.size, fun i H v H' => ∃ T c, v = .ref T ∧ H T = none ∧ H' = upd H T (.tup [.int (i : Nat), .str ⟨#[c]⟩]) ∧ x.cps[i]? = some c, fun i _ => x.cps.size ≤ i⟩
theorem turn_enumS {P : Program} {w : World} {K : PySem.W.Frag} {elts : List Expr} {kk : Nat} {tpos : Pos} (x : Str) (t : Tok) (e it : Addr) (hne : e ≠ it) :
    Turn P w K (.Tuple elts kk tpos) (Itse x) [e, it] e (fun i h => ((∃ old, IsEnum h e it ((i : Nat) : Int) old) ∧ h.IsStrIter it (strIterType x) x t i) ∧ i ≤ x.cps.size) where
  mem := by simp
  obj := fun i h st b hb => by
    obtain ⟨⟨⟨old, he⟩, o, ho, hc, hd⟩, hle⟩ := st
    have e' : b = e ∨ b = it := by simpa using hb
    rcases e' with z | z
    · rw [z]; exact ⟨_, he, fun v q => nomatch q⟩
    · rw [z]; exact ⟨o, ho, fun v q => by rw [hd] at q; cases q⟩
  keep := fun i h h' st k => by
    obtain ⟨⟨⟨old, he⟩, o, ho, r⟩, hle⟩ := st
    exact ⟨⟨⟨old, k e (by simp) _ he⟩, o, k it (by simp) o ho, r⟩, hle⟩
  item := by
    intro X hP hw hK hc i pins s σ H E I hf st hg
    subst hP hw hK
    obtain ⟨⟨⟨old, he⟩, hit⟩, hle⟩ := st
    have hlt : i < x.cps.size := hg
    have hel : e < s.heap.objs.size := Heap.lt_size he
    have hil : it < s.heap.objs.size := by obtain ⟨_, q, _⟩ := hit; exact Heap.lt_size q
    have D := Draws.text (prog := X.prog) (w := X.w) (A := X.A.in1) (I.ok.hd hc) it x t
    refine wpAny_pyNext_enum_itemD D he hit hlt hne (by simpa using hne) fun v h' tk hv ho hit' hT hsz hk => ?_
    obtain ⟨c, u, hcx, rfl⟩ := hv
    refine ⟨_, rfl, wpAny_letOwnedTupleGo_enum (s := { s with heap := h', toks := tk + 1 }) ho fun h'' he' sb => ?_⟩
    have hT2 : h''.get? s.heap.objs.size = some { cls := .type "tuple", data := .seq #[.int i tk, .str ⟨#[c]⟩ u] } := (sb.2 _ (Nat.ne_of_gt hel)).trans hT
    have new : ObjOk X.prog X.w (upd H s.heap.objs.size (.tup [.int (i : Nat), .str ⟨#[c]⟩])) h'' s.heap.objs.size (.tup [.int (i : Nat), .str ⟨#[c]⟩]) :=
      ⟨by show 2 ≤ sizeLine; decide, [.int i tk, .str ⟨#[c]⟩ u], .cons ⟨_, rfl⟩ (.cons ⟨_, rfl⟩ .nil), ⟨_, hT2, rfl, _, rfl⟩⟩
    have I1 : Inv X pins σ (upd H s.heap.objs.size (.tup [.int (i : Nat), .str ⟨#[c]⟩])) { s with heap := h'', toks := tk + 1 } :=
      I.turnedNew (ch := [e, it]) (fun b ob hb q => (sb.2 b (fun z => hb (by simp [z]))).trans (hk b ob (fun z => hb (by simp [z])) (fun z => hb (by simp [z])) q)) hf (Nat.le_refl _) new
    refine ⟨.ref s.heap.objs.size, _, I1, rfl, ⟨_, c, rfl, I.hok.fresh (Nat.le_refl _), rfl, hcx⟩, ⟨⟨⟨.str ⟨#[c]⟩ u, ?_⟩, ?_⟩, hlt⟩, fun b hb => ?_⟩
    · have e1 : ((i + 1 : Nat) : Int) = (i : Int) + 1 := by omega
      rw [e1]; exact he'
    · obtain ⟨o, e1, r⟩ := hit'
      exact ⟨o, (sb.2 it (Ne.symm hne)).trans e1, r⟩
    · have hb' : b < s.heap.objs.size := by
        have e' : b = e ∨ b = it := by simpa using hb
        rcases e' with z | z
        · rw [z]; exact hel
        · rw [z]; exact hil
      rw [upd_ne (Nat.ne_of_lt hb')]
      exact (hf b hb).1
  done := by
    intro X hP hw hK hc i pins s σ H E I hf st hg
    subst hP hw hK
    obtain ⟨⟨⟨old, he⟩, hit⟩, hle⟩ := st
    have hge : x.cps.size ≤ i := hg
    obtain ⟨f0, f1, f2, f3, f4, f5⟩ := hf it (by simp)
    have ei : i = x.cps.size := Nat.le_antisymm hle hge
    subst ei
    have D := Draws.text (prog := X.prog) (w := X.w) (A := X.A.in1) (I.ok.hd hc) it x t
    exact wpAny_pyNext_enum_endD D he hit fun h' eb => ⟨rfl, I.turned (t' := s.toks) (fun b o hb q => eb b o hb q) f0 f1 f3 f4 f5⟩
  self := fun A i s Q E st h => let ⟨⟨⟨_, he⟩, _⟩, _⟩ := st; wpAny_pyIter_enum he h
def iEnumS (ta : TA) : TI := fun σ H R => ta σ H fun vs H1 => ∃ x, vs = [.str x] ∧ R (Itse x) H1
theorem pi_enumS {X : Cx} {e : Expr} {ta : TA} {p pos tpos : Pos} {elts : List Expr} {kk : Nat} (hg : Gl X "enumerate") (hm : X.mg "enumerate" = none) (ha : PA X [e] ta) (hs : starEach [e] X.env = [(false, eval e X.env)] := by rfl) :
    PI X (.Tuple elts kk tpos) (.Call (.Name "enumerate" p) [e] [] pos) (iEnumS ta) := by
  refine ⟨fun pins s σ H R I h => ?_⟩
  refine Call_ (ld_blt I hg hm boot_enumerate (PyProof.Rows.callWith_type1 (thn (ha.run pos pins s σ H _ I h) fun us s1 ⟨vs, H1, I1, r1, q1⟩ => ?_) hs rfl))
  obtain ⟨x, ex, q⟩ := q1
  subst ex
  cases r1 with
  | cons r rr =>
    cases rr
    obtain ⟨t, rfl⟩ := r
    refine call_enumerate_str fun h' he hit hsz hk => wpAny_pyIter_enum he ?_
    have I2 : Inv X pins σ H1 { s1 with heap := h' } := I1.kept (t' := s1.toks) hk
    refine ⟨s1.heap.objs.size + 1, [s1.heap.objs.size + 1, s1.heap.objs.size], _, _, H1, rfl, I2, turn_enumS x t (s1.heap.objs.size + 1) s1.heap.objs.size (Nat.succ_ne_self _), ⟨⟨⟨.none, he⟩, hit⟩, Nat.zero_le _⟩, fun b hb => ?_, q⟩
    have e' : b = s1.heap.objs.size + 1 ∨ b = s1.heap.objs.size := by simpa using hb
    have hle : s1.heap.objs.size ≤ b := by
      rcases e' with z | z
      · rw [z]; exact Nat.le_add_right _ _
      · rw [z]; exact Nat.le_refl _
    exact I1.fpOk hle (I1.hok.fresh hle)
/-! ### loops -/
section
variable {K : PySem.W.Frag} {σ τ : L2.St} {H : Hp} {Q : VK} {j : Nat} {ta : TA} {te tl : TE} {tt : TT} {D : Ends} {tb : TS} {g : TG}
/-- any iterator told by what it gives: n items, where S stands, the i-th as Y tells -/
structure Feeds (J : It) (n : Nat) (S : Hp → Prop) (Y : Nat → Hp → V → Hp → Prop) : Prop where
  go : ∀ i H, S H → i < n → J.go i H
  yld : ∀ i H x H', S H → i < n → J.yld i H x H' → Y i H x H'
  stop : ∀ H, S H → J.stop n H
abbrev ForW (J : It) (g : TG) (tb : TS) (D : Ends) (σ : L2.St) (H : Hp) : Prop := ∃ W : Nat → Nat → L2.St → Hp → Prop, (∃ m, W 0 m σ H) ∧ ∀ i m σ H, W i m σ H →
      (J.stop i H ∧ D.nx σ H) ∨ (J.go i H ∧ ∃ N : L2.St → Hp → Prop, (∀ σ' H', N σ' H' → ∃ m', m' < m ∧ W (i + 1) m' σ' H') ∧ ∀ v H', J.yld i H v H' → g v σ H' fun σ2 H2 => tb { D with nx := N, ct := N, bk := D.nx } σ2 H2)
abbrev LcW (J : It) (g : TG) (tt : TT) (te : TE) (vs : List Nat) (σ : L2.St) (H : Hp) (Q : VK) : Prop := ∀ D, H D = none → ∃ W : Nat → Nat → Hp → Prop, (∃ m, W 0 m (upd H D (.lst []))) ∧ ∀ i m H, W i m H →
      (J.stop i H ∧ Q (.ref D) H) ∨ (J.go i H ∧ ∃ Nx : Hp → Prop, (∀ H', Nx H' → ∃ m', m' < m ∧ W (i + 1) m' H') ∧ ∀ x H', J.yld i H x H' → g x (wipe σ vs) H' fun σ2 H2 => wipe σ2 vs = wipe σ vs ∧ tt σ2 H2 fun b H3 =>
        if b = true then te σ2 H3 fun y H4 => ∃ acc, H4 D = some (.lst acc) ∧ acc.length < sizeLine ∧ Nx (upd H4 D (.lst (acc ++ [y]))) else Nx H3)
/-- the invariant: what is not in bs stands as it stood at H, and Pv -/
def LI (bs : List Addr) (H : Hp) (Pv : L2.St → Hp → Prop) : L2.St → Hp → Prop := fun σ' H' => Chg bs H H' ∧ Pv σ' H'
theorem li {bs : List Addr} {H H' : Hp} {Pv : L2.St → Hp → Prop} {σ' : L2.St} [r : RelC bs H H'] [k : Anc H H'] (h : Pv σ' H') : LI bs H Pv σ' H' := ⟨rel, h⟩
theorem for_feeds {J : It} {n : Nat} {S : Hp → Prop} {Y : Nat → Hp → V → Hp → Prop} (F : Feeds J n S Y) (bs : List Addr) (Pv : Nat → L2.St → Hp → Prop) (h0 : Pv 0 σ H) (hS : ∀ H', Chg bs H H' → S H')
    (hs : ∀ (i : Nat) σ' H' x H'', i < n → Chg bs H H' → Pv i σ' H' → Y i H' x H'' → g x σ' H'' fun σ2 H2 => tb { D with nx := LI bs H (Pv (i + 1)), ct := LI bs H (Pv (i + 1)), bk := D.nx } σ2 H2) (hd : ∀ σ' H', Chg bs H H' → Pv n σ' H' → D.nx σ' H') :
    ForW J g tb D σ H := by
  refine ⟨fun i m σ' H' => m = n - i ∧ i ≤ n ∧ LI bs H (Pv i) σ' H', ⟨n, rfl, Nat.zero_le _, Chg.refl _ _, h0⟩, ?_⟩
  rintro i m σ' H' ⟨rfl, hi, r, p⟩
  have q := hS H' r
  by_cases hlt : i < n
  · exact .inr ⟨F.go i H' q hlt, LI bs H (Pv (i + 1)), fun σ' H' p' => ⟨n - (i + 1), by omega, rfl, hlt, p'⟩, fun v H'' y => hs i σ' H' v H'' hlt r p (F.yld i H' v H'' q hlt y)⟩
  · have e : i = n := by omega
    subst e
    exact .inl ⟨F.stop H' q, hd σ' H' r p⟩
/-- within a comprehension: the list made so far, at D -/
def rW (D : Addr) (P : List V → Hp → Prop) (H' : Hp) : Prop := ∃ acc, H' D = some (.lst acc) ∧ P acc H'
def rApp (D : Addr) (W : Hp → Prop) (y : V) (H4 : Hp) : Prop := ∃ acc, H4 D = some (.lst acc) ∧ acc.length < sizeLine ∧ W (upd H4 D (.lst (acc ++ [y])))
theorem g_rapp {D : Addr} {P : List V → Hp → Prop} {y : V} {acc : List V} {H4 : Hp} [h : At H4 D (.lst acc)] (hz : acc.length < 100000) (q : ∀ H5, ExB D H4 H5 → At H5 D (.lst (acc ++ [y])) → P (acc ++ [y]) H5) : rApp D (rW D P) y H4 :=
  ⟨acc, h.eq, Nat.lt_of_lt_of_le hz (by decide), _, upd_same, q _ ExB.upd ⟨upd_same⟩⟩
theorem g_rW {D : Addr} {P : List V → Hp → Prop} {acc : List V} {H4 : Hp} [h : At H4 D (.lst acc)] (q : P acc H4) : rW D P H4 := ⟨acc, h.eq, q⟩
class Wipe (σ : L2.St) (vs : List Nat) (τ : outParam L2.St) : Prop where
  eq : wipe σ vs = τ
instance : Wipe σ [] σ := ⟨rfl⟩
instance {v : Nat} {vs : List Nat} {ρ : L2.St} [h : Wipe σ vs ρ] [k : SetL ρ v none τ] : Wipe σ (v :: vs) τ := ⟨by show (wipe σ vs).set v none = τ; rw [h.eq, k.eq]⟩
instance {QB : Bool → Hp → Prop} : Step (tYes σ H QB) (QB true H) := ⟨fun q => q⟩
theorem lc_feeds {J : It} {n : Nat} {S : Hp → Prop} {Y : Nat → Hp → V → Hp → Prop} {vs : List Nat} (F : Feeds J n S Y) (bs : List Addr) (Pv : Addr → Nat → List V → Hp → Prop) [hw : Wipe σ vs τ]
    (h0 : ∀ D H1, Nw H D → Ex H H1 → At H1 D (.lst []) → Pv D 0 [] H1) (hS : ∀ H', Chg bs H H' → S H')
    (hs : ∀ D (i : Nat) acc H' x H'', i < n → Nw H D → Chg bs H H' → At H' D (.lst acc) → Pv D i acc H' → Y i H' x H'' → g x τ H'' fun σ2 H2 => wipe σ2 vs = τ ∧ tt σ2 H2 fun b H3 =>
      if b = true then te σ2 H3 (rApp D (rW D fun ac H5 => Chg bs H H5 ∧ Pv D (i + 1) ac H5)) else rW D (fun ac H5 => Chg bs H H5 ∧ Pv D (i + 1) ac H5) H3)
    (hd : ∀ D acc H', Nw H D → Chg bs H H' → At H' D (.lst acc) → Pv D n acc H' → Q (.ref D) H') : LcW J g tt te vs σ H Q := by
  intro D hD
  refine ⟨fun i m H' => m = n - i ∧ i ≤ n ∧ rW D (fun ac H5 => Chg bs H H5 ∧ Pv D i ac H5) H', ⟨n, rfl, Nat.zero_le _, [], upd_same, ⟨fun a o _ h => (Ex.mk hD).keep a o (by simp) h, (Ex.mk hD).live⟩, h0 D _ ⟨hD⟩ (Ex.mk hD) ⟨upd_same⟩⟩, ?_⟩
  rintro i m H' ⟨rfl, hi, acc, e, r, p⟩
  have q := hS H' r
  by_cases hlt : i < n
  · refine .inr ⟨F.go i H' q hlt, rW D (fun ac H5 => Chg bs H H5 ∧ Pv D (i + 1) ac H5), fun H' p' => ⟨n - (i + 1), by omega, rfl, hlt, p'⟩, fun v H'' y => ?_⟩
    rw [hw.eq]
    exact hs D i acc H' v H'' hlt ⟨hD⟩ r ⟨e⟩ p (F.yld i H' v H'' q hlt y)
  · have e' : i = n := by omega
    subst e'
    exact .inl ⟨F.stop H' q, hd D acc H' ⟨hD⟩ r ⟨e⟩ p⟩
/-- the items come out as F tells -/
theorem lc_F {J : It} {n : Nat} {S : Hp → Prop} {Y : Nat → Hp → V → Hp → Prop} {vs : List Nat} (Fd : Feeds J n S Y) (F : Nat → List V) [hw : Wipe σ vs τ] (hF : F 0 = []) (hS : ∀ H', Ex H H' → S H') (hz : ∀ i, i < n → (F i).length < 100000)
    (hs : ∀ D (i : Nat) H' x H'', i < n → Nw H D → Ex H H' → At H' D (.lst (F i)) → (F i).length < 100000 → Y i H' x H'' → g x τ H'' fun σ2 H2 => wipe σ2 vs = τ ∧ tt σ2 H2 fun b H3 =>
      if b = true then te σ2 H3 (rApp D (rW D fun ac H5 => Ex H H5 ∧ ac = F (i + 1))) else rW D (fun ac H5 => Ex H H5 ∧ ac = F (i + 1)) H3)
    (hd : ∀ D H', Nw H D → Ex H H' → At H' D (.lst (F n)) → Q (.ref D) H') : LcW J g tt te vs σ H Q :=
  lc_feeds Fd [] (fun _ i acc _ => acc = F i) (fun _ H1 _ _ _ => hF.symm) hS (fun D i acc H' x H'' hi hD e hp p y => by
    subst p
    exact hs D i H' x H'' hi hD e hp (hz i hi) y) (fun D acc H' hD e hp p => by
    subst p
    exact hd D H' hD e hp)
/-- each item is as P tells -/
theorem lc_A {J : It} {n : Nat} {S : Hp → Prop} {Y : Nat → Hp → V → Hp → Prop} {vs : List Nat} (Fd : Feeds J n S Y) (P : V → Prop) [hw : Wipe σ vs τ] (hS : ∀ H', Ex H H' → S H') (hz : n ≤ 100000)
    (hs : ∀ D (i : Nat) acc H' x H'', i < n → Nw H D → Ex H H' → At H' D (.lst acc) → acc.length < 100000 → Y i H' x H'' → g x τ H'' fun σ2 H2 => wipe σ2 vs = τ ∧ tt σ2 H2 fun b H3 =>
      if b = true then te σ2 H3 (rApp D (rW D fun ac H5 => Ex H H5 ∧ ∃ v, ac = acc ++ [v] ∧ P v)) else rW D (fun ac H5 => Ex H H5 ∧ ∃ v, ac = acc ++ [v] ∧ P v) H3)
    (hd : ∀ D acc H', Nw H D → Ex H H' → At H' D (.lst acc) → acc.length = n → (∀ v ∈ acc, P v) → Q (.ref D) H') : LcW J g tt te vs σ H Q := by
  intro D hD
  refine ⟨fun i m H' => m = n - i ∧ i ≤ n ∧ ∃ acc, H' D = some (.lst acc) ∧ acc.length = i ∧ (∀ v ∈ acc, P v) ∧ Ex H H', ⟨n, rfl, Nat.zero_le _, [], upd_same, rfl, by simp, Ex.mk hD⟩, ?_⟩
  rintro i m H' ⟨rfl, hi, acc, e, hl, hP, ex⟩
  have q := hS H' ex
  by_cases hlt : i < n
  · refine .inr ⟨Fd.go i H' q hlt, rW D (fun ac H5 => Ex H H5 ∧ ∃ v, ac = acc ++ [v] ∧ P v), fun H' p' => ?_, fun v H'' y => ?_⟩
    · obtain ⟨ac, e1, e2, v, rfl, hv⟩ := p'
      refine ⟨n - (i + 1), by omega, rfl, hlt, acc ++ [v], e1, by simp [hl], fun u hu => ?_, e2⟩
      rcases List.mem_append.mp hu with h | h
      · exact hP u h
      · rw [List.mem_singleton.mp h]; exact hv
    · rw [hw.eq]
      exact hs D i acc H' v H'' hlt ⟨hD⟩ ex ⟨e⟩ (by omega) (Fd.yld i H' v H'' q hlt y)
  · have e' : i = n := by omega
    subst e'
    exact .inl ⟨Fd.stop H' q, hd D acc H' ⟨hD⟩ ex ⟨e⟩ hl hP⟩
/-! what each kind gives -/
theorem fd_rng {lo : Int} {n : Nat} : Feeds (Itr lo n) n (fun _ => True) (fun i H x H' => H' = H ∧ x = .int (lo + (i : Nat))) := ⟨fun _ _ _ h => h, fun _ _ _ _ _ _ y => y, fun _ _ => Nat.le_refl _⟩
theorem fd_list {a : Addr} {xs : List V} : Feeds (Itl K a) xs.length (fun H => SqL K H a xs) (fun i H x H' => H' = H ∧ xs[i]? = some x) :=
  ⟨fun i H s h => ⟨xs, xs[i], s, List.getElem?_eq_getElem h⟩, fun i H x H' s _ y => ⟨y.1, y.2 xs s⟩, fun H s => ⟨xs, s, Nat.le_refl _⟩⟩
theorem fd_tup {a : Addr} {xs : List V} : Feeds (Itt K a) xs.length (fun H => SqT K H a xs) (fun i H x H' => H' = H ∧ xs[i]? = some x) :=
  ⟨fun i H s h => ⟨xs, xs[i], s, List.getElem?_eq_getElem h⟩, fun i H x H' s _ y => ⟨y.1, y.2 xs s⟩, fun H s => ⟨xs, s, Nat.le_refl _⟩⟩
def Pair (H : Hp) (x : V) (H' : Hp) (a b : V) : Prop := ∃ T, x = .ref T ∧ Nw H T ∧ Ex H H' ∧ At H' T (.tup [a, b])
theorem pair_mk {H : Hp} {T : Addr} {a b : V} (h : H T = none) : Pair H (.ref T) (upd H T (.tup [a, b])) a b := ⟨T, rfl, ⟨h⟩, Ex.mk h, ⟨upd_same⟩⟩
theorem fd_enumS {z : Str} : Feeds (Itse z) z.cps.size (fun _ => True) (fun i H x H' => ∃ c, z.cps[i]? = some c ∧ Pair H x H' (.int (i : Nat)) (.str ⟨#[c]⟩)) :=
  ⟨fun _ _ _ h => h, fun i H x H' _ _ y => by
    obtain ⟨T, c, rfl, h, rfl, hc⟩ := y
    exact ⟨c, hc, pair_mk h⟩, fun _ _ => Nat.le_refl _⟩
theorem fd_str {z : Str} : Feeds (Its z) z.cps.size (fun _ => True) (fun i H x H' => H' = H ∧ ∃ c, z.cps[i]? = some c ∧ x = .str ⟨#[c]⟩) := ⟨fun _ _ _ h => h, fun _ _ _ _ _ _ y => y, fun _ _ => Nat.le_refl _⟩
theorem fd_enum {a : Addr} {xs : List V} : Feeds (Ite K a) xs.length (fun H => SqL K H a xs) (fun i H x H' => ∃ c, xs[i]? = some c ∧ Pair H x H' (.int (i : Nat)) c) :=
  ⟨fun i H s h => ⟨xs, xs[i], s, List.getElem?_eq_getElem h⟩, fun i H x H' s _ y => by
    obtain ⟨T, c, rfl, h, rfl, hc⟩ := y
    exact ⟨c, hc xs s, pair_mk h⟩, fun H s => ⟨xs, s, Nat.le_refl _⟩⟩
theorem fd_zip {a b : Addr} {xs ys : List V} {n : Nat} (hn : min xs.length ys.length = n) : Feeds (Itz K a b) n (fun H => SqL K H a xs ∧ SqL K H b ys) (fun i H x H' => ∃ c d, xs[i]? = some c ∧ ys[i]? = some d ∧ Pair H x H' c d) :=
  ⟨fun i H s h => ⟨xs, ys, xs[i]'(by omega), ys[i]'(by omega), s.1, s.2, List.getElem?_eq_getElem _, List.getElem?_eq_getElem _⟩, fun i H x H' s _ y => by
    obtain ⟨T, c, d, rfl, h, rfl, hc, hd⟩ := y
    exact ⟨c, d, hc xs s.1, hd ys s.2, pair_mk h⟩, fun H s => ⟨xs, ys, s.1, s.2, by omega⟩⟩
/-! the heads -/
def rFor1 (vs : List V) (g : TG) (tb : TS) (D : Ends) (σ : L2.St) (H : Hp) : Prop := tFor (iRng1 fun _ H R => R vs H) g tb D σ H
def rFor2 (vs : List V) (g : TG) (tb : TS) (D : Ends) (σ : L2.St) (H : Hp) : Prop := tFor (iRng2 fun _ H R => R vs H) g tb D σ H
def rForL (K : PySem.W.Frag) (v : V) (g : TG) (tb : TS) (D : Ends) (σ : L2.St) (H : Hp) : Prop := tFor (iList K fun _ H R => R v H) g tb D σ H
def rForT (K : PySem.W.Frag) (v : V) (g : TG) (tb : TS) (D : Ends) (σ : L2.St) (H : Hp) : Prop := tFor (iTup K fun _ H R => R v H) g tb D σ H
def rForE (vs : List V) (g : TG) (tb : TS) (D : Ends) (σ : L2.St) (H : Hp) : Prop := tFor (iEnumS fun _ H R => R vs H) g tb D σ H
def rForS (v : V) (g : TG) (tb : TS) (D : Ends) (σ : L2.St) (H : Hp) : Prop := tFor (iStr fun _ H R => R v H) g tb D σ H
def rForEL (K : PySem.W.Frag) (vs : List V) (g : TG) (tb : TS) (D : Ends) (σ : L2.St) (H : Hp) : Prop := tFor (iEnum K fun _ H R => R vs H) g tb D σ H
def rForZ (K : PySem.W.Frag) (vs : List V) (g : TG) (tb : TS) (D : Ends) (σ : L2.St) (H : Hp) : Prop := tFor (iZip K fun _ H R => R vs H) g tb D σ H
instance : Step (tFor (iRng1 ta) g tb D σ H) (ta σ H fun vs H1 => rFor1 vs g tb D σ H1) := ⟨fun q => q⟩
instance : Step (tFor (iRng2 ta) g tb D σ H) (ta σ H fun vs H1 => rFor2 vs g tb D σ H1) := ⟨fun q => q⟩
instance : Step (tFor (iList K tl) g tb D σ H) (tl σ H fun v H1 => rForL K v g tb D σ H1) := ⟨fun q => q⟩
instance : Step (tFor (iTup K tl) g tb D σ H) (tl σ H fun v H1 => rForT K v g tb D σ H1) := ⟨fun q => q⟩
instance : Step (tFor (iEnumS ta) g tb D σ H) (ta σ H fun vs H1 => rForE vs g tb D σ H1) := ⟨fun q => q⟩
instance : Step (tFor (iStr tl) g tb D σ H) (tl σ H fun v H1 => rForS v g tb D σ H1) := ⟨fun q => q⟩
instance : Step (tFor (iEnum K ta) g tb D σ H) (ta σ H fun vs H1 => rForEL K vs g tb D σ H1) := ⟨fun q => q⟩
instance : Step (tFor (iZip K ta) g tb D σ H) (ta σ H fun vs H1 => rForZ K vs g tb D σ H1) := ⟨fun q => q⟩
def rLc1 (us : List V) (g : TG) (tt : TT) (te : TE) (vs : List Nat) (σ : L2.St) (H : Hp) (Q : VK) : Prop := tLc (iRng1 fun _ H R => R us H) g tt te vs σ H Q
def rLc2 (us : List V) (g : TG) (tt : TT) (te : TE) (vs : List Nat) (σ : L2.St) (H : Hp) (Q : VK) : Prop := tLc (iRng2 fun _ H R => R us H) g tt te vs σ H Q
def rLcL (K : PySem.W.Frag) (v : V) (g : TG) (tt : TT) (te : TE) (vs : List Nat) (σ : L2.St) (H : Hp) (Q : VK) : Prop := tLc (iList K fun _ H R => R v H) g tt te vs σ H Q
def rLcT (K : PySem.W.Frag) (v : V) (g : TG) (tt : TT) (te : TE) (vs : List Nat) (σ : L2.St) (H : Hp) (Q : VK) : Prop := tLc (iTup K fun _ H R => R v H) g tt te vs σ H Q
def rLcE (us : List V) (g : TG) (tt : TT) (te : TE) (vs : List Nat) (σ : L2.St) (H : Hp) (Q : VK) : Prop := tLc (iEnumS fun _ H R => R us H) g tt te vs σ H Q
def rLcS (v : V) (g : TG) (tt : TT) (te : TE) (vs : List Nat) (σ : L2.St) (H : Hp) (Q : VK) : Prop := tLc (iStr fun _ H R => R v H) g tt te vs σ H Q
def rLcEL (K : PySem.W.Frag) (us : List V) (g : TG) (tt : TT) (te : TE) (vs : List Nat) (σ : L2.St) (H : Hp) (Q : VK) : Prop := tLc (iEnum K fun _ H R => R us H) g tt te vs σ H Q
def rLcZ (K : PySem.W.Frag) (us : List V) (g : TG) (tt : TT) (te : TE) (vs : List Nat) (σ : L2.St) (H : Hp) (Q : VK) : Prop := tLc (iZip K fun _ H R => R us H) g tt te vs σ H Q
instance {vs : List Nat} : Step (tLc (iRng1 ta) g tt te vs σ H Q) (ta σ H fun us H1 => rLc1 us g tt te vs σ H1 Q) := ⟨fun q => q⟩
instance {vs : List Nat} : Step (tLc (iRng2 ta) g tt te vs σ H Q) (ta σ H fun us H1 => rLc2 us g tt te vs σ H1 Q) := ⟨fun q => q⟩
instance {vs : List Nat} : Step (tLc (iList K tl) g tt te vs σ H Q) (tl σ H fun v H1 => rLcL K v g tt te vs σ H1 Q) := ⟨fun q => q⟩
instance {vs : List Nat} : Step (tLc (iTup K tl) g tt te vs σ H Q) (tl σ H fun v H1 => rLcT K v g tt te vs σ H1 Q) := ⟨fun q => q⟩
instance {vs : List Nat} : Step (tLc (iEnumS ta) g tt te vs σ H Q) (ta σ H fun us H1 => rLcE us g tt te vs σ H1 Q) := ⟨fun q => q⟩
instance {vs : List Nat} : Step (tLc (iStr tl) g tt te vs σ H Q) (tl σ H fun v H1 => rLcS v g tt te vs σ H1 Q) := ⟨fun q => q⟩
instance {vs : List Nat} : Step (tLc (iEnum K ta) g tt te vs σ H Q) (ta σ H fun us H1 => rLcEL K us g tt te vs σ H1 Q) := ⟨fun q => q⟩
instance {vs : List Nat} : Step (tLc (iZip K ta) g tt te vs σ H Q) (ta σ H fun us H1 => rLcZ K us g tt te vs σ H1 Q) := ⟨fun q => q⟩
/-! loops by kind: bs is what the turns may change, Pv the invariant -/
theorem for1 {n : Int} (bs : List Addr) (Pv : Nat → L2.St → Hp → Prop) (hn : -(2 ^ 62) ≤ n ∧ n < 2 ^ 62) (h0 : Pv 0 σ H)
    (hs : ∀ (i : Nat) σ' H', (i : Int) < n → Chg bs H H' → Pv i σ' H' → g (.int (i : Int)) σ' H' fun σ2 H2 => tb { D with nx := LI bs H (Pv (i + 1)), ct := LI bs H (Pv (i + 1)), bk := D.nx } σ2 H2)
    (hd : ∀ σ' H', Chg bs H H' → Pv n.toNat σ' H' → D.nx σ' H') : rFor1 [.int n] g tb D σ H :=
  ⟨n, rfl, hn.1, hn.2, for_feeds (fd_rng (lo := 0)) bs Pv h0 (fun _ _ => trivial) (fun i σ' H' x H'' hi r p y => by
    obtain ⟨rfl, rfl⟩ := y
    rw [Int.zero_add]
    exact hs i σ' _ (by omega) r p) hd⟩
theorem for2 {a n : Int} (bs : List Addr) (Pv : Nat → L2.St → Hp → Prop) (hn : -(2 ^ 62) ≤ a ∧ a < 2 ^ 62 ∧ -(2 ^ 62) ≤ n ∧ n < 2 ^ 62) (h0 : Pv 0 σ H)
    (hs : ∀ (i : Nat) σ' H', a + (i : Int) < n → Chg bs H H' → Pv i σ' H' → g (.int (a + (i : Int))) σ' H' fun σ2 H2 => tb { D with nx := LI bs H (Pv (i + 1)), ct := LI bs H (Pv (i + 1)), bk := D.nx } σ2 H2)
    (hd : ∀ σ' H', Chg bs H H' → Pv (n - a).toNat σ' H' → D.nx σ' H') : rFor2 [.int a, .int n] g tb D σ H :=
  ⟨a, n, rfl, hn, for_feeds (fd_rng (lo := a)) bs Pv h0 (fun _ _ => trivial) (fun i σ' H' x H'' hi r p y => by
    obtain ⟨rfl, rfl⟩ := y
    exact hs i σ' _ (by omega) r p) hd⟩
theorem forL {a : Addr} {xs : List V} (bs : List Addr) (Pv : Nat → L2.St → Hp → Prop) [hx : SqC K H a xs] [hn : NotIn a bs] (h0 : Pv 0 σ H)
    (hs : ∀ (i : Nat) x σ' H', xs[i]? = some x → Chg bs H H' → Pv i σ' H' → g x σ' H' fun σ2 H2 => tb { D with nx := LI bs H (Pv (i + 1)), ct := LI bs H (Pv (i + 1)), bk := D.nx } σ2 H2)
    (hd : ∀ σ' H', Chg bs H H' → Pv xs.length σ' H' → D.nx σ' H') : rForL K (.ref a) g tb D σ H :=
  ⟨a, rfl, ⟨xs, hx.sq⟩, for_feeds fd_list bs Pv h0 (fun _ r => r.l hn.out hx.sq) (fun i σ' H' x H'' hi r p y => by
    obtain ⟨rfl, y⟩ := y
    exact hs i x σ' _ y r p) hd⟩
theorem forT {a : Addr} {xs : List V} (bs : List Addr) (Pv : Nat → L2.St → Hp → Prop) [hx : StC K H a xs] [hn : NotIn a bs] (h0 : Pv 0 σ H)
    (hs : ∀ (i : Nat) x σ' H', xs[i]? = some x → Chg bs H H' → Pv i σ' H' → g x σ' H' fun σ2 H2 => tb { D with nx := LI bs H (Pv (i + 1)), ct := LI bs H (Pv (i + 1)), bk := D.nx } σ2 H2)
    (hd : ∀ σ' H', Chg bs H H' → Pv xs.length σ' H' → D.nx σ' H') : rForT K (.ref a) g tb D σ H :=
  ⟨a, rfl, ⟨xs, hx.st⟩, for_feeds fd_tup bs Pv h0 (fun _ r => r.t hn.out hx.st) (fun i σ' H' x H'' hi r p y => by
    obtain ⟨rfl, y⟩ := y
    exact hs i x σ' _ y r p) hd⟩
theorem forZ {a b : Addr} {xs ys : List V} (bs : List Addr) (n : Nat) (Pv : Nat → L2.St → Hp → Prop) [hx : SqC K H a xs] [hy : SqC K H b ys] [hna : NotIn a bs] [hnb : NotIn b bs] (hn : min xs.length ys.length = n) (h0 : Pv 0 σ H)
    (hs : ∀ (i : Nat) c d x σ' H' H'', i < n → xs[i]? = some c → ys[i]? = some d → Chg bs H H' → Pv i σ' H' → Pair H' x H'' c d → g x σ' H'' fun σ2 H2 => tb { D with nx := LI bs H (Pv (i + 1)), ct := LI bs H (Pv (i + 1)), bk := D.nx } σ2 H2)
    (hd : ∀ σ' H', Chg bs H H' → Pv n σ' H' → D.nx σ' H') : rForZ K [.ref a, .ref b] g tb D σ H :=
  ⟨a, b, xs, ys, rfl, hx.sq, hy.sq, for_feeds (fd_zip hn) bs Pv h0 (fun _ r => ⟨r.l hna.out hx.sq, r.l hnb.out hy.sq⟩) (fun i σ' H' x H'' hi r p y => by
    obtain ⟨c, d, h1, h2, y⟩ := y
    exact hs i c d x σ' H' H'' hi h1 h2 r p y) hd⟩
theorem forEL {a : Addr} {xs : List V} (bs : List Addr) (Pv : Nat → L2.St → Hp → Prop) [hx : SqC K H a xs] [hn : NotIn a bs] (h0 : Pv 0 σ H)
    (hs : ∀ (i : Nat) c x σ' H' H'', xs[i]? = some c → Chg bs H H' → Pv i σ' H' → Pair H' x H'' (.int (i : Nat)) c → g x σ' H'' fun σ2 H2 => tb { D with nx := LI bs H (Pv (i + 1)), ct := LI bs H (Pv (i + 1)), bk := D.nx } σ2 H2)
    (hd : ∀ σ' H', Chg bs H H' → Pv xs.length σ' H' → D.nx σ' H') : rForEL K [.ref a] g tb D σ H :=
  ⟨a, xs, rfl, hx.sq, for_feeds fd_enum bs Pv h0 (fun _ r => r.l hn.out hx.sq) (fun i σ' H' x H'' hi r p y => by
    obtain ⟨c, h1, y⟩ := y
    exact hs i c x σ' H' H'' h1 r p y) hd⟩
/-! comprehensions by kind: _F what comes out is F, _A each item is as P tells -/
theorem lc1_F {vs : List Nat} {n : Int} (F : Nat → List V) (hn : -(2 ^ 62) ≤ n ∧ n < 2 ^ 62) [hw : Wipe σ vs τ] (hF : F 0 = []) (hz : ∀ i, i < n.toNat → (F i).length < 100000)
    (hs : ∀ D (i : Nat) H', (i : Int) < n → Nw H D → Ex H H' → At H' D (.lst (F i)) → (F i).length < 100000 → g (.int (i : Int)) τ H' fun σ2 H2 => wipe σ2 vs = τ ∧ tt σ2 H2 fun b H3 =>
      if b = true then te σ2 H3 (rApp D (rW D fun ac H5 => Ex H H5 ∧ ac = F (i + 1))) else rW D (fun ac H5 => Ex H H5 ∧ ac = F (i + 1)) H3)
    (hd : ∀ D H', Nw H D → Ex H H' → At H' D (.lst (F n.toNat)) → Q (.ref D) H') : rLc1 [.int n] g tt te vs σ H Q :=
  ⟨n, rfl, hn.1, hn.2, lc_F (fd_rng (lo := 0)) F hF (fun _ _ => trivial) hz (fun D i H' x H'' hi hD e hp z y => by
    obtain ⟨rfl, rfl⟩ := y
    rw [Int.zero_add]
    exact hs D i _ (by omega) hD e hp z) hd⟩
theorem lc2_F {vs : List Nat} {a n : Int} (F : Nat → List V) (hn : -(2 ^ 62) ≤ a ∧ a < 2 ^ 62 ∧ -(2 ^ 62) ≤ n ∧ n < 2 ^ 62) [hw : Wipe σ vs τ] (hF : F 0 = []) (hz : ∀ i, i < (n - a).toNat → (F i).length < 100000)
    (hs : ∀ D (i : Nat) H', a + (i : Int) < n → Nw H D → Ex H H' → At H' D (.lst (F i)) → (F i).length < 100000 → g (.int (a + (i : Int))) τ H' fun σ2 H2 => wipe σ2 vs = τ ∧ tt σ2 H2 fun b H3 =>
      if b = true then te σ2 H3 (rApp D (rW D fun ac H5 => Ex H H5 ∧ ac = F (i + 1))) else rW D (fun ac H5 => Ex H H5 ∧ ac = F (i + 1)) H3)
    (hd : ∀ D H', Nw H D → Ex H H' → At H' D (.lst (F (n - a).toNat)) → Q (.ref D) H') : rLc2 [.int a, .int n] g tt te vs σ H Q :=
  ⟨a, n, rfl, hn, lc_F (fd_rng (lo := a)) F hF (fun _ _ => trivial) hz (fun D i H' x H'' hi hD e hp z y => by
    obtain ⟨rfl, rfl⟩ := y
    exact hs D i _ (by omega) hD e hp z) hd⟩
theorem lcL_F {vs : List Nat} {a : Addr} {xs : List V} (F : Nat → List V) [hx : SqC K H a xs] [hw : Wipe σ vs τ] (hF : F 0 = []) (hz : ∀ i, i < xs.length → (F i).length < 100000)
    (hs : ∀ D (i : Nat) x H', xs[i]? = some x → Nw H D → Ex H H' → At H' D (.lst (F i)) → (F i).length < 100000 → g x τ H' fun σ2 H2 => wipe σ2 vs = τ ∧ tt σ2 H2 fun b H3 =>
      if b = true then te σ2 H3 (rApp D (rW D fun ac H5 => Ex H H5 ∧ ac = F (i + 1))) else rW D (fun ac H5 => Ex H H5 ∧ ac = F (i + 1)) H3)
    (hd : ∀ D H', Nw H D → Ex H H' → At H' D (.lst (F xs.length)) → Q (.ref D) H') : rLcL K (.ref a) g tt te vs σ H Q :=
  ⟨a, rfl, ⟨xs, hx.sq⟩, lc_F fd_list F hF (fun _ e => e.l hx.sq) hz (fun D i H' x H'' hi hD e hp z y => by
    obtain ⟨rfl, y⟩ := y
    exact hs D i x _ y hD e hp z) hd⟩
theorem lcT_F {vs : List Nat} {a : Addr} {xs : List V} (F : Nat → List V) [hx : StC K H a xs] [hw : Wipe σ vs τ] (hF : F 0 = []) (hz : ∀ i, i < xs.length → (F i).length < 100000)
    (hs : ∀ D (i : Nat) x H', xs[i]? = some x → Nw H D → Ex H H' → At H' D (.lst (F i)) → (F i).length < 100000 → g x τ H' fun σ2 H2 => wipe σ2 vs = τ ∧ tt σ2 H2 fun b H3 =>
      if b = true then te σ2 H3 (rApp D (rW D fun ac H5 => Ex H H5 ∧ ac = F (i + 1))) else rW D (fun ac H5 => Ex H H5 ∧ ac = F (i + 1)) H3)
    (hd : ∀ D H', Nw H D → Ex H H' → At H' D (.lst (F xs.length)) → Q (.ref D) H') : rLcT K (.ref a) g tt te vs σ H Q :=
  ⟨a, rfl, ⟨xs, hx.st⟩, lc_F fd_tup F hF (fun _ e => e.t hx.st) hz (fun D i H' x H'' hi hD e hp z y => by
    obtain ⟨rfl, y⟩ := y
    exact hs D i x _ y hD e hp z) hd⟩
theorem lcE_F {vs : List Nat} {z : Str} (F : Nat → List V) [hw : Wipe σ vs τ] (hF : F 0 = []) (hz : ∀ i, i < z.cps.size → (F i).length < 100000)
    (hs : ∀ D (i : Nat) c x H' H'', i < z.cps.size → z.cps[i]? = some c → Nw H D → Ex H H' → At H' D (.lst (F i)) → (F i).length < 100000 → Pair H' x H'' (.int (i : Nat)) (.str ⟨#[c]⟩) → g x τ H'' fun σ2 H2 => wipe σ2 vs = τ ∧ tt σ2 H2 fun b H3 =>
      if b = true then te σ2 H3 (rApp D (rW D fun ac H5 => Ex H H5 ∧ ac = F (i + 1))) else rW D (fun ac H5 => Ex H H5 ∧ ac = F (i + 1)) H3)
    (hd : ∀ D H', Nw H D → Ex H H' → At H' D (.lst (F z.cps.size)) → Q (.ref D) H') : rLcE [.str z] g tt te vs σ H Q :=
  ⟨z, rfl, lc_F fd_enumS F hF (fun _ _ => trivial) hz (fun D i H' x H'' hi hD e hp zz y => by
    obtain ⟨c, hc, y⟩ := y
    exact hs D i c x H' H'' hi hc hD e hp zz y) hd⟩
theorem lcEL_F {vs : List Nat} {a : Addr} {xs : List V} (F : Nat → List V) [hx : SqC K H a xs] [hw : Wipe σ vs τ] (hF : F 0 = []) (hz : ∀ i, i < xs.length → (F i).length < 100000)
    (hs : ∀ D (i : Nat) c x H' H'', xs[i]? = some c → Nw H D → Ex H H' → At H' D (.lst (F i)) → (F i).length < 100000 → Pair H' x H'' (.int (i : Nat)) c → g x τ H'' fun σ2 H2 => wipe σ2 vs = τ ∧ tt σ2 H2 fun b H3 =>
      if b = true then te σ2 H3 (rApp D (rW D fun ac H5 => Ex H H5 ∧ ac = F (i + 1))) else rW D (fun ac H5 => Ex H H5 ∧ ac = F (i + 1)) H3)
    (hd : ∀ D H', Nw H D → Ex H H' → At H' D (.lst (F xs.length)) → Q (.ref D) H') : rLcEL K [.ref a] g tt te vs σ H Q :=
  ⟨a, xs, rfl, hx.sq, lc_F fd_enum F hF (fun _ e => e.l hx.sq) hz (fun D i H' x H'' hi hD e hp zz y => by
    obtain ⟨c, hc, y⟩ := y
    exact hs D i c x H' H'' hc hD e hp zz y) hd⟩
theorem lcZ_F {vs : List Nat} {a b : Addr} {xs ys : List V} (n : Nat) (F : Nat → List V) [hx : SqC K H a xs] [hy : SqC K H b ys] (hn : min xs.length ys.length = n) [hw : Wipe σ vs τ] (hF : F 0 = []) (hz : ∀ i, i < n → (F i).length < 100000)
    (hs : ∀ D (i : Nat) c d x H' H'', i < n → xs[i]? = some c → ys[i]? = some d → Nw H D → Ex H H' → At H' D (.lst (F i)) → (F i).length < 100000 → Pair H' x H'' c d → g x τ H'' fun σ2 H2 => wipe σ2 vs = τ ∧ tt σ2 H2 fun b H3 =>
      if b = true then te σ2 H3 (rApp D (rW D fun ac H5 => Ex H H5 ∧ ac = F (i + 1))) else rW D (fun ac H5 => Ex H H5 ∧ ac = F (i + 1)) H3)
    (hd : ∀ D H', Nw H D → Ex H H' → At H' D (.lst (F n)) → Q (.ref D) H') : rLcZ K [.ref a, .ref b] g tt te vs σ H Q :=
  ⟨a, b, xs, ys, rfl, hx.sq, hy.sq, lc_F (fd_zip hn) F hF (fun _ e => ⟨e.l hx.sq, e.l hy.sq⟩) hz (fun D i H' x H'' hi hD e hp z y => by
    obtain ⟨c, d, h1, h2, y⟩ := y
    exact hs D i c d x H' H'' hi h1 h2 hD e hp z y) hd⟩
theorem lc1_A {vs : List Nat} {n : Int} (P : V → Prop) (hn : n ≤ 100000 ∧ -100000 ≤ n) [hw : Wipe σ vs τ]
    (hs : ∀ D (i : Nat) acc H', (i : Int) < n → Nw H D → Ex H H' → At H' D (.lst acc) → acc.length < 100000 → g (.int (i : Int)) τ H' fun σ2 H2 => wipe σ2 vs = τ ∧ tt σ2 H2 fun b H3 =>
      if b = true then te σ2 H3 (rApp D (rW D fun ac H5 => Ex H H5 ∧ ∃ v, ac = acc ++ [v] ∧ P v)) else rW D (fun ac H5 => Ex H H5 ∧ ∃ v, ac = acc ++ [v] ∧ P v) H3)
    (hd : ∀ D acc H', Nw H D → Ex H H' → At H' D (.lst acc) → acc.length = n.toNat → (∀ v ∈ acc, P v) → Q (.ref D) H') : rLc1 [.int n] g tt te vs σ H Q :=
  ⟨n, rfl, by omega, by omega, lc_A (fd_rng (lo := 0)) P (fun _ _ => trivial) (by omega) (fun D i acc H' x H'' hi hD e hp z y => by
    obtain ⟨rfl, rfl⟩ := y
    rw [Int.zero_add]
    exact hs D i acc _ (by omega) hD e hp z) hd⟩
theorem lcL_A {vs : List Nat} {a : Addr} {xs : List V} (P : V → Prop) [hx : SqC K H a xs] (hz : xs.length ≤ 100000) [hw : Wipe σ vs τ]
    (hs : ∀ D (i : Nat) x acc H', xs[i]? = some x → Nw H D → Ex H H' → At H' D (.lst acc) → acc.length < 100000 → g x τ H' fun σ2 H2 => wipe σ2 vs = τ ∧ tt σ2 H2 fun b H3 =>
      if b = true then te σ2 H3 (rApp D (rW D fun ac H5 => Ex H H5 ∧ ∃ v, ac = acc ++ [v] ∧ P v)) else rW D (fun ac H5 => Ex H H5 ∧ ∃ v, ac = acc ++ [v] ∧ P v) H3)
    (hd : ∀ D acc H', Nw H D → Ex H H' → At H' D (.lst acc) → acc.length = xs.length → (∀ v ∈ acc, P v) → Q (.ref D) H') : rLcL K (.ref a) g tt te vs σ H Q :=
  ⟨a, rfl, ⟨xs, hx.sq⟩, lc_A fd_list P (fun _ e => e.l hx.sq) hz (fun D i x' H' x H'' hi hD e hp z y => by
    obtain ⟨rfl, y⟩ := y
    exact hs D i x x' _ y hD e hp z) hd⟩
/-- _P: any invariant; what stood stands -/
theorem lcL_P {vs : List Nat} {a : Addr} {xs : List V} (Pv : Addr → Nat → List V → Hp → Prop) [hx : SqC K H a xs] [hw : Wipe σ vs τ] (h0 : ∀ D H1, Nw H D → Ex H H1 → At H1 D (.lst []) → Pv D 0 [] H1)
    (hs : ∀ D (i : Nat) x acc H', xs[i]? = some x → Nw H D → Ex H H' → At H' D (.lst acc) → Pv D i acc H' → g x τ H' fun σ2 H2 => wipe σ2 vs = τ ∧ tt σ2 H2 fun b H3 =>
      if b = true then te σ2 H3 (rApp D (rW D fun ac H5 => Ex H H5 ∧ Pv D (i + 1) ac H5)) else rW D (fun ac H5 => Ex H H5 ∧ Pv D (i + 1) ac H5) H3)
    (hd : ∀ D acc H', Nw H D → Ex H H' → At H' D (.lst acc) → Pv D xs.length acc H' → Q (.ref D) H') : rLcL K (.ref a) g tt te vs σ H Q :=
  ⟨a, rfl, ⟨xs, hx.sq⟩, lc_feeds fd_list [] Pv h0 (fun _ e => Ex.l e hx.sq) (fun D i acc H' x H'' hi hD e hp p y => by
    obtain ⟨rfl, y⟩ := y
    exact hs D i x acc _ y hD e hp p) hd⟩
theorem lc1_P {vs : List Nat} {n : Int} (bs : List Addr) (Pv : Addr → Nat → List V → Hp → Prop) (hn : -(2 ^ 62) ≤ n ∧ n < 2 ^ 62) [hw : Wipe σ vs τ] (h0 : ∀ D H1, Nw H D → Ex H H1 → At H1 D (.lst []) → Pv D 0 [] H1)
    (hs : ∀ D (i : Nat) acc H', (i : Int) < n → Nw H D → Chg bs H H' → At H' D (.lst acc) → Pv D i acc H' → g (.int (i : Int)) τ H' fun σ2 H2 => wipe σ2 vs = τ ∧ tt σ2 H2 fun b H3 =>
      if b = true then te σ2 H3 (rApp D (rW D fun ac H5 => Chg bs H H5 ∧ Pv D (i + 1) ac H5)) else rW D (fun ac H5 => Chg bs H H5 ∧ Pv D (i + 1) ac H5) H3)
    (hd : ∀ D acc H', Nw H D → Chg bs H H' → At H' D (.lst acc) → Pv D n.toNat acc H' → Q (.ref D) H') : rLc1 [.int n] g tt te vs σ H Q :=
  ⟨n, rfl, hn.1, hn.2, lc_feeds (fd_rng (lo := 0)) bs Pv h0 (fun _ _ => trivial) (fun D i acc H' x H'' hi hD e hp p y => by
    obtain ⟨rfl, rfl⟩ := y
    rw [Int.zero_add]
    exact hs D i acc _ (by omega) hD e hp p) hd⟩
theorem g_pair {H H' : Hp} {x a b : V} {u : TGs} {R : L2.St → Hp → Prop} (h : Pair H x H' a b) (q : ∀ T, Nw H T → Ex H H' → At H' T (.tup [a, b]) → u [a, b] σ H' R) : gTup K 2 u x σ H' R := by
  obtain ⟨T, rfl, h1, h2, h3⟩ := h
  exact ⟨T, _, rfl, .inl (.inl h3.eq), rfl, q T h1 h2 h3⟩
end
theorem rep_succ {i : Nat} : (List.replicate i true).map V.bl ++ [V.bl true] = (List.replicate (i + 1) true).map V.bl := by
  rw [List.replicate_succ', List.map_append]
  rfl
theorem rep_succD {i : Nat} {p : Prop} [Decidable p] (h : p) : (List.replicate i true).map V.bl ++ [V.bl (decide p)] = (List.replicate (i + 1) true).map V.bl := by
  rw [decide_eq_true h]
  exact rep_succ

section
variable {K : PySem.W.Frag} {σ : L2.St} {H : Hp} {R : L2.St → Hp → Prop} {v : V} {r : List V} {t : TG} {u : TGs}
instance : Step (gCons t u (v :: r) σ H R) (t v σ H fun σ' H' => u r σ' H' R) := ⟨fun q => ⟨v, r, rfl, q⟩⟩
instance : Step (gNil [] σ H R) (R σ H) := ⟨fun q => ⟨rfl, q⟩⟩
theorem g_gtup {a : Addr} {xs : List V} {n : Nat} [h : StC K H a xs] (hn : xs.length = n) (q : u xs σ H R) : gTup K n u (.ref a) σ H R := ⟨a, xs, rfl, h.st, hn, q⟩
end
theorem g_str {H : Hp} {Q : VK} {i : Int} (h : -(2 ^ 200) < i ∧ i < 2 ^ 200) (q : (Str.ofString (toString i)).length ≤ 1921 → Q (.str (toString i)) H) : rStr [V.int i] H Q := by
  have h2 : i.natAbs.log2 < 1920 := Nat.lt_of_lt_of_le (PySem.Flt.log2_lt_of (k := 200) (by decide) (by omega)) (by decide)
  exact ⟨i, rfl, h2, q (PyProof.Rows.int_text_len_1921 h2)⟩
theorem g_all {K : PySem.W.Frag} {H : Hp} {Q : VK} {a : Addr} {bs : List Bool} [h : SqC K H a (bs.map V.bl)] (q : Q (.bl (bs.all _root_.id)) H) : rAll K [V.ref a] H Q := ⟨a, bs, rfl, h.sq, q⟩
theorem g_allT {K : PySem.W.Frag} {H : Hp} {Q : VK} {a : Addr} {n : Nat} [h : SqC K H a ((List.replicate n true).map V.bl)] (q : Q (.bl true) H) : rAll K [V.ref a] H Q := ⟨a, _, rfl, h.sq, by simpa using q⟩
theorem g_sum {K : PySem.W.Frag} {H : Hp} {Q : VK} {a : Addr} {ns : List Int} [h : SqC K H a (ns.map V.int)] (q : Q (.int ns.sum) H) : rSum K [V.ref a] H Q := ⟨a, ns, rfl, h.sq, q⟩
theorem mulx128 {i j : Int} (h : -(2 ^ 300) < i ∧ i < 2 ^ 300) (h2 : -(2 ^ 300) < j ∧ j < 2 ^ 300) : CMulX i j := mulx_ok (a := 300) (b := 300) (by omega) (by omega) (by decide)
theorem q_int {H : Hp} {Q : VK} {a b : Int} (k : Q (.int a) H) (e : a = b) : Q (.int b) H := e ▸ k
theorem q_bl {H : Hp} {Q : VK} {a b : Bool} (k : Q (.bl a) H) (e : a = b) : Q (.bl b) H := e ▸ k
theorem q_dec {H : Hp} {Q : VK} {p : Prop} {_ : Decidable p} (k : Q (.bl true) H) (e : p) : Q (.bl (decide p)) H := by rw [decide_eq_true e]; exact k
theorem q_decN {H : Hp} {Q : VK} {p : Prop} {_ : Decidable p} (k : Q (.bl false) H) (e : ¬ p) : Q (.bl (decide p)) H := by rw [decide_eq_false e]; exact k
section
variable {K : PySem.W.Frag} {H : Hp} {Q : VK}
theorem g_isi {x c : V} {t u : Value} {b : Bool} (h1 : ClsV c u) (h2 : TyX K H x t) (h3 : PySem.W.kitOne K t u = some b) (q : Q (.bl b) H) : rIsi K [x, c] H Q := ⟨x, c, t, u, b, rfl, h1, h2, h3, q⟩
instance {i : Int} : Step (rIsi K [.int i, .ty "int"] H Q) (Q (.bl true) H) := ⟨g_isi (.ty _) (.base (.int i)) (kit_ty (by decide +kernel))⟩
instance {i : Int} : Step (rIsi K [.int i, .ty "bool"] H Q) (Q (.bl false) H) := ⟨g_isi (.ty _) (.base (.int i)) (kit_ty (by decide +kernel))⟩
instance {i : Bool} : Step (rIsi K [.bl i, .ty "int"] H Q) (Q (.bl true) H) := ⟨g_isi (.ty _) (.base (.bl i)) (kit_ty (by decide +kernel))⟩
instance {i : Bool} : Step (rIsi K [.bl i, .ty "bool"] H Q) (Q (.bl true) H) := ⟨g_isi (.ty _) (.base (.bl i)) (kit_ty (by decide +kernel))⟩
instance : Step (rIsi K [.non, .ty "int"] H Q) (Q (.bl false) H) := ⟨g_isi (.ty _) (.base .non) (kit_ty (by decide +kernel))⟩
instance : Step (rIsi K [.non, .ty "bool"] H Q) (Q (.bl false) H) := ⟨g_isi (.ty _) (.base .non) (kit_ty (by decide +kernel))⟩
instance {z : Str} : Step (rIsi K [.str z, .ty "str"] H Q) (Q (.bl true) H) := ⟨g_isi (.ty _) (.base (.str z)) (kit_ty (by decide +kernel))⟩
theorem g_isL {p : Addr} {xs : List V} [h : At H p (.lst xs)] (q : Q (.bl true) H) : rIsi K [.ref p, .ty "list"] H Q := g_isi (.ty _) (.base (.lst h.eq)) (kit_ty (by decide +kernel)) q
theorem g_isT {p : Addr} {xs : List V} [h : At H p (.tup xs)] (q : Q (.bl true) H) : rIsi K [.ref p, .ty "tuple"] H Q := g_isi (.ty _) (.base (.tup h.eq)) (kit_ty (by decide +kernel)) q
instance (priority := high) : Step (rInt [V.bl true] H Q) (Q (.int 1) H) := ⟨fun q => g_intB q⟩
instance (priority := high) : Step (rInt [V.bl false] H Q) (Q (.int 0) H) := ⟨fun q => g_intB q⟩
instance (priority := high) {p : Prop} [Decidable p] : Step (rInt [V.bl (decide p)] H Q) (Q (.int (if p then 1 else 0)) H) := ⟨fun q => g_intB (by
  by_cases h : p
  · rw [if_pos h] at q
    rw [decide_eq_true h]
    exact q
  · rw [if_neg h] at q
    rw [decide_eq_false h]
    exact q)⟩
end

/-! ### the same with the written part named (within a comprehension it must not speak of the block) -/
section
variable {X : Cx} {K : PySem.W.Frag}
theorem opAddK (h : X.K = K) : OpR X (binaryOp .Add) (rAdd K) := h ▸ opAdd
theorem opMulK (h : X.K = K) : OpR X (binaryOp .Mult) (rMul K) := h ▸ opMul
theorem opEqK (h : X.K = K) (hu : X.A.units + 64 < cLine) : OpR X (compareOp .Eq) (rEqX K) := h ▸ opEq hu
theorem opNeK (h : X.K = K) (hu : X.A.units + 64 < cLine) : OpR X (compareOp .NotEq) (rNeX K) := h ▸ opNe hu
theorem opInK (h : X.K = K) : OpR X (compareOp .In) (rIn K false) := h ▸ op_in_seq
theorem opNotInK (h : X.K = K) : OpR X (compareOp .NotIn) (rIn K true) := h ▸ op_notIn_seq
theorem ixSeqK (h : X.K = K) : IxR X (rIx K) := h ▸ ix_seq
theorem callLenK (h : X.K = K) : CallR X (.builtin "len") (rLen K) := h ▸ callLen
theorem callListOfK (h : X.K = K) : CallR X (.type "list") (rListOf K) := h ▸ callListOf
theorem slAnyK (h : X.K = K) : SlR X (rSlX K) := h ▸ slAny
theorem callSumK (h : X.K = K) (hc : X.calm = true) : CallR X (.builtin "sum") (rSum K) := h ▸ cr_sum hc
theorem callMinK (h : X.K = K) (hc : X.calm = true) : CallR X (.builtin "min") (rMin K) := h ▸ cr_min hc
theorem callMaxK (h : X.K = K) (hc : X.calm = true) : CallR X (.builtin "max") (rMax K) := h ▸ cr_max hc
theorem callAllK (h : X.K = K) (hc : X.calm = true) : CallR X (.builtin "all") (rAll K) := h ▸ cr_all hc
theorem callAnyK (h : X.K = K) (hc : X.calm = true) : CallR X (.builtin "any") (rAny K) := h ▸ cr_any hc
theorem callIsiK (h : X.K = K) : CallR X (.builtin "isinstance") (rIsi K) := h ▸ call_isi
theorem mtIndexK (h : X.K = K) : MtR X "list.index" (rIndex K) := h ▸ mt_index
variable {o e : Expr} {es : List Expr} {to : TE} {t : TA} {name : Str} {apos cpos : Pos} {T id : String} {r : V → List V → Hp → VK → Prop}
theorem pe_bm0K (h : X.K = K) (pa : PlainAttrs T) (slot : Slot T name id) (hty : typeOf (.builtin id) = pure (.type "method_descriptor")) (hm : MtR X id r) (ho : PE X o to)
    (hbase : attributeBase o name X.env (eval o X.env) = eval o X.env := by rfl) (hline : (apos.endLine == cpos.line) = true := by rfl) : PE X (.Call (.Attribute o name apos) [] [] cpos) (tBM0 K T r to) := h ▸ pe_bm0 pa slot hty hm ho hbase hline
theorem pe_bmK (h : X.K = K) (pa : PlainAttrs T) (slot : Slot T name id) (hty : typeOf (.builtin id) = pure (.type "method_descriptor")) (hm : MtR X id r) (ho : PE X o to) (ha : PA X (e :: es) t)
    (hbase : attributeBase o name X.env (eval o X.env) = eval o X.env := by rfl)
    (hfew : ((backTo cpos (starEach (e :: es) X.env)).all (fun x => !x.1) && (backToKw cpos (keywordEach [] X.env)).all (fun x => x.1.isSome)
      && decide ((e :: es).length + ([] : List Keyword).length + (if ([] : List Keyword).isEmpty then 0 else 1) < 30)) = true := by rfl)
    (hline : (apos.endLine == cpos.line) = true := by rfl) (hs : starEach (e :: es) X.env = (false, eval e X.env) :: starEach es X.env := by rfl) (hplain : (backTo cpos (starEach es X.env)).any (·.1) = false := by rfl) :
    PE X (.Call (.Attribute o name apos) (e :: es) [] cpos) (tBM K T r to t) := h ▸ pe_bm pa slot hty hm ho ha hbase hfew hline hs hplain
theorem pi_listK {tg l : Expr} {tl : TE} (h : X.K = K) (hl : PE X l tl) : PI X tg l (iList K tl) := h ▸ pi_list hl
end
theorem cdivW {j : Int} {i : Int} (h : 0 < j) (h2 : j < 2 ^ 200) : CDivW i j := wide_div (b := 200) h (by omega) (by decide) (by decide)

section
variable {K : PySem.W.Frag} {H : Hp} {Q : VK} {lo hi : Option Int}
theorem g_slL {p : Addr} {xs : List V} [h : SqC K H p xs] (q : ∀ p H2, Nw H p → Ex H H2 → At H2 p (.lst (cutV xs lo hi)) → Q (.ref p) H2) : rSlX K (.ref p) lo hi H Q :=
  .inl ⟨p, xs, rfl, h.sq, g_new q⟩
theorem g_slS {z : Str} (h : z.length ≤ 100000) (q : Q (.str (cutS z lo hi)) H) : rSlX K (.str z) lo hi H Q :=
  .inr (.inl ⟨z, rfl, Nat.le_trans h (by decide), q⟩)
theorem g_listOf {p : Addr} {xs : List V} [h : SqC K H p xs] (q : ∀ p H2, Nw H p → Ex H H2 → At H2 p (.lst xs) → Q (.ref p) H2) :
    rListOf K [V.ref p] H Q := ⟨p, xs, rfl, .inl h.sq, g_new q⟩
end
/-! ### texts over 0 and 1 -/
def bc (b : Bool) : Nat := if b then 49 else 48
theorem bc_inj {a b : Bool} (h : bc a = bc b) : a = b := by cases a <;> cases b <;> simp_all [bc]
def tx (l : List Bool) : Str := ⟨(l.map bc).toArray⟩
theorem tx_list (l : List Bool) : (tx l).cps.toList = l.map bc := by simp [tx]
theorem tx_len (l : List Bool) : (tx l).length = l.length := by simp [tx, Str.length]
theorem map_bc_inj : ∀ {a b : List Bool}, a.map bc = b.map bc → a = b
  | [], [], _ => rfl
  | [], _ :: _, h => by simp at h
  | _ :: _, [], h => by simp at h
  | x :: a, y :: b, h => by
    simp only [List.map_cons, List.cons.injEq] at h
    rw [bc_inj h.1, map_bc_inj h.2]
theorem str_ext {a b : Str} (h : a.cps.toList = b.cps.toList) : a = b := by
  obtain ⟨a⟩ := a
  obtain ⟨b⟩ := b
  congr 1
  exact Array.toList_inj.mp h
theorem tx_inj {a b : List Bool} (h : tx a = tx b) : a = b := map_bc_inj (by rw [← tx_list, ← tx_list, h])
theorem tx_eq {a b : List Bool} : tx a = tx b ↔ a = b := ⟨tx_inj, fun h => by rw [h]⟩
theorem tx_nil : tx [] = ("" : Str) := rfl
theorem tx_0 : tx [false] = ("0" : Str) := rfl
theorem tx_1 : tx [true] = ("1" : Str) := rfl
theorem tx_01 : tx [false, true] = ("01" : Str) := rfl
theorem tx_app (a b : List Bool) : tx a ++ tx b = tx (a ++ b) := by
  apply str_ext
  show ((tx a).cps ++ (tx b).cps).toList = _
  rw [Array.toList_append, tx_list, tx_list, tx_list, List.map_append]
theorem tx_rep1 (b : Bool) (n : Nat) : repS (tx [b]) n = tx (List.replicate n b) := by
  apply str_ext
  rw [tx_list]
  unfold repS
  simp only [tx_list, List.map_cons, List.map_nil, List.map_replicate]
  induction n with
  | zero => rfl
  | succ n ih => rw [List.replicate_succ, List.flatten_cons, List.replicate_succ]; simpa using ih
theorem tx_one (b : Bool) : tx [b] = ⟨#[bc b]⟩ := rfl
theorem tx_at {l : List Bool} {i c : Nat} (h : (tx l).cps[i]? = some c) : ∃ b, l[i]? = some b ∧ (⟨#[c]⟩ : Str) = tx [b] := by
  have h2 : (l.map bc)[i]? = some c := by rw [← tx_list, Array.getElem?_toList]; exact h
  rw [List.getElem?_map] at h2
  cases e : l[i]? with
  | none => rw [e] at h2; simp at h2
  | some b =>
    rw [e] at h2
    simp at h2
    exact ⟨b, rfl, by rw [tx_one, h2]⟩
theorem tx_atI {l : List Bool} {i : Int} {b : Bool} (h : atI l i = some b) : atI (tx l).cps.toList i = some (bc b) := by
  rw [tx_list]
  unfold atI at *
  rw [List.length_map]
  cases e : ixN l.length i with
  | none => rw [e] at h; simp at h
  | some j =>
    rw [e] at h
    show (l.map bc)[j]? = _
    rw [List.getElem?_map]
    have h' : l[j]? = some b := h
    rw [h']
    rfl
theorem tx_cut (l : List Bool) (lo hi : Option Int) : cutS (tx l) lo hi = tx ((l.drop (HT.sIx l.length 0 lo)).take (HT.sIx l.length l.length hi - HT.sIx l.length 0 lo)) := by
  apply str_ext
  unfold cutS
  rw [tx_list, tx_list, tx_len, List.map_take, List.map_drop]
theorem cnt_tx (b : Bool) (l : List Bool) : PyProof.Rows.cnt (bc b) (l.map bc) = (l.count b : Nat) := by
  induction l with
  | nil => rfl
  | cons x l ih =>
    rw [List.map_cons, PyProof.Rows.cnt_cons, ih, List.count_cons]
    cases b <;> cases x <;> simp [bc] <;> omega
theorem tx_count (l : List Bool) (b : Bool) : Txt.count (tx l) (tx [b]) = (l.count b : Nat) := by
  rw [← cnt_tx, ← tx_list]
  exact PyProof.Rows.count_is (tx l) (bc b)
theorem strSub_list (x : Str) (i j : Nat) : (Builtin.Str.strSub x i j).cps.toList = (x.cps.toList.drop i).take (j - i) := by
  unfold Builtin.Str.strSub
  rw [Array.toList_extract, List.extract_eq_take_drop]
theorem drop_tw {α : Type} (p : α → Bool) : ∀ l : List α, l.drop (l.takeWhile p).length = l.dropWhile p
  | [] => rfl
  | a :: r => by
    rw [List.takeWhile_cons, List.dropWhile_cons]
    split
    · rw [List.length_cons, List.drop_succ_cons, drop_tw p r]
    · rfl
theorem tx_lstrip0 (l : List Bool) : Txt.lstripChars (tx l) (tx [false]) = tx (l.dropWhile (! ·)) := by
  apply str_ext
  unfold Txt.lstripChars
  rw [PyProof.Rows.stripBy_eq, strSub_list, tx_list, tx_list]
  have hp : ∀ b, (tx [false]).cps.contains (bc b) = !b := by intro b; cases b <;> simp [tx, bc]
  have e1 : PySem.stripLo (tx [false]).cps.contains true (tx l) = (l.takeWhile (! ·)).length := by
    unfold PySem.stripLo
    simp only [if_true]
    rw [tx_list, List.takeWhile_map, List.length_map]
    congr 2
    funext b
    exact hp b
  have e2 : ∀ lo, PySem.stripHi (tx [false]).cps.contains false (tx l) lo = l.length := by
    intro lo
    unfold PySem.stripHi
    simp [tx_len]
  rw [e1, e2, ← List.map_drop, drop_tw, List.take_of_length_le]
  rw [List.length_map, ← drop_tw, List.length_drop]
  exact Nat.le_refl _
theorem tx_strip01 (l : List Bool) : Txt.stripChars (tx l) (tx [false, true]) = tx [] := by
  apply str_ext
  unfold Txt.stripChars
  rw [PyProof.Rows.stripBy_eq, strSub_list, tx_list]
  have hp : ∀ b, (tx [false, true]).cps.contains (bc b) = true := by intro b; cases b <;> simp [tx, bc]
  have e1 : PySem.stripLo (tx [false, true]).cps.contains true (tx l) = l.length := by
    unfold PySem.stripLo
    simp only [if_true]
    rw [tx_list, List.takeWhile_map, List.length_map]
    congr 1
    have hp' : ((tx [false, true]).cps.contains ∘ bc) = fun _ => true := by funext b; exact hp b
    rw [hp']
    clear hp hp'
    induction l with
    | nil => rfl
    | cons a l ih => rw [List.takeWhile_cons, if_pos rfl, ih]
  rw [e1, ← List.map_drop, List.drop_length, tx_list]
  simp
theorem tx_starts (l m : List Bool) : Txt.startswith (tx l) (tx m) = (l.take m.length == m) := by
  unfold Txt.startswith
  rw [tx_len, tx_len, Nat.zero_add]
  have e : Builtin.Str.subAt (tx l) (tx m) 0 = (l.take m.length == m) := by
    rw [Bool.eq_iff_iff]
    unfold Builtin.Str.subAt
    rw [beq_iff_eq, beq_iff_eq, ← Array.toList_inj, Array.toList_extract, List.extract_eq_take_drop, tx_list, tx_list, tx_len]
    simp only [List.drop_zero, Nat.zero_add, Nat.sub_zero]
    rw [← List.map_take]
    exact ⟨map_bc_inj, fun h => by rw [h]⟩
  rw [e]
  by_cases h : m.length ≤ l.length
  · simp [h]
  · have : ¬ (l.take m.length = m) := by
      intro q
      have := congrArg List.length q
      rw [List.length_take] at this
      omega
    simp [h, this]
theorem tx_join (ls : List (List Bool)) : Txt.join (tx []) (ls.map tx) = tx ls.flatten := by
  apply str_ext
  rw [tx_list]
  unfold Txt.join Builtin.Str.glued
  have h : ∀ (r : List (List Bool)) (acc : Array Nat), ((r.map tx).foldl (fun acc p => acc ++ (tx []).cps ++ p.cps) acc).toList = acc.toList ++ (r.flatten).map bc := by
    intro r
    induction r with
    | nil => intro acc; simp
    | cons x r ih =>
      intro acc
      rw [List.map_cons, List.foldl_cons, ih]
      simp [tx]
  cases ls with
  | nil => rfl
  | cons x r =>
    simp only [List.map_cons, List.drop_succ_cons, List.drop_zero, List.headD_cons]
    rw [h, tx_list]
    simp
/-! ### steps over texts of 0 and 1 -/
def rCnt : V → List V → Hp → VK → Prop := fun x xs H Q => ∃ a b, x = .str a ∧ xs = [.str b] ∧ Q (.int (Txt.count a b)) H
def rStarts : V → List V → Hp → VK → Prop := fun x xs H Q => ∃ a b, x = .str a ∧ xs = [.str b] ∧ Q (.bl (Txt.startswith a b)) H
def rStripC : V → List V → Hp → VK → Prop := fun x xs H Q => ∃ a b, x = .str a ∧ xs = [.str b] ∧ a.length ≤ sizeLine ∧ Q (.str (Txt.stripChars a b)) H
def rLstripC : V → List V → Hp → VK → Prop := fun x xs H Q => ∃ a b, x = .str a ∧ xs = [.str b] ∧ a.length ≤ sizeLine ∧ Q (.str (Txt.lstripChars a b)) H
def rJoin (K : PySem.W.Frag) : V → List V → Hp → VK → Prop := fun x xs H Q => ∃ a p, ∃ ys : List Str, x = .str a ∧ xs = [.ref p] ∧ (SqL K H p (ys.map V.str) ∨ SqT K H p (ys.map V.str)) ∧
    (ys.map (·.length)).sum + ys.length * a.length ≤ 16777216 ∧ Q (.str (Txt.join a ys)) H
section
variable {X : Cx} {K : PySem.W.Frag}
theorem mtCount : MtR X "str.count" rCnt := mt_count
theorem mtStarts : MtR X "str.startswith" rStarts := mt_startswith
theorem mtStripC : MtR X "str.strip" rStripC := mt_stripChars
theorem mtLstripC : MtR X "str.lstrip" rLstripC := mt_lstripChars
theorem mtJoinK (h : X.K = K) : MtR X "str.join" (rJoin K) := h ▸ mt_join
end
section
variable {K : PySem.W.Frag} {σ : L2.St} {H : Hp} {Q : VK} {l m : List Bool} {b : Bool}
theorem szT {n : Nat} (h : l.length ≤ n) (hn : n ≤ 100000 := by decide) : (tx l).length ≤ 100000 := by rw [tx_len]; omega
instance (priority := high) : Step (tC (.str ("0" : Str)) σ H Q) (Q (.str (tx [false])) H) := ⟨fun q => q⟩
instance (priority := high) : Step (tC (.str ("1" : Str)) σ H Q) (Q (.str (tx [true])) H) := ⟨fun q => q⟩
instance (priority := high) : Step (tC (.str ("" : Str)) σ H Q) (Q (.str (tx [])) H) := ⟨fun q => q⟩
instance (priority := high) : Step (tC (.str ("01" : Str)) σ H Q) (Q (.str (tx [false, true])) H) := ⟨fun q => q⟩
theorem g_addT (h : l.length + m.length ≤ 100000) (q : Q (.str (tx (l ++ m))) H) : rAdd K (.str (tx l)) (.str (tx m)) H Q := g_addS (by rw [tx_len, tx_len]; exact h) (by rw [tx_app]; exact q)
theorem g_mulT {n : Int} (h : n ≤ 100000 ∧ -100000 ≤ n) (q : Q (.str (tx (List.replicate n.toNat b))) H) : rMul K (.str (tx [b])) (.int n) H Q := by
  refine .inr (.inr (.inl ⟨tx [b], n, rfl, rfl, ⟨by omega, by omega, ?_⟩, ?_⟩))
  · rw [tx_len, List.length_singleton]; omega
  · rw [tx_rep1]; exact q
theorem g_lenT (h : l.length ≤ 100000) (q : Q (.int (l.length : Nat)) H) : rLen K [.str (tx l)] H Q := g_len (len_s (by rw [tx_len]; exact h)) (by rw [tx_len]; exact q)
instance (priority := high) : Step (rEqX K (.str (tx l)) (.str (tx m)) H Q) (Q (.bl (decide (l = m))) H) := ⟨fun q => g_eqS (by
  by_cases h : l = m
  · rw [decide_eq_true (tx_eq.mpr h)]; rw [decide_eq_true h] at q; exact q
  · rw [decide_eq_false (fun e => h (tx_inj e))]; rw [decide_eq_false h] at q; exact q)⟩
instance (priority := high) : Step (rNeX K (.str (tx l)) (.str (tx m)) H Q) (Q (.bl (!decide (l = m))) H) := ⟨fun q => g_neS (by
  by_cases h : l = m
  · rw [decide_eq_true (tx_eq.mpr h)]; rw [decide_eq_true h] at q; exact q
  · rw [decide_eq_false (fun e => h (tx_inj e))]; rw [decide_eq_false h] at q; exact q)⟩
instance : Step (rCnt (.str (tx l)) [.str (tx [b])] H Q) (Q (.int (l.count b : Nat)) H) := ⟨fun q => ⟨_, _, rfl, rfl, by rw [tx_count]; exact q⟩⟩
instance : Step (rStarts (.str (tx l)) [.str (tx m)] H Q) (Q (.bl (l.take m.length == m)) H) := ⟨fun q => ⟨_, _, rfl, rfl, by rw [tx_starts]; exact q⟩⟩
theorem g_lstrip0 (h : l.length ≤ 100000) (q : Q (.str (tx (l.dropWhile (! ·)))) H) : rLstripC (.str (tx l)) [.str (tx [false])] H Q :=
  ⟨_, _, rfl, rfl, Nat.le_trans (szT h) (by decide), by rw [tx_lstrip0]; exact q⟩
theorem g_strip01 (h : l.length ≤ 100000) (q : Q (.str (tx [])) H) : rStripC (.str (tx l)) [.str (tx [false, true])] H Q :=
  ⟨_, _, rfl, rfl, Nat.le_trans (szT h) (by decide), by rw [tx_strip01]; exact q⟩
theorem g_joinT {p : Addr} {ls : List (List Bool)} [hp : SqC K H p (ls.map fun l => V.str (tx l))] (hz : ls.flatten.length ≤ 100000) (q : Q (.str (tx ls.flatten)) H) : rJoin K (.str (tx [])) [.ref p] H Q := by
  refine ⟨tx [], p, ls.map tx, rfl, rfl, .inl (by rw [List.map_map]; exact hp.sq), ?_, by rw [tx_join]; exact q⟩
  rw [List.map_map, tx_len, List.length_nil, Nat.mul_zero, Nat.add_zero]
  have e : (ls.map (Str.length ∘ tx)).sum = ls.flatten.length := by
    rw [List.length_flatten]
    congr 1
    apply List.map_congr_left
    intro a _
    exact tx_len a
  have e2 : (ls.map ((fun x => x.length) ∘ tx)).sum = ls.flatten.length := e
  rw [e2]
  omega
theorem g_ixTx {i : Int} (hz : l.length ≤ 100000) (h : atI l i = some b) (q : Q (.str (tx [b])) H) : rIx K (.str (tx l)) (.int i) H Q :=
  .inr (.inr ⟨tx l, i, bc b, rfl, rfl, Nat.le_trans (szT hz) (by decide), tx_atI h, q⟩)
theorem atI_nat {α : Type} {l : List α} {n : Nat} {x : α} (h : l[n]? = some x) : atI l (n : Int) = some x := by
  unfold atI
  have hl := (List.getElem?_eq_some_iff.mp h).1
  have e : ixN l.length (n : Int) = some n := by
    unfold ixN
    rw [if_pos (by omega), if_pos (by omega)]
    simp
  rw [e]
  exact h
theorem g_slT {lo hi : Option Int} (h : l.length ≤ 100000) (q : Q (.str (tx ((l.drop (HT.sIx l.length 0 lo)).take (HT.sIx l.length l.length hi - HT.sIx l.length 0 lo)))) H) : rSlX K (.str (tx l)) lo hi H Q :=
  g_slS (szT h) (by rw [tx_cut]; exact q)
theorem tx_char {i c : Nat} (h : (tx l).cps[i]? = some c) : ∃ b, l[i]? = some b ∧ (⟨#[c]⟩ : Str) = tx [b] := tx_at h
theorem tx_size : (tx l).cps.size = l.length := tx_len l
end
theorem of_all {α : Type} {f : α → V} : ∀ {acc : List V}, (∀ v ∈ acc, ∃ x, v = f x) → ∃ xs : List α, acc = xs.map f
  | [], _ => ⟨[], rfl⟩
  | v :: r, h => by
    obtain ⟨x, hx⟩ := h v (List.mem_cons_self ..)
    obtain ⟨xs, e⟩ := of_all (fun u hu => h u (List.mem_cons_of_mem _ hu))
    exact ⟨x :: xs, by rw [hx, e]; rfl⟩
theorem take_snoc {α : Type} {l : List α} {i : Nat} {x : α} (h : l[i]? = some x) : l.take (i + 1) = l.take i ++ [x] := by
  rw [List.take_add_one, h]
  rfl
theorem take_map_snoc {α β : Type} {l : List α} {f : α → β} {i : Nat} {x : α} (h : l[i]? = some x) : (l.take i).map f ++ [f x] = (l.take (i + 1)).map f := by
  rw [take_snoc h, List.map_append]
  rfl
theorem map_at {α β : Type} {l : List α} {f : α → β} {i : Nat} {y : β} (h : (l.map f)[i]? = some y) : ∃ x, l[i]? = some x ∧ y = f x := by
  rw [List.getElem?_map] at h
  cases e : l[i]? with
  | none => rw [e] at h; simp at h
  | some x => rw [e] at h; simp at h; exact ⟨x, rfl, h.symm⟩
theorem g_cat {K : PySem.W.Frag} {H : Hp} {Q : VK} {l b : Addr} {xs zs : List V} [h1 : At H l (.lst xs)] [h2 : At H b (.lst zs)] (hz : xs.length + zs.length ≤ 100000) (q : ∀ p H2, Nw H p → Ex H H2 → At H2 p (.lst (xs ++ zs)) → Q (.ref p) H2) : rAdd K (.ref l) (.ref b) H Q :=
  .inr (.inr (.inl ⟨l, b, xs, zs, rfl, rfl, h1.eq, h2.eq, Nat.le_trans hz (by decide), g_new q⟩))
section
variable {X : Cx} {K : PySem.W.Frag} {e e2 : Expr} {ta : TA} {p pos tpos : Pos} {elts : List Expr} {kk : Nat}
theorem pi_zipK (h : X.K = K) (hg : Gl X "zip") (hm : X.mg "zip" = none) (ha : PA X [e, e2] ta)
    (hs : starEach [e, e2] X.env = (false, eval e X.env) :: starEach [e2] X.env := by rfl) (hpl : (backTo pos (starEach [e2] X.env)).any (·.1) = false := by rfl) :
    PI X (.Tuple elts kk tpos) (.Call (.Name "zip" p) [e, e2] [] pos) (iZip K ta) := h ▸ pi_zip hg hm ha hs hpl
theorem pi_enumK (h : X.K = K) (hg : Gl X "enumerate") (hm : X.mg "enumerate" = none) (ha : PA X [e] ta) (hs : starEach [e] X.env = [(false, eval e X.env)] := by rfl) :
    PI X (.Tuple elts kk tpos) (.Call (.Name "enumerate" p) [e] [] pos) (iEnum K ta) := h ▸ pi_enum hg hm ha hs
end
section
variable {K : PySem.W.Frag} {H : Hp} {Q : VK} {p : Addr} {xs acc : List V} {R : Prop}
instance [h : SqC K H p xs] : Step (rLen K [.ref p] H Q) (Q (.int (xs.length : Nat)) H) := ⟨g_len len_l⟩
instance (priority := high) {α : Type} {ns : List α} {f : α → V} [h : SqC K H p (ns.map f)] : Step (rLen K [.ref p] H Q) (Q (.int (ns.length : Nat)) H) := ⟨fun q => g_len len_l (by rw [List.length_map]; exact q)⟩
instance [h : StC K H p xs] : Step (rLen K [.ref p] H Q) (Q (.int (xs.length : Nat)) H) := ⟨g_len len_t⟩
instance [h : SqC K H p xs] : Step (tyV K "list" (.ref p) H ∧ R) R := ⟨g_tyL⟩
instance {P : List V → Hp → Prop} {D : Addr} [h : At H D (.lst acc)] : Step (rW D P H) (P acc H) := ⟨g_rW⟩
instance [h : At H p (.lst xs)] : Step (rIsi K [.ref p, .ty "list"] H Q) (Q (.bl true) H) := ⟨g_isL⟩
instance [h : At H p (.tup xs)] : Step (rIsi K [.ref p, .ty "tuple"] H Q) (Q (.bl true) H) := ⟨g_isT⟩
end
theorem cut1 {α : Type} {ds : List α} {f : α → V} : cutV (ds.map f) (some 1) none = (ds.drop 1).map f := by
  unfold cutV
  rw [show (some (1 : Int)) = some ((1 : Nat) : Int) from rfl, HT.sIx_nat, HT.sIx_none, List.length_map, List.map_drop]
  by_cases h : 1 ≤ ds.length
  · rw [Nat.min_eq_left h, List.take_of_length_le]
    simp
  · have e : ds = [] := List.length_eq_zero_iff.mp (by omega)
    subst e
    rfl
/-! ### lists and tuples of ints, compared -/
class IntsC (xs : List V) (ns : outParam (List Int)) : Prop where
  eq : xs = ns.map V.int
instance : IntsC [] [] := ⟨rfl⟩
instance {i : Int} {xs : List V} {ns : List Int} [h : IntsC xs ns] : IntsC (.int i :: xs) (i :: ns) := ⟨by rw [h.eq]; rfl⟩
instance {ns : List Int} : IntsC (ns.map V.int) ns := ⟨rfl⟩
instance {xs ys : List V} {ns ms : List Int} [h : IntsC xs ns] [k : IntsC ys ms] : IntsC (xs ++ ys) (ns ++ ms) := ⟨by rw [h.eq, k.eq, List.map_append]⟩
theorem dpInts {K : PySem.W.Frag} {H : Hp} : ∀ ns : List Int, DpAll K H (ns.map V.int) (ns.map PyData.int)
  | [] => .nil
  | n :: r => .cons (.int n) (dpInts r)
theorem eqInts : ∀ ns ms : List Int, PyData.eqvAll (ns.map PyData.int) (ms.map PyData.int) = decide (ns = ms)
  | [], [] => by simp [PyData.eqvAll]
  | [], _ :: _ => by simp [PyData.eqvAll]
  | _ :: _, [] => by simp [PyData.eqvAll]
  | n :: r, m :: t => by
    rw [List.map_cons, List.map_cons, PyData.eqvAll, eqInts r t]
    show ((n == m) && decide (r = t)) = _
    by_cases h : n = m <;> by_cases k : r = t <;> simp [h, k]
theorem layInts : ∀ ns : List Int, PyData.canLayAll0 (ns.map PyData.int) = true
  | [] => rfl
  | n :: r => by rw [List.map_cons, PyData.canLayAll0, layInts r]; rfl
theorem depInts : ∀ ns : List Int, PyData.depthAll (ns.map PyData.int) = 0
  | [] => rfl
  | n :: r => by rw [List.map_cons, PyData.depthAll, depInts r]; rfl
theorem shL (ns : List Int) : SeqAt.shaped (.list (ns.map PyData.int)) = true := by
  unfold SeqAt.shaped
  rw [PyData.canLay0, PyData.depth, layInts, depInts]
  rfl
theorem shT (ns : List Int) : SeqAt.shaped (.tuple (ns.map PyData.int)) = true := by
  unfold SeqAt.shaped
  rw [PyData.canLay0, PyData.depth, layInts, depInts]
  rfl
section
variable {K : PySem.W.Frag} {H : Hp} {Q : VK} {p q : Addr} {xs ys : List V} {ns ms : List Int}
instance [h : SqC K H p xs] [k : SqC K H q ys] [a : IntsC xs ns] [b : IntsC ys ms] : Step (rEqX K (.ref p) (.ref q) H Q) (Q (.bl (decide (ns = ms))) H) := ⟨fun z =>
  .inr ⟨_, _, .lst h.sq (by rw [a.eq]; exact dpInts ns), .lst k.sq (by rw [b.eq]; exact dpInts ms), shL ns, shL ms, by rw [PyData.eqv, eqInts]; exact z⟩⟩
instance [h : SqC K H p xs] [k : SqC K H q ys] [a : IntsC xs ns] [b : IntsC ys ms] : Step (rNeX K (.ref p) (.ref q) H Q) (Q (.bl (!decide (ns = ms))) H) := ⟨fun z =>
  .inr ⟨_, _, .lst h.sq (by rw [a.eq]; exact dpInts ns), .lst k.sq (by rw [b.eq]; exact dpInts ms), shL ns, shL ms, by rw [PyData.eqv, eqInts]; exact z⟩⟩
instance [h : StC K H p xs] [k : StC K H q ys] [a : IntsC xs ns] [b : IntsC ys ms] : Step (rEqX K (.ref p) (.ref q) H Q) (Q (.bl (decide (ns = ms))) H) := ⟨fun z =>
  .inr ⟨_, _, .tup h.st (by rw [a.eq]; exact dpInts ns), .tup k.st (by rw [b.eq]; exact dpInts ms), shT ns, shT ms, by rw [PyData.eqv, eqInts]; exact z⟩⟩
instance [h : StC K H p xs] [k : StC K H q ys] [a : IntsC xs ns] [b : IntsC ys ms] : Step (rNeX K (.ref p) (.ref q) H Q) (Q (.bl (!decide (ns = ms))) H) := ⟨fun z =>
  .inr ⟨_, _, .tup h.st (by rw [a.eq]; exact dpInts ns), .tup k.st (by rw [b.eq]; exact dpInts ms), shT ns, shT ms, by rw [PyData.eqv, eqInts]; exact z⟩⟩
end
theorem cutTo {α : Type} {ds : List α} {f : α → V} {n : Nat} : cutV (ds.map f) none (some (n : Int)) = (ds.take n).map f := by
  unfold cutV
  rw [HT.sIx_nat, HT.sIx_none, List.length_map, List.map_take, List.drop_zero, Nat.sub_zero]
  by_cases h : n ≤ ds.length
  · rw [Nat.min_eq_left h]
  · rw [Nat.min_eq_right (by omega), List.take_of_length_le (by simp), List.take_of_length_le (by simp; omega)]
theorem getD_mem {α : Type} {ns : List α} {i : Nat} {d : α} (h : i < ns.length) : ns.getD i d ∈ ns := by
  rw [List.getD_eq_getElem?_getD, List.getElem?_eq_getElem h, Option.getD_some]
  exact List.getElem_mem h
theorem getD_at {α : Type} {ns : List α} {i : Nat} {x d : α} (h : ns[i]? = some x) : ns.getD i d = x := by
  rw [List.getD_eq_getElem?_getD, h, Option.getD_some]
/-! ### xs[::-1], xs[k] = v, i in xs -/
section
variable {X : Cx} {K : PySem.W.Frag}
theorem pe_revLK (h : X.K = K) {e : Expr} {te : TE} {k : Nat} {p1 p2 p3 pos : Pos} (he : PE X e te) : PE X (.Subscript e (.Slice none none (some (.UnaryOp .USub (.Constant (.int 1) k p1) p2)) p3) pos) (tRevL K te) := h ▸ pe_revL he
variable {σ : L2.St} {H : Hp} {Q : VK} {p : Addr} {xs : List V} {ns : List Int} {te : TE}
def rRevL (K : PySem.W.Frag) (x : V) (H1 : Hp) (Q : VK) : Prop := ∃ a xs, x = .ref a ∧ SqL K H1 a xs ∧ ∀ p, H1 p = none → Q (.ref p) (upd H1 p (.lst xs.reverse))
instance : Step (tRevL K te σ H Q) (te σ H fun x H1 => rRevL K x H1 Q) := ⟨fun q => q⟩
theorem g_revL [h : SqC K H p xs] (q : ∀ p2 H2, Nw H p2 → Ex H H2 → At H2 p2 (.lst xs.reverse) → Q (.ref p2) H2) : rRevL K (.ref p) H Q := ⟨p, xs, rfl, h.sq, g_new q⟩
theorem ixN_nat {n i : Nat} (h : i < n) : ixN n (i : Int) = some i := by
  unfold ixN
  rw [if_pos (by omega), if_pos (by omega)]
  simp
theorem g_setI {k : Int} {v : Int} {R : Hp → Prop} [h : At H p (.lst (ns.map V.int))] (h0 : 0 ≤ k) (h1 : k < (ns.length : Int)) (q : ∀ H2, ExB p H H2 → At H2 p (.lst ((ns.set k.toNat v).map V.int)) → R H2) : rSetL (.ref p) (.int k) (.int v) H R := by
  obtain ⟨j, rfl⟩ : ∃ j : Nat, k = (j : Int) := ⟨k.toNat, by omega⟩
  refine g_set (j := j) (ixN_nat (by rw [List.length_map]; omega)) fun H2 e hp => q H2 e ?_
  rw [Int.toNat_natCast, List.map_set]
  exact hp
theorem inV_int {i : Int} : ∀ ns : List Int, inV (.int i) (ns.map V.int) = decide (i ∈ ns)
  | [] => by simp [inV]
  | n :: r => by
    have ih := inV_int (i := i) r
    unfold inV at *
    rw [List.map_cons, List.any_cons, ih]
    show ((n == i) || decide (i ∈ r)) = _
    rw [Bool.eq_iff_iff]
    simp only [Bool.or_eq_true, beq_iff_eq, decide_eq_true_eq, List.mem_cons]
    exact ⟨fun h => h.imp Eq.symm _root_.id, fun h => h.imp Eq.symm _root_.id⟩
theorem flat_ints : ∀ ns : List Int, (ns.map V.int).all flatV = true
  | [] => rfl
  | n :: r => by rw [List.map_cons, List.all_cons, flat_ints r]; rfl
instance {i : Int} [h : SqC K H p (ns.map V.int)] : Step (rIn K false (.int i) (.ref p) H Q) (Q (.bl (decide (i ∈ ns))) H) := ⟨fun q => ⟨p, _, rfl, .inl h.sq, rfl, flat_ints ns, by rw [if_neg Bool.false_ne_true, inV_int]; exact q⟩⟩
instance {i : Int} [h : SqC K H p (ns.map V.int)] : Step (rIn K true (.int i) (.ref p) H Q) (Q (.bl (!decide (i ∈ ns))) H) := ⟨fun q => ⟨p, _, rfl, .inl h.sq, rfl, flat_ints ns, by rw [if_pos rfl, inV_int]; exact q⟩⟩
theorem g_ixN {n : Nat} {v : V} [h : SqC K H p xs] (a : xs[n]? = some v) (q : Q v H) : rIx K (.ref p) (.int (n : Nat)) H Q := g_ixL (atI_nat a) q
theorem q_true {b : Bool} (k : Q (.bl b) H) (h : b = true) : Q (.bl true) H := h ▸ k
theorem q_false {b : Bool} (k : Q (.bl b) H) (h : b = false) : Q (.bl false) H := h ▸ k
end
theorem q_dec' {H : Hp} {Q : VK} {p : Prop} {_ : Decidable p} (k : Q (.bl (decide p)) H) (h : p) : Q (.bl true) H := by rw [decide_eq_true h] at k; exact k
theorem q_decN' {H : Hp} {Q : VK} {p : Prop} {_ : Decidable p} (k : Q (.bl (decide p)) H) (h : ¬ p) : Q (.bl false) H := by rw [decide_eq_false h] at k; exact k
theorem for1n {σ : L2.St} {H : Hp} {D : Ends} {tb : TS} {g : TG} {n : Int} (bs : List Addr) (Pv : Int → Nat → L2.St → Hp → Prop) (hn : -(2 ^ 62) ≤ n ∧ n < 2 ^ 62) (h0 : Pv n 0 σ H)
    (hs : ∀ (i : Nat) σ' H', (i : Int) < n → Chg bs H H' → Pv n i σ' H' → g (.int (i : Int)) σ' H' fun σ2 H2 => tb { D with nx := LI bs H (Pv n (i + 1)), ct := LI bs H (Pv n (i + 1)), bk := D.nx } σ2 H2)
    (hd : ∀ σ' H', Chg bs H H' → Pv n n.toNat σ' H' → D.nx σ' H') : rFor1 [.int n] g tb D σ H := for1 bs (Pv n) hn h0 hs hd
theorem cutFrom {α : Type} {ds : List α} {f : α → V} {n : Nat} : cutV (ds.map f) (some (n : Int)) none = (ds.drop n).map f := by
  unfold cutV
  rw [HT.sIx_nat, HT.sIx_none, List.length_map, List.map_drop]
  by_cases h : n ≤ ds.length
  · rw [Nat.min_eq_left h, List.take_of_length_le]
    simp
  · rw [Nat.min_eq_right (by omega), Nat.sub_self, List.take_zero, List.drop_eq_nil_of_le (by simp; omega)]
theorem getD_set {α : Type} {ds : List α} {p : Nat} {v d : α} (hp : p < ds.length) (i : Nat) : (ds.set p v).getD i d = if i = p then v else ds.getD i d := by
  rw [List.getD_eq_getElem?_getD, List.getElem?_set]
  by_cases e : p = i
  · subst e
    simp [hp]
  · rw [if_neg e, if_neg (fun z => e z.symm), List.getD_eq_getElem?_getD]
end Gx


set_option Elab.async false
set_option linter.all false
set_option maxRecDepth 100000
set_option maxHeartbeats 4000000
namespace Toy
open PySem PySem.Spec PyProof.Rows L2 Gx
def top (i : Nat) : Stmt := PySem.Challenge.pw_carrylog_k09_dominates_is_an_order.main.body.getD i (.Pass ⟨0, 0, 0, 0⟩)
section
variable {P : Program} {w : World} {K : PySem.W.Frag} {mg : Str → Option Value} {base : Heap}

set_option synthInstance.maxHeartbeats 400000
set_option synthInstance.maxSize 4000
local macro_rules | `(tactic| walk_at "szt") => `(tactic| first | assumption | exact Nat.le_of_ble_eq_true rfl | omega | (simp only [List.length_append, List.length_cons, List.length_nil, List.length_map, List.length_replicate, List.length_take, List.length_drop]; omega))
local macro_rules | `(tactic| walk_at "call") => `(tactic| fail)
local macro_rules | `(tactic| walk_at "go1") => `(tactic| first
  | refine Gx.Step.run ?_
  | ((with_reducible show Gx.rAdd _ _ _ _ _); first
    | with_reducible refine Gx.g_addT (by walk_at "szt") ?_
    | (with_reducible refine Gx.g_cat (by walk_at "szt") ?_; intro p_ H_ np_ e_ hp_))
  | ((with_reducible show Gx.rMul _ _ _ _ _); first
    | with_reducible refine Gx.g_mulT (by omega) ?_
    | with_reducible refine Gx.g_mulR (by omega) ?_
    | with_reducible refine Gx.g_mulL (by omega) ?_
    | with_reducible refine Gx.g_mulS (by omega) ?_
    | with_reducible refine Gx.g_mulX (Gx.mulx128 (by omega) (by omega)) ?_)
  | ((with_reducible show Gx.rMod _ _ _ _); with_reducible refine Gx.g_mod (by omega) ?_)
  | ((with_reducible show Gx.rDiv _ _ _ _); with_reducible refine Gx.g_div (Gx.cdivW (by omega) (by omega)) ?_)
  | ((with_reducible show L2.rIx _ _ _ _ _); first
    | with_reducible refine Gx.g_ixL (by with_unfolding_all rfl) ?_
    | with_reducible refine Gx.g_ixI (by omega) (by omega) ?_
    | with_reducible refine Gx.g_ixTx (by walk_at "szt") (by with_unfolding_all rfl) ?_
    | with_reducible refine Gx.g_ixT (by with_unfolding_all rfl) ?_)
  | ((with_reducible show Gx.rLen _ _ _ _); first
    | with_reducible refine Gx.g_lenT (by walk_at "szt") ?_
    | with_reducible refine Gx.g_len (Gx.len_s (by omega)) ?_)
  | ((with_reducible show Gx.rLstripC _ _ _ _); with_reducible refine Gx.g_lstrip0 (by walk_at "szt") ?_)
  | ((with_reducible show Gx.rStripC _ _ _ _); with_reducible refine Gx.g_strip01 (by walk_at "szt") ?_)
  | ((with_reducible show Gx.rNewL _ _ _); (with_reducible refine Gx.g_newL (by walk_at "szt") ?_; intro p_ H_ np_ e_ hp_))
  | ((with_reducible show Gx.rNewT _ _ _); (with_reducible refine Gx.g_newT (by walk_at "szt") ?_; intro p_ H_ np_ e_ hp_))
  | ((with_reducible show Gx.rSlX _ _ _ _ _ _); first
    | with_reducible refine Gx.g_slT (by walk_at "szt") ?_
    | (with_reducible refine Gx.g_slL ?_; intro p_ H_ np_ e_ hp_))
  | ((with_reducible show Gx.rListOf _ _ _ _); (with_reducible refine Gx.g_listOf ?_; intro p_ H_ np_ e_ hp_))
  | ((with_reducible show Gx.rRevL _ _ _ _); (with_reducible refine Gx.g_revL ?_; intro p_ H_ np_ e_ hp_))
  | ((with_reducible show L2.rSetL _ _ _ _ _); (with_reducible refine Gx.g_setI (by omega) (by omega) ?_; intro H_ e_ hp_))
  | ((with_reducible show L2.rSetL _ _ _ _ _); (with_reducible refine Gx.g_set (by with_unfolding_all rfl) ?_; intro H_ e_ hp_; simp only [Int.reduceToNat, List.set_cons_zero, List.set_cons_succ] at hp_))
  | ((with_reducible show L2.rAppend _ _ _ _); (with_reducible refine Gx.g_app (by walk_at "szt") ?_; intro H_ e_ hp_))
  | ((with_reducible show Gx.rPow _ _ _ _); with_reducible refine Gx.g_pow (Gx.cpow_ok (by decide) (by decide) (by decide)) (by simp only [Int.reduceToNat, Int.reducePow]; exact rfl) ?_)
  | ((with_reducible show Gx.rApp _ _ _ _); (with_reducible refine Gx.g_rapp (by walk_at "szt") ?_; intro H_ e_ hp_))
  | ((with_reducible show L2.rSum _ _ _ _); (with_reducible refine Gx.g_sum ?_))
  | ((with_reducible show Gx.rStr _ _ _); (with_reducible refine Gx.g_str (by omega) ?_; intro hz_))
  | ((with_reducible show (L2.wipe _ _ = _ ∧ _)); refine ⟨rfl, ?_⟩)
  | ((with_reducible show L2.rAll _ _ _ _); first | refine Gx.g_allT ?_ | refine Gx.g_all ?_)
  | ((with_reducible show (List.length _ = _ ∧ List.length _ = _ ∧ _)); refine ⟨rfl, rfl, ?_⟩)
  | ((with_reducible show L2.gTup _ _ _ _ _ _ _); first
    | (refine Gx.g_pair (by assumption) ?_; intro T_ np_ e_ hp_)
    | refine Gx.g_gtup (by rfl) ?_)
  | walk_at "call")
local macro_rules | `(tactic| walk_at "go") => `(tactic| repeat walk_at "go1")
local macro_rules | `(tactic| walk_at "if1") => `(tactic| first
  | with_reducible refine Gx.g_ite (fun hI => ?_) (fun hI => ?_)
  | with_reducible refine Gx.g_iteN (fun hI => ?_) (fun hI => ?_)
  | with_reducible refine Gx.g_itB (fun hI => ?_) (fun hI => ?_)
  | with_reducible refine Gx.g_itNB (fun hI => ?_) (fun hI => ?_))
local macro_rules | `(tactic| walk_at "dead") => `(tactic| first | (exfalso; omega) | contradiction)
local macro_rules | `(tactic| walk_at "gos") => `(tactic| (walk_at "go"; first | (walk_at "if1" <;> first | walk_at "dead" | walk_at "gos") | skip))


class Bx (b : Addr) (c : outParam Addr) (H : Hp) : Prop where
  ex : ∃ (ns : List Int) (i cur st cnt : Int), H b = some (.lst [.ref c, .int i, .int cur, .int st, .int cnt]) ∧ H c = some (.lst (ns.map V.int)) ∧ c ≠ b ∧ 0 ≤ i
instance (priority := low) bxStep {b c : Addr} {cs : List Addr} {H1 H : Hp} [h : Bx b c H1] [r : Chg cs H1 H] [n : NotIn b cs] [m : NotIn c cs] : Bx b c H := ⟨by
  obtain ⟨ns, i, cu, st, cn, h1, h2, h3⟩ := h.ex
  exact ⟨ns, i, cu, st, cn, r.keep _ _ n.out h1, r.keep _ _ m.out h2, h3⟩⟩
instance liveBx1 {b c : Addr} {H : Hp} [h : Bx b c H] : Live H b := ⟨by
  obtain ⟨ns, i, cu, st, cn, h1, h2, h3⟩ := h.ex
  exact ⟨_, h1⟩⟩
theorem liveBx2 {b c : Addr} {H : Hp} (h : Bx b c H) : Live H c := ⟨by
  obtain ⟨ns, i, cu, st, cn, h1, h2, h3⟩ := h.ex
  exact ⟨_, h2⟩⟩
def spBox (K : PySem.W.Frag) : Sp := fun vs H Q _ => ∃ (a : Addr) (ns : List Int), vs = [.ref a] ∧ (SqC K H a (ns.map V.int) ∧ ns.length < 90000) ∧ ∀ b c H', Nw H b → Ex H H' → Bx b c H' → Q (.ref b) H'
theorem use_box {K : PySem.W.Frag} {a : Addr} {ns : List Int} {H : Hp} {Q : VK} {E : XK} [hs : SqC K H a (ns.map V.int)] (h : ns.length < 90000) (q : ∀ b c H', Nw H b → Ex H H' → Bx b c H' → Q (.ref b) H') : spBox K ([.ref a] ++ []) H Q E := ⟨a, ns, rfl, ⟨hs, h⟩, q⟩
abbrev s_law_box : Stmt := (top 13)
abbrev N_law_box : List Str := ["_law_script", "_law_cell"]
theorem sc_law_box : FnScope N_law_box ["_law_script"] (defScope s_law_box) := ⟨rfl, rfl, rfl, by decide +kernel, rfl, by decide +kernel, by decide +kernel⟩
theorem cl_law_box (T : Bl mg) (D : Df K mg "_law_box" s_law_box ["_law_script"])  : Cl P w K mg base 1 "_law_box" ["_law_script"] (spBox K) := by
  have nd := sc_law_box.nd
  refine D.ok sc_law_box (fun vs H Q E h => ?_) (fun f cdv A outer s H vs Q E hr h => ?_)
  · obtain ⟨a, ns, rfl, _⟩ := h
    rfl
  · obtain ⟨a, ns, rfl, ⟨hs, hl⟩, k⟩ := h
    have hu := hu64 hr
    refine ⟨_, (pss_one (ps_ret (pe_lst (pa_cons (pe_lc (own := [("_law_cell", 1)]) (g := gName 1) rfl nd (pi_listK (K := K) (by rfl) (pe_slice (slAnyK (K := K) (by rfl)) (pv 0) po_none (po_some pe_int))) (blkOk_by (own := [("_law_cell", 1)]) (N := N_law_box) (sc := defScope s_law_box) (by decide +kernel)) (fun _ _ _ _ _ => (pg_name (i := 1) nd rfl (Or.inl rfl))) (fun _ _ _ _ _ => pts_nil) (fun _ _ _ _ _ => (pe_callB callAbs (by rfl) T.abs (by decide +kernel) (pa_cons (pe_callTy callInt (by rfl) T.int (by decide +kernel) (pa_cons (pv 1) pa_nil)) pa_nil)))) (pa_cons pe_int (pa_cons pe_int (pa_cons pe_int (pa_cons pe_int pa_nil)))))))), ?_⟩
    try dsimp only [L2.cxOf, L2.Cx.nox]
    simp only [L2.start, N_law_box, List.map_cons, List.map_nil, List.length_cons, List.length_nil, Nat.reduceAdd, Nat.reduceSub, List.replicate_succ, List.replicate_zero, List.cons_append, List.nil_append]

    walk_at "gos"
    rename_i p H1 np1 e1 hp1
    refine Gx.lcL_A (fun v => ∃ m, v = V.int m) (Nat.le_trans (cutV_length _ _ _) (by rw [List.length_map]; omega)) (fun D i x acc H' hx hD e hp hz => ?_) (fun D acc H' hD e hp hl hP => ?_)
    · obtain ⟨m, rfl⟩ : ∃ m, x = V.int m := by
        have h1 := List.mem_of_getElem? hx
        have h2 := List.mem_of_mem_take h1
        have h3 := List.mem_of_mem_drop h2
        obtain ⟨m, _, h⟩ := List.mem_map.mp h3
        exact ⟨m, h.symm⟩
      walk_at "gos"
      exact ⟨Gx.rel, _, rfl, _, rfl⟩
    · obtain ⟨ms, rfl⟩ := Gx.of_all hP
      walk_at "gos"
      exact k _ D _ Gx.new Gx.rel ⟨ms, 0, 0, _, 0, At.eq, At.eq, Gx.ne_, by omega⟩
local macro_rules | `(tactic| walk_at "call") => `(tactic| ((with_reducible show spBox _ _ _ _ _); refine use_box (by omega) ?_; intro b_ c_ H_ np_ e_ hB_))
def spTake : Sp := fun vs H Q _ => ∃ (b c : Addr) (size : Int), vs = [.ref b, .int size] ∧ (Bx b c H ∧ 0 < size ∧ size < 2 ^ 200) ∧ ∀ d H', 0 ≤ d → d < size → ExB b H H' → Bx b c H' → Q (.int d) H'
theorem use_take {b c : Addr} {size : Int} {H : Hp} {Q : VK} {E : XK} [hb : Bx b c H] (h1 : 0 < size) (h2 : size < 2 ^ 200) (q : ∀ d H', 0 ≤ d → d < size → ExB b H H' → Bx b c H' → Q (.int d) H') : spTake ([.ref b, .int size] ++ []) H Q E := ⟨b, c, size, rfl, ⟨hb, h1, h2⟩, q⟩
abbrev s_law_take : Stmt := (top 14)
abbrev N_law_take : List Str := ["_law_box_here", "_law_size", "_law_cell", "_law_digit"]
theorem sc_law_take : FnScope N_law_take ["_law_box_here", "_law_size"] (defScope s_law_take) := ⟨rfl, rfl, rfl, by decide +kernel, rfl, by decide +kernel, by decide +kernel⟩
theorem cl_law_take (T : Bl mg) (D : Df K mg "_law_take" s_law_take ["_law_box_here", "_law_size"])  : Cl P w K mg base 1 "_law_take" ["_law_box_here", "_law_size"] spTake := by
  have nd := sc_law_take.nd
  refine D.ok sc_law_take (fun vs H Q E h => ?_) (fun f cdv A outer s H vs Q E hr h => ?_)
  · obtain ⟨b, c, size, rfl, _⟩ := h
    rfl
  · obtain ⟨b, c, size, rfl, ⟨⟨ns, i, cur, st, cnt, hb, hc, ncb, hi⟩, hm, hm2⟩, k⟩ := h
    have hu := hu64 hr
    refine ⟨_, (pss_cons (ps_if (PW.pt (pw_and (pt_cmpR (opEqK (K := K) (by rfl) (by exact hu)) (pe_ix (ixSeqK (K := K) (by rfl)) (pv 0) pe_int (fun _ _ => rfl)) pe_int (nomark _)) (pw_and1 (pt_cmpR opLt (pe_ix (ixSeqK (K := K) (by rfl)) (pv 0) pe_int (fun _ _ => rfl)) (pe_callB (callLenK (K := K) (by rfl)) (by rfl) T.len (by decide +kernel) (pa_cons (pe_ix (ixSeqK (K := K) (by rfl)) (pv 0) pe_int (fun _ _ => rfl)) pa_nil)) (nomark _)))))
      (pss_cons (ps_set (i := 2) nd rfl (Or.inl rfl) (pe_callTy callInt (by rfl) T.int (by decide +kernel) (pa_cons (pe_ix (ixSeqK (K := K) (by rfl)) (pe_ix (ixSeqK (K := K) (by rfl)) (pv 0) pe_int (fun _ _ => rfl)) (pe_ix (ixSeqK (K := K) (by rfl)) (pv 0) pe_int (fun _ _ => rfl)) (fun _ _ => rfl)) pa_nil)))
    (pss_cons (ps_asg (pe_op (opAddK (K := K) (by rfl)) (pe_ix (ixSeqK (K := K) (by rfl)) (pv 0) pe_int (fun _ _ => rfl)) pe_int) (pg_sub (pv 0) pe_int set_list))
    (pss_cons (ps_asg (pe_op opMod (pe_callTy callInt (by rfl) T.int (by decide +kernel) (pa_cons (pe_op (opAddK (K := K) (by rfl)) (pe_op (opAddK (K := K) (by rfl)) (pe_op (opMulK (K := K) (by rfl)) (pe_ix (ixSeqK (K := K) (by rfl)) (pv 0) pe_int (fun _ _ => rfl)) pe_int) (pe_op (opMulK (K := K) (by rfl)) (pe_op opMod (pv 2) pe_int) pe_int)) pe_int) pa_nil)) pe_int) (pg_sub (pv 0) pe_int set_list))
    (pss_one (ps_if (pt_cmpR opGe (pv 2) (pe_op opPow pe_int pe_int) (nomark _))
      (pss_one (ps_asg (pv 2) (pg_sub (pv 0) pe_int set_list)))
      pss_nil)))))
      pss_nil)
    (pss_cons (ps_if (pt_cmpR opGt (pe_ix (ixSeqK (K := K) (by rfl)) (pv 0) pe_int (fun _ _ => rfl)) pe_int (nomark _))
      (pss_cons (ps_set (i := 3) nd rfl (Or.inl rfl) (pe_op opMod (pe_callTy callInt (by rfl) T.int (by decide +kernel) (pa_cons (pe_ix (ixSeqK (K := K) (by rfl)) (pv 0) pe_int (fun _ _ => rfl)) pa_nil)) (pv 1)))
    (pss_cons (ps_asg (pe_op opDiv (pe_ix (ixSeqK (K := K) (by rfl)) (pv 0) pe_int (fun _ _ => rfl)) (pv 1)) (pg_sub (pv 0) pe_int set_list))
    (pss_one (ps_ret (pv 3)))))
      pss_nil)
    (pss_cons (ps_asg (pe_op (opAddK (K := K) (by rfl)) (pe_ix (ixSeqK (K := K) (by rfl)) (pv 0) pe_int (fun _ _ => rfl)) pe_int) (pg_sub (pv 0) pe_int set_list))
    (pss_cons (ps_asg (pe_op opMod (pe_callTy callInt (by rfl) T.int (by decide +kernel) (pa_cons (pe_op (opAddK (K := K) (by rfl)) (pe_op (opMulK (K := K) (by rfl)) (pe_ix (ixSeqK (K := K) (by rfl)) (pv 0) pe_int (fun _ _ => rfl)) pe_int) (pe_op (opMulK (K := K) (by rfl)) (pe_ix (ixSeqK (K := K) (by rfl)) (pv 0) pe_int (fun _ _ => rfl)) pe_int)) pa_nil)) pe_int) (pg_sub (pv 0) pe_int set_list))
    (pss_one (ps_ret (pe_op opMod (pe_op opDiv (pe_op opMod (pe_callTy callInt (by rfl) T.int (by decide +kernel) (pa_cons (pe_op (opAddK (K := K) (by rfl)) (pe_op (opMulK (K := K) (by rfl)) (pe_ix (ixSeqK (K := K) (by rfl)) (pv 0) pe_int (fun _ _ => rfl)) pe_int) (pe_ix (ixSeqK (K := K) (by rfl)) (pv 0) pe_int (fun _ _ => rfl))) pa_nil)) pe_int) pe_int) (pv 1)))))))), ?_⟩
    try dsimp only [L2.cxOf, L2.Cx.nox]
    simp only [L2.start, N_law_take, List.map_cons, List.map_nil, List.length_cons, List.length_nil, Nat.reduceAdd, Nat.reduceSub, List.replicate_succ, List.replicate_zero, List.cons_append, List.nil_append]

    have hb : At H b _ := ⟨hb⟩
    have hc : At H c _ := ⟨hc⟩
    have ncb : NeC c b := ⟨ncb⟩
    walk_at "gos"
    all_goals exact k _ _ (Int.emod_nonneg _ (by omega)) (Int.emod_lt_of_pos _ hm) Gx.rel ⟨ns, _, _, _, _, At.eq, At.eq, ncb.ne, by omega⟩
local macro_rules | `(tactic| walk_at "call") => `(tactic| ((with_reducible show spTake _ _ _ _); refine use_take (by omega) (by omega) ?_; intro d_ H_ h0_ h1_ e_ hB_))

/-! words, plainly -/
def Wd (l : List Bool) : Prop := l.length ≤ 64 ∧ l.head? ≠ some false
theorem Wd.nil : Wd [] := ⟨by simp, by simp⟩
theorem Wd.start {l : List Bool} (h : Wd l) : (l.take ([false] : List Bool).length == [false]) = false := by
  obtain ⟨_, h⟩ := h
  cases l with
  | nil => rfl
  | cons b r => cases b <;> simp_all
theorem wd_one {r : List Bool} (h : r.length ≤ 63) : Wd (true :: r) := ⟨by simp; omega, by simp⟩
theorem dw_wd {l : List Bool} (h : l.head? ≠ some false) (n : Nat) : (List.replicate n false ++ l).dropWhile (! ·) = l := by
  induction n with
  | zero =>
    cases l with
    | nil => rfl
    | cons b r => cases b <;> simp_all
  | succ n ih => rw [List.replicate_succ, List.cons_append, List.dropWhile_cons]; simpa using ih
theorem dw_self {l : List Bool} (h : l.head? ≠ some false) : l.dropWhile (! ·) = l := dw_wd h 0
theorem cnt2 (l : List Bool) : l.count false + l.count true = l.length := by
  induction l with
  | nil => rfl
  | cons b r ih => cases b <;> simp [List.count_cons] <;> omega
/-- the depths of the ones among the first i -/
def depTo (l : List Bool) (i : Nat) : List Int := ((List.range i).filter fun k => l[k]? == some true).map fun k => (l.length : Int) - (k : Nat)
def dep (l : List Bool) : List Int := depTo l l.length
theorem depTo_zero (l : List Bool) : depTo l 0 = [] := rfl
theorem depTo_succ {l : List Bool} {i : Nat} {b : Bool} (h : l[i]? = some b) : depTo l (i + 1) = depTo l i ++ (if b = true then [(l.length : Int) - (i : Nat)] else []) := by
  unfold depTo
  rw [List.range_succ, List.filter_append, List.map_append]
  congr 1
  cases b <;> simp [h]
theorem depTo_len (l : List Bool) (i : Nat) : (depTo l i).length ≤ i := by
  unfold depTo
  rw [List.length_map]
  exact Nat.le_trans (List.length_filter_le _ _) (by simp)
theorem dep_nil : dep [] = [] := rfl
theorem dep_cons (b : Bool) (r : List Bool) : dep (b :: r) = (if b = true then [((r.length : Int) + 1)] else []) ++ dep r := by
  unfold dep depTo
  rw [List.length_cons, List.range_succ_eq_map, List.filter_cons]
  have e : ((List.map Nat.succ (List.range r.length)).filter fun k => (b :: r)[k]? == some true).map (fun k => ((r.length + 1 : Nat) : Int) - (k : Nat)) = ((List.range r.length).filter fun k => r[k]? == some true).map fun k => (r.length : Int) - (k : Nat) := by
    rw [List.filter_map, List.map_map]
    have e1 : ((fun k => (b :: r)[k]? == some true) ∘ Nat.succ) = fun k => r[k]? == some true := by
      funext k
      simp
    rw [e1]
    apply List.map_congr_left
    intro k _
    simp only [Function.comp]
    omega
  cases b with
  | true => simp only [List.getElem?_cons_zero, beq_self_eq_true, if_true, List.map_cons, e, List.singleton_append]; simp
  | false =>
    rw [if_neg (by simp), if_neg (by simp), e]
    rfl
theorem dep_len (l : List Bool) : (dep l).length = l.count true := by
  induction l with
  | nil => rfl
  | cons b r ih => rw [dep_cons, List.length_append, ih, List.count_cons]; cases b <;> simp <;> omega
theorem dep_le (l : List Bool) : ∀ d ∈ dep l, 1 ≤ d ∧ d ≤ l.length := by
  induction l with
  | nil => intro d h; simp [dep_nil] at h
  | cons b r ih =>
    intro d h
    rw [dep_cons] at h
    rcases List.mem_append.mp h with h | h
    · cases b <;> simp at h
      subst h
      simp only [List.length_cons]
      omega
    · have := ih d h
      simp only [List.length_cons]
      omega
/-- each is greater than what follows, the last than 0 -/
def Dec : List Int → Prop
  | [] => True
  | d :: r => d > r.headD 0 ∧ Dec r
def wof : List Int → List (List Bool)
  | [] => []
  | d :: r => (true :: List.replicate (d - r.headD 0 - 1).toNat false) :: wof r
theorem dec_dep (l : List Bool) : Dec (dep l) := by
  induction l with
  | nil => trivial
  | cons b r ih =>
    rw [dep_cons]
    cases b with
    | false => simpa using ih
    | true =>
      refine ⟨?_, ih⟩
      show (r.length : Int) + 1 > (dep r).headD 0
      cases e : dep r with
      | nil => show (r.length : Int) + 1 > 0; omega
      | cons x y =>
        have := (dep_le r x (by rw [e]; exact List.mem_cons_self ..)).2
        simp
        omega
theorem dep_zeros (n : Nat) (r : List Bool) : dep (List.replicate n false ++ r) = dep r := by
  induction n with
  | zero => rfl
  | succ n ih => rw [List.replicate_succ, List.cons_append, dep_cons]; simpa using ih
theorem tw_dw (r : List Bool) : r = List.replicate (r.takeWhile (! ·)).length false ++ r.dropWhile (! ·) := by
  induction r with
  | nil => rfl
  | cons b r ih =>
    cases b with
    | true => rfl
    | false =>
      rw [List.takeWhile_cons, List.dropWhile_cons]
      simp only [Bool.not_false, if_true, List.length_cons, List.replicate_succ, List.cons_append]
      rw [← ih]
theorem dw_head (r : List Bool) : (r.dropWhile (! ·)).head? ≠ some false := by
  induction r with
  | nil => simp
  | cons b r ih => cases b <;> simp [List.dropWhile_cons, ih]
theorem head_dep {l : List Bool} (h : l.head? ≠ some false) : (dep l).headD 0 = (l.length : Int) := by
  cases l with
  | nil => rfl
  | cons b r =>
    cases b with
    | false => simp at h
    | true => rw [dep_cons]; simp
theorem wof_dep : ∀ (n : Nat) (l : List Bool), l.length ≤ n → l.head? ≠ some false → (wof (dep l)).flatten = l
  | 0, l, hn, _ => by
    have e : l = [] := List.length_eq_zero_iff.mp (by omega)
    rw [e]
    rfl
  | n + 1, [], _, _ => rfl
  | n + 1, false :: r, _, h => by simp at h
  | n + 1, true :: r, hn, _ => by
    have h2 := dw_head r
    have e := tw_dw r
    generalize hk : (r.takeWhile (! ·)).length = k at e
    generalize hm : r.dropWhile (! ·) = m at e h2
    have hl : r.length = k + m.length := by
      have := congrArg List.length e
      simpa using this
    rw [dep_cons, e, dep_zeros]
    simp only [if_true, List.singleton_append, wof, List.flatten_cons]
    rw [wof_dep n m (by simp only [List.length_cons] at hn; omega) h2, head_dep h2]
    have e3 : (((List.replicate k false ++ m).length : Int) + 1 - (m.length : Int) - 1).toNat = k := by
      simp
      omega
    rw [e3]
    rfl
theorem wof_at : ∀ (ds : List Int) (i : Nat) (d e : Int), ds[i]? = some d → (ds.drop 1 ++ [0])[i]? = some e → (wof ds)[i]? = some (true :: List.replicate (d - e - 1).toNat false)
  | [], i, d, e, h, _ => by simp at h
  | x :: r, 0, d, e, h, k => by
    simp at h
    subst h
    cases r with
    | nil => simp at k; subst k; simp [wof]
    | cons y r => simp at k; subst k; simp [wof]
  | x :: r, i + 1, d, e, h, k => by
    have h' : r[i]? = some d := by simpa using h
    show (wof r)[i]? = _
    refine wof_at r i d e h' ?_
    cases r with
    | nil => simp at h'
    | cons y r => simpa using k
theorem dec_at : ∀ (ds : List Int) (i : Nat) (d e : Int), Dec ds → ds[i]? = some d → (ds.drop 1 ++ [0])[i]? = some e → d > e
  | [], i, d, e, _, h, _ => by simp at h
  | x :: r, 0, d, e, hd, h, k => by
    simp at h
    subst h
    cases r with
    | nil => simp at k; subst k; simpa using hd.1
    | cons y r => simp at k; subst k; simpa using hd.1
  | x :: r, i + 1, d, e, hd, h, k => by
    have h' : r[i]? = some d := by simpa using h
    refine dec_at r i d e hd.2 h' ?_
    cases r with
    | nil => simp at h'
    | cons y r => simpa using k
theorem wof_len (ds : List Int) : (wof ds).length = ds.length := by
  induction ds with
  | nil => rfl
  | cons d r ih => simp [wof, ih]
theorem dec_pos : ∀ (ds : List Int), Dec ds → ∀ d ∈ ds, 0 < d
  | [], _, d, h => by simp at h
  | [x], hd, d, h => by
    have := hd.1
    simp at this h
    omega
  | x :: y :: r, hd, d, h => by
    have h2 := dec_pos (y :: r) hd.2
    rcases List.mem_cons.mp h with e | h
    · have := hd.1
      have := h2 y (List.mem_cons_self ..)
      simp at *
      omega
    · exact h2 d h

def spAtLeast : Sp := fun vs H Q _ => ∃ (v m : Int) (z : Str), vs = [.int v, .int m, .str z] ∧ m ≤ v ∧ Q .non H
def spAtMost : Sp := fun vs H Q _ => ∃ (v m : Int) (z : Str), vs = [.int v, .int m, .str z] ∧ v ≤ m ∧ Q .non H
def spWhole : Sp := fun vs H Q _ => ∃ (v : Int) (z : Str), vs = [.int v, .str z] ∧ Q .non H
def spGood : Sp := fun vs H Q _ => ∃ (l : List Bool) (z : Str), vs = [.str (tx l), .str z] ∧ Wd l ∧ Q .non H
abbrev s_at_least : Stmt := (top 4)
abbrev N_at_least : List Str := ["value", "least", "field"]
theorem sc_at_least : FnScope N_at_least ["value", "least", "field"] (defScope s_at_least) := ⟨rfl, rfl, rfl, by decide +kernel, rfl, by decide +kernel, by decide +kernel⟩
theorem cl_at_least (T : Bl mg) (D : Df K mg "at_least" s_at_least ["value", "least", "field"])  : Cl P w K mg base 1 "at_least" ["value", "least", "field"] spAtLeast := by
  have nd := sc_at_least.nd
  refine D.ok sc_at_least (fun vs H Q E h => ?_) (fun f cdv A outer s H vs Q E hr h => ?_)
  · obtain ⟨v, m, z, rfl, _⟩ := h
    rfl
  · obtain ⟨v, m, z, rfl, h, k⟩ := h
    have hu := hu64 hr
    refine ⟨_, (pss_one (ps_if (pt_cmpR opLt (pv 0) (pv 1) (nomark _))
      (pss_one ps_never)
      pss_nil)), ?_⟩
    try dsimp only [L2.cxOf, L2.Cx.nox]
    simp only [L2.start, N_at_least, List.map_cons, List.map_nil, List.length_cons, List.length_nil, Nat.reduceAdd, Nat.reduceSub, List.replicate_succ, List.replicate_zero, List.cons_append, List.nil_append]

    walk_at "gos"
    exact k
abbrev s_at_most : Stmt := (top 5)
abbrev N_at_most : List Str := ["value", "most", "field"]
theorem sc_at_most : FnScope N_at_most ["value", "most", "field"] (defScope s_at_most) := ⟨rfl, rfl, rfl, by decide +kernel, rfl, by decide +kernel, by decide +kernel⟩
theorem cl_at_most (T : Bl mg) (D : Df K mg "at_most" s_at_most ["value", "most", "field"])  : Cl P w K mg base 1 "at_most" ["value", "most", "field"] spAtMost := by
  have nd := sc_at_most.nd
  refine D.ok sc_at_most (fun vs H Q E h => ?_) (fun f cdv A outer s H vs Q E hr h => ?_)
  · obtain ⟨v, m, z, rfl, _⟩ := h
    rfl
  · obtain ⟨v, m, z, rfl, h, k⟩ := h
    have hu := hu64 hr
    refine ⟨_, (pss_one (ps_if (pt_cmpR opGt (pv 0) (pv 1) (nomark _))
      (pss_one ps_never)
      pss_nil)), ?_⟩
    try dsimp only [L2.cxOf, L2.Cx.nox]
    simp only [L2.start, N_at_most, List.map_cons, List.map_nil, List.length_cons, List.length_nil, Nat.reduceAdd, Nat.reduceSub, List.replicate_succ, List.replicate_zero, List.cons_append, List.nil_append]

    walk_at "gos"
    exact k
abbrev s_good_word : Stmt := (top 6)
abbrev N_good_word : List Str := ["word", "field"]
theorem sc_good_word : FnScope N_good_word ["word", "field"] (defScope s_good_word) := ⟨rfl, rfl, rfl, by decide +kernel, rfl, by decide +kernel, by decide +kernel⟩
theorem cl_good_word (T : Bl mg) (D : Df K mg "good_word" s_good_word ["word", "field"])  : Cl P w K mg base 1 "good_word" ["word", "field"] spGood := by
  have nd := sc_good_word.nd
  refine D.ok sc_good_word (fun vs H Q E h => ?_) (fun f cdv A outer s H vs Q E hr h => ?_)
  · obtain ⟨l, z, rfl, _⟩ := h
    rfl
  · obtain ⟨l, z, rfl, h, k⟩ := h
    have hu := hu64 hr
    refine ⟨_, (pss_one (ps_if (PW.pt (pw_or (pt_val (pe_bmK (K := K) (by rfl) PySem.F.plainAttrs_str PySem.F.slot_str_startswith PySem.F.type_str_startswith mtStarts (pv 0) (pa_cons pe_str pa_nil))) (pw_or1 (pt_cmpR (opNeK (K := K) (by rfl) (by exact hu)) (pe_bmK (K := K) (by rfl) PySem.F.plainAttrs_str PySem.F.slot_str_strip PySem.F.type_str_strip mtStripC (pv 0) (pa_cons pe_str pa_nil)) pe_str (nomark _)))))
      (pss_one ps_never)
      pss_nil)), ?_⟩
    try dsimp only [L2.cxOf, L2.Cx.nox]
    simp only [L2.start, N_good_word, List.map_cons, List.map_nil, List.length_cons, List.length_nil, Nat.reduceAdd, Nat.reduceSub, List.replicate_succ, List.replicate_zero, List.cons_append, List.nil_append]

    have h1 := h.1
    walk_at "go"
    rw [h.start]
    walk_at "gos"
    exact k
local macro_rules | `(tactic| walk_at "call") => `(tactic| first
  | ((with_reducible show spAtLeast _ _ _ _); refine ⟨_, _, _, rfl, by omega, ?_⟩)
  | ((with_reducible show spAtMost _ _ _ _); refine ⟨_, _, _, rfl, by omega, ?_⟩)
  | ((with_reducible show spWhole _ _ _ _); refine ⟨_, _, rfl, ?_⟩)
  | ((with_reducible show spGood _ _ _ _); refine ⟨_, _, rfl, by assumption, ?_⟩))
def spTrim : Sp := fun vs H Q _ => ∃ (l : List Bool), vs = [.str (tx l)] ∧ l.length ≤ 1000 ∧ Q (.str (tx (l.dropWhile (! ·)))) H
def spOnes : Sp := fun vs H Q _ => ∃ (l : List Bool), vs = [.str (tx l)] ∧ Q (.int (l.count true : Nat)) H
def spDeps : Sp := fun vs H Q _ => ∃ (l : List Bool), vs = [.str (tx l)] ∧ l.length ≤ 1000 ∧ ∀ p H', Nw H p → Ex H H' → At H' p (.lst ((dep l).map V.int)) → Q (.ref p) H'
abbrev s_depth_list : Stmt := (top 11)
abbrev N_depth_list : List Str := ["word", "place", "mark"]
theorem sc_depth_list : FnScope N_depth_list ["word"] (defScope s_depth_list) := ⟨rfl, rfl, rfl, by decide +kernel, rfl, by decide +kernel, by decide +kernel⟩
theorem cl_depth_list (T : Bl mg) (D : Df K mg "_depth_list" s_depth_list ["word"])  : Cl P w K mg base 1 "_depth_list" ["word"] spDeps := by
  have nd := sc_depth_list.nd
  refine D.ok sc_depth_list (fun vs H Q E h => ?_) (fun f cdv A outer s H vs Q E hr h => ?_)
  · obtain ⟨l, rfl, _⟩ := h
    rfl
  · obtain ⟨l, rfl, h, k⟩ := h
    have hu := hu64 hr
    refine ⟨_, (pss_one (ps_ret (pe_lc (own := [("place", 1), ("mark", 2)]) (g := gTup K 2 (gCons (gName 1) (gCons (gName 2) gNil))) rfl nd (pi_enumS (by rfl) T.enumerate (pa_cons (pv 0) pa_nil)) (blkOk_by (own := [("place", 1), ("mark", 2)]) (N := N_depth_list) (sc := defScope s_depth_list) (by decide +kernel)) (fun _ _ _ _ _ => (pg_tup rfl (pgs_cons (pg_name (i := 1) nd rfl (Or.inl rfl)) (pgs_cons (pg_name (i := 2) nd rfl (Or.inl rfl)) pgs_nil)))) (fun _ _ _ _ _ => (pts_one (pt_cmpR (opEqK (K := K) (by rfl) (by exact hu)) (pv 2) pe_str (nomark _)))) (fun _ _ _ _ _ => (pe_op opSub (pe_callB (callLenK (K := K) (by rfl)) (by rfl) T.len (by decide +kernel) (pa_cons (pv 0) pa_nil)) (pv 1)))))), ?_⟩
    try dsimp only [L2.cxOf, L2.Cx.nox]
    simp only [L2.start, N_depth_list, List.map_cons, List.map_nil, List.length_cons, List.length_nil, Nat.reduceAdd, Nat.reduceSub, List.replicate_succ, List.replicate_zero, List.cons_append, List.nil_append]

    walk_at "gos"
    refine Gx.lcE_F (fun i => (depTo l i).map V.int) rfl (fun i hi => ?_) (fun D i c x H' H'' hi hc hD e hp hz y => ?_) (fun D H' hD e hp => ?_)
    · rw [tx_size] at hi
      rw [List.length_map]
      have := depTo_len l i
      omega
    · obtain ⟨b, hb, eb⟩ := Gx.tx_char hc
      rw [eb] at y
      have hs := depTo_succ hb
      walk_at "go"
      cases b with
      | true =>
        walk_at "go"
        rw [show decide ([true] = [true]) = true from rfl]
        walk_at "go"
        refine ⟨Gx.rel, ?_⟩
        rw [hs]
        simp
      | false =>
        walk_at "go"
        rw [show decide ([false] = [true]) = false from rfl]
        walk_at "go"
        refine ⟨Gx.rel, ?_⟩
        rw [hs]
        simp
    · rw [tx_size] at hp
      exact k D H' hD e hp
local macro_rules | `(tactic| walk_at "call") => `(tactic| first
  | ((with_reducible show spTrim _ _ _ _); refine ⟨_, rfl, by walk_at "szt", ?_⟩)
  | ((with_reducible show spOnes _ _ _ _); refine ⟨_, rfl, ?_⟩)
  | ((with_reducible show spDeps _ _ _ _); refine ⟨_, rfl, by walk_at "szt", ?_⟩; intro p_ H_ np_ e_ hp_))

def spNormal : Sp := fun vs H Q _ => ∃ (l : List Bool), vs = [.str (tx l)] ∧ l.length ≤ 1000 ∧ Q (.str (tx (l.dropWhile (! ·)))) H
def spLiving : Sp := fun vs H Q _ => ∃ (l : List Bool), vs = [.str (tx l)] ∧ Wd l ∧ Q (.int (l.count true : Nat)) H
def spDepths : Sp := fun vs H Q _ => ∃ (l : List Bool), vs = [.str (tx l)] ∧ Wd l ∧ ∀ p H', Nw H p → Ex H H' → At H' p (.lst ((dep l).map V.int)) → Q (.ref p) H'
def spNewest : Sp := fun vs H Q _ => ∃ (l : List Bool), vs = [.str (tx l)] ∧ Wd l ∧ Q (if l.count true = 0 then .non else .int ((l.count true : Nat) - 1)) H
def spBest : Sp := fun vs H Q _ => ∃ (n : Nat), vs = [.int (n : Nat)] ∧ n ≤ 1000 ∧ Q (.str (tx (List.replicate n true))) H
def spWorst : Sp := fun vs H Q _ => ∃ (n m : Nat), vs = [.int (n : Nat), .int (m : Nat)] ∧ (n ≤ m ∧ m ≤ 1000 ∧ (n = 0 → m = 0)) ∧ Q (.str (tx (List.replicate n true ++ List.replicate (m - n) false))) H
def spWordOf (K : PySem.W.Frag) : Sp := fun vs H Q _ => ∃ (p : Addr) (ds : List Int), vs = [.ref p] ∧ (SqC K H p (ds.map V.int) ∧ Dec ds ∧ ds.length ≤ 100 ∧ (∀ d ∈ ds, d ≤ 100) ∧ (wof ds).flatten.length ≤ 1000) ∧ ∀ H', Ex H H' → Q (.str (tx (wof ds).flatten)) H'
abbrev s_best_word : Stmt := (top 9)
abbrev N_best_word : List Str := ["count"]
theorem sc_best_word : FnScope N_best_word ["count"] (defScope s_best_word) := ⟨rfl, rfl, rfl, by decide +kernel, rfl, by decide +kernel, by decide +kernel⟩
theorem cl_best_word (T : Bl mg) (D : Df K mg "best_word" s_best_word ["count"]) (C_at_least : Cl P w K mg base 1 "at_least" ["value", "least", "field"] spAtLeast) : Cl P w K mg base 2 "best_word" ["count"] spBest := by
  have nd := sc_best_word.nd
  refine D.ok sc_best_word (fun vs H Q E h => ?_) (fun f cdv A outer s H vs Q E hr h => ?_)
  · obtain ⟨n, rfl, _⟩ := h
    rfl
  · obtain ⟨n, rfl, h, k⟩ := h
    have hu := hu64 hr
    refine ⟨_, (pss_cons (ps_expr (pe_cl C_at_least (by exact hr.mono (by decide)) (pa_cons (pv 0) (pa_cons pe_int (pa_cons pe_str pa_nil)))))
    (pss_one (ps_ret (pe_op (opMulK (K := K) (by rfl)) pe_str (pv 0))))), ?_⟩
    try dsimp only [L2.cxOf, L2.Cx.nox]
    simp only [L2.start, N_best_word, List.map_cons, List.map_nil, List.length_cons, List.length_nil, Nat.reduceAdd, Nat.reduceSub, List.replicate_succ, List.replicate_zero, List.cons_append, List.nil_append]

    walk_at "gos"
    exact k
abbrev s_worst_word : Stmt := (top 10)
abbrev N_worst_word : List Str := ["count", "length"]
theorem sc_worst_word : FnScope N_worst_word ["count", "length"] (defScope s_worst_word) := ⟨rfl, rfl, rfl, by decide +kernel, rfl, by decide +kernel, by decide +kernel⟩
theorem cl_worst_word (T : Bl mg) (D : Df K mg "worst_word" s_worst_word ["count", "length"]) (C_at_most : Cl P w K mg base 1 "at_most" ["value", "most", "field"] spAtMost) (C_at_least : Cl P w K mg base 1 "at_least" ["value", "least", "field"] spAtLeast) : Cl P w K mg base 2 "worst_word" ["count", "length"] spWorst := by
  have nd := sc_worst_word.nd
  refine D.ok sc_worst_word (fun vs H Q E h => ?_) (fun f cdv A outer s H vs Q E hr h => ?_)
  · obtain ⟨n, m, rfl, _⟩ := h
    rfl
  · obtain ⟨n, m, rfl, ⟨h, h2, h3⟩, k⟩ := h
    have hu := hu64 hr
    refine ⟨_, (pss_cons (ps_expr (pe_cl C_at_least (by exact hr.mono (by decide)) (pa_cons (pv 0) (pa_cons pe_int (pa_cons pe_str pa_nil)))))
    (pss_cons (ps_expr (pe_cl C_at_least (by exact hr.mono (by decide)) (pa_cons (pv 1) (pa_cons (pv 0) (pa_cons pe_str pa_nil)))))
    (pss_cons (ps_if (pt_cmpR (opEqK (K := K) (by rfl) (by exact hu)) (pv 0) pe_int (nomark _))
      (pss_one (ps_expr (pe_cl C_at_most (by exact hr.mono (by decide)) (pa_cons (pv 1) (pa_cons pe_int (pa_cons pe_str pa_nil))))))
      pss_nil)
    (pss_one (ps_ret (pe_op (opAddK (K := K) (by rfl)) (pe_op (opMulK (K := K) (by rfl)) pe_str (pv 0)) (pe_op (opMulK (K := K) (by rfl)) pe_str (pe_op opSub (pv 1) (pv 0))))))))), ?_⟩
    try dsimp only [L2.cxOf, L2.Cx.nox]
    simp only [L2.start, N_worst_word, List.map_cons, List.map_nil, List.length_cons, List.length_nil, Nat.reduceAdd, Nat.reduceSub, List.replicate_succ, List.replicate_zero, List.cons_append, List.nil_append]

    walk_at "gos"
    all_goals
      rw [show ((n : Nat) : Int).toNat = n from rfl, show (((m : Nat) : Int) - ((n : Nat) : Int)).toNat = m - n from by omega]
      exact k
/-! the order, plainly -/
def Above (a b : List Int) : Prop := a.length ≤ b.length ∧ ∀ i, i < a.length → a.getD i 0 ≤ b.getD i 0
instance (a b : List Int) : Decidable (Above a b) := inferInstanceAs (Decidable (_ ∧ _))
theorem above_refl (a : List Int) : Above a a := ⟨Nat.le_refl _, fun _ _ => Int.le_refl _⟩
theorem above_trans {a b c : List Int} (h : Above a b) (k : Above b c) : Above a c :=
  ⟨Nat.le_trans h.1 k.1, fun i hi => Int.le_trans (h.2 i hi) (k.2 i (by have := h.1; omega))⟩
theorem above_anti {a b : List Int} (h : Above a b) (k : Above b a) : a = b := by
  have hl : a.length = b.length := Nat.le_antisymm h.1 k.1
  apply List.ext_getElem hl
  intro i h1 h2
  have x := h.2 i h1
  have y := k.2 i h2
  rw [List.getD_eq_getElem?_getD, List.getD_eq_getElem?_getD, List.getElem?_eq_getElem h1, List.getElem?_eq_getElem h2] at x y
  simp at x y
  omega
theorem dep_inj {l m : List Bool} (h : Wd l) (k : Wd m) (e : dep l = dep m) : l = m := by
  rw [← wof_dep l.length l (Nat.le_refl _) h.2, ← wof_dep m.length m (Nat.le_refl _) k.2, e]
def spDom : Sp := fun vs H Q _ => ∃ (l m : List Bool), vs = [.str (tx l), .str (tx m)] ∧ (Wd l ∧ Wd m) ∧ ∀ H', Ex H H' → Q (.bl (decide (Above (dep l) (dep m)))) H'
abbrev s_dominates : Stmt := (top 8)
abbrev N_dominates : List Str := ["first", "second", "better", "worse", "depth", "allowed"]
theorem sc_dominates : FnScope N_dominates ["first", "second"] (defScope s_dominates) := ⟨rfl, rfl, rfl, by decide +kernel, rfl, by decide +kernel, by decide +kernel⟩
theorem cl_dominates (T : Bl mg) (D : Df K mg "dominates" s_dominates ["first", "second"]) (C_depth_list : Cl P w K mg base 1 "_depth_list" ["word"] spDeps) (C_good_word : Cl P w K mg base 1 "good_word" ["word", "field"] spGood) : Cl P w K mg base 2 "dominates" ["first", "second"] spDom := by
  have nd := sc_dominates.nd
  refine D.ok sc_dominates (fun vs H Q E h => ?_) (fun f cdv A outer s H vs Q E hr h => ?_)
  · obtain ⟨l, m, rfl, _⟩ := h
    rfl
  · obtain ⟨l, m, rfl, ⟨h, h'⟩, k⟩ := h
    have hu := hu64 hr
    refine ⟨_, (pss_cons (ps_expr (pe_cl C_good_word (by exact hr.mono (by decide)) (pa_cons (pv 0) (pa_cons pe_str pa_nil))))
    (pss_cons (ps_expr (pe_cl C_good_word (by exact hr.mono (by decide)) (pa_cons (pv 1) (pa_cons pe_str pa_nil))))
    (pss_cons (ps_set (i := 2) nd rfl (Or.inl rfl) (pe_cl C_depth_list (by exact hr.mono (by decide)) (pa_cons (pv 0) pa_nil)))
    (pss_cons (ps_set (i := 3) nd rfl (Or.inl rfl) (pe_cl C_depth_list (by exact hr.mono (by decide)) (pa_cons (pv 1) pa_nil)))
    (pss_cons (ps_if (pt_cmpR opGt (pe_callB (callLenK (K := K) (by rfl)) (by rfl) T.len (by decide +kernel) (pa_cons (pv 2) pa_nil)) (pe_callB (callLenK (K := K) (by rfl)) (by rfl) T.len (by decide +kernel) (pa_cons (pv 3) pa_nil)) (nomark _))
      (pss_one (ps_ret pe_bl))
      pss_nil)
    (pss_cons (ps_for PassesOwn.never rfl (pi_zipK (K := K) (by rfl) (by rfl) T.zip (pa_cons (pv 2) (pa_cons (pv 3) pa_nil))) (pg_tup rfl (pgs_cons (pg_name (i := 4) nd rfl (Or.inl rfl)) (pgs_cons (pg_name (i := 5) nd rfl (Or.inl rfl)) pgs_nil)))
      (pss_one (ps_if (pt_cmpR opGt (pv 4) (pv 5) (nomark _))
      (pss_one (ps_ret pe_bl))
      pss_nil)))
    (pss_one (ps_ret pe_bl)))))))), ?_⟩
    try dsimp only [L2.cxOf, L2.Cx.nox]
    simp only [L2.start, N_dominates, List.map_cons, List.map_nil, List.length_cons, List.length_nil, Nat.reduceAdd, Nat.reduceSub, List.replicate_succ, List.replicate_zero, List.cons_append, List.nil_append]

    have h1 := h.1
    have h2 := h'.1
    walk_at "gos"
    · rename_i hI
      exact Gx.q_decN' (k _ Gx.rel) (fun z => by have := z.1; omega)
    · rename_i p H1 np1 e1 hp1 q H2 np2 e2 hp2 hI
      refine Gx.forZ [] (dep l).length (fun i σ' H' => ∃ s4 s5, σ' = [some (.str (tx l)), some (.str (tx m)), some (.ref p), some (.ref q), s4, s5] ∧ ∀ j, j < i → (dep l).getD j 0 ≤ (dep m).getD j 0) (by rw [List.length_map, List.length_map]; omega) ⟨_, _, rfl, fun j hj => absurd hj (Nat.not_lt_zero _)⟩ ?_ ?_
      · rintro i c d x σ' H' H'' hi hc hd e ⟨s4, s5, rfl, hP⟩ y
        obtain ⟨c, ic, rfl⟩ := Gx.map_at hc
        obtain ⟨d, id', rfl⟩ := Gx.map_at hd
        have ec := Gx.getD_at (d := (0 : Int)) ic
        have ed := Gx.getD_at (d := (0 : Int)) id'
        walk_at "gos"
        · exact Gx.q_decN' (k _ Gx.rel) (fun z => by have := z.2 i hi; omega)
        · refine Gx.li ⟨_, _, rfl, fun j hj => ?_⟩
          by_cases h : j = i
          · rw [h, ec, ed]; omega
          · exact hP j (by omega)
      · rintro σ' H' e ⟨s4, s5, rfl, hP⟩
        walk_at "gos"
        exact Gx.q_dec' (k _ Gx.rel) ⟨by omega, hP⟩

def B01 (m : Int) : Prop := m = 0 ∨ m = 1
def spBits : Sp := fun vs H Q _ => ∃ (b c : Addr) (size : Int), vs = [.ref b, .int size] ∧ (Bx b c H ∧ 0 ≤ size ∧ size ≤ 64) ∧ ∀ p (ns : List Int) H', Nw H p → ExB b H H' → Bx b c H' → At H' p (.lst (ns.map V.int)) → (ns.length : Int) = size → (∀ m ∈ ns, B01 m) → Q (.ref p) H'
theorem use_bits {b c : Addr} {size : Int} {H : Hp} {Q : VK} {E : XK} [hb : Bx b c H] (h1 : 0 ≤ size) (h2 : size ≤ 64) (q : ∀ p (ns : List Int) H', Nw H p → ExB b H H' → Bx b c H' → At H' p (.lst (ns.map V.int)) → (ns.length : Int) = size → (∀ m ∈ ns, B01 m) → Q (.ref p) H') : spBits ([.ref b, .int size] ++ []) H Q E := ⟨b, c, size, rfl, ⟨hb, h1, h2⟩, q⟩
abbrev s_law_bits : Stmt := (top 15)
abbrev N_law_bits : List Str := ["_law_box_here", "_law_size", "_law_found", "_law_part", "_law_number", "_law_place"]
theorem sc_law_bits : FnScope N_law_bits ["_law_box_here", "_law_size"] (defScope s_law_bits) := ⟨rfl, rfl, rfl, by decide +kernel, rfl, by decide +kernel, by decide +kernel⟩
theorem cl_law_bits (T : Bl mg) (D : Df K mg "_law_bits" s_law_bits ["_law_box_here", "_law_size"]) (C_law_take : Cl P w K mg base 1 "_law_take" ["_law_box_here", "_law_size"] spTake) : Cl P w K mg base 2 "_law_bits" ["_law_box_here", "_law_size"] spBits := by
  have nd := sc_law_bits.nd
  refine D.ok sc_law_bits (fun vs H Q E h => ?_) (fun f cdv A outer s H vs Q E hr h => ?_)
  · obtain ⟨b, c, size, rfl, _⟩ := h
    rfl
  · obtain ⟨b, c, size, rfl, ⟨hb, h1, h2⟩, k⟩ := h
    have hu := hu64 hr
    refine ⟨_, (pss_cons (ps_set (i := 2) nd rfl (Or.inl rfl) (pe_lst pa_nil))
    (pss_cons (ps_for PassesOwn.never rfl (pi_range1 rfl T.range (pa_cons (pe_op opDiv (pe_op (opAddK (K := K) (by rfl)) (pv 1) pe_int) pe_int) pa_nil)) (pg_name (i := 3) nd rfl (Or.inl rfl))
      (pss_cons (ps_set (i := 4) nd rfl (Or.inl rfl) (pe_cl C_law_take (by exact hr.mono (by decide)) (pa_cons (pv 0) (pa_cons pe_int pa_nil))))
    (pss_one (ps_for PassesOwn.never rfl (pi_range1 rfl T.range (pa_cons pe_int pa_nil)) (pg_name (i := 5) nd rfl (Or.inl rfl))
      (pss_cons (ps_expr (pe_bmK (K := K) (by rfl) PySem.F.plainAttrs_list PySem.F.slot_list_append PySem.F.type_list_append mt_append (pv 2) (pa_cons (pe_op opMod (pe_callTy callInt (by rfl) T.int (by decide +kernel) (pa_cons (pv 4) pa_nil)) pe_int) pa_nil)))
    (pss_one (ps_set (i := 4) nd rfl (Or.inl rfl) (pe_op opDiv (pv 4) pe_int))))))))
    (pss_one (ps_ret (pe_slice (slAnyK (K := K) (by rfl)) (pv 2) po_none (po_some (pv 1))))))), ?_⟩
    try dsimp only [L2.cxOf, L2.Cx.nox]
    simp only [L2.start, N_law_bits, List.map_cons, List.map_nil, List.length_cons, List.length_nil, Nat.reduceAdd, Nat.reduceSub, List.replicate_succ, List.replicate_zero, List.cons_append, List.nil_append]

    have lc := liveBx2 hb
    walk_at "gos"
    rename_i p H1 np1 e1 hp1
    refine Gx.for1 [b, p] (fun i σ' H' => ∃ s3 s4 s5, ∃ ns : List Int, σ' = [some (.ref b), some (.int size), some (.ref p), s3, s4, s5] ∧ Bx b c H' ∧ At H' p (.lst (ns.map V.int)) ∧ ns.length = 16 * i ∧ ∀ m ∈ ns, B01 m) (by omega) ⟨_, _, _, [], rfl, inferInstance, Gx.at_, rfl, by simp⟩ ?_ ?_
    · rintro i σ' H' hi e ⟨s3, s4, s5, ns, rfl, hB, hp, hl, hP⟩
      walk_at "gos"
      rename_i d H2 hd0 hd1 e2 hB2
      refine Gx.for1 [p] (fun j σ' H' => ∃ s5, ∃ (n : Int) (ms : List Int), σ' = [some (.ref b), some (.int size), some (.ref p), some (.int i), some (.int n), s5] ∧ At H' p (.lst (ms.map V.int)) ∧ ms.length = 16 * i + j ∧ ∀ m ∈ ms, B01 m) (by omega) ⟨_, _, ns, rfl, Gx.at_, hl, hP⟩ ?_ ?_
      · rintro j σ' H' hj e ⟨s5, n, ms, rfl, hp, hl, hP⟩
        walk_at "gos"
        refine Gx.li ⟨_, _, ms ++ [n % 2], rfl, ?_, by simp; omega, ?_⟩
        · rw [List.map_append]
          exact Gx.at_
        · intro m hm
          rcases List.mem_append.mp hm with h | h
          · exact hP m h
          · rw [List.mem_singleton.mp h]
            unfold B01
            omega
      · rintro σ' H' e ⟨s5, n, ms, rfl, hp, hl, hP⟩
        walk_at "gos"
        exact Gx.li ⟨_, _, _, ms, rfl, inferInstance, hp, by rw [hl]; simp; omega, hP⟩
    · rintro σ' H' e ⟨s3, s4, s5, ns, rfl, hB, hp, hl, hP⟩
      obtain ⟨n, rfl⟩ : ∃ n : Nat, size = n := ⟨size.toNat, by omega⟩
      walk_at "gos"
      rename_i p2 H2 np2 e2 hp2
      rw [Gx.cutTo] at hp2
      exact k p2 (ns.take n) _ Gx.new Gx.rel inferInstance hp2 (by rw [List.length_take, hl]; omega) (fun m hm => hP m (List.mem_of_mem_take hm))
local macro_rules | `(tactic| walk_at "call") => `(tactic| ((with_reducible show spBits _ _ _ _); refine use_bits (by omega) (by omega) ?_; intro p_ ns_ H_ np_ e_ hB_ hp_ hl_ hP_))
def spWord : Sp := fun vs H Q _ => ∃ (b c : Addr) (most : Int), vs = [.ref b, .int most] ∧ (Bx b c H ∧ 0 ≤ most ∧ most ≤ 64) ∧ ∀ l H', ExB b H H' → Bx b c H' → Wd l → (l.length : Int) ≤ most → Q (.str (tx l)) H'
theorem use_word {b c : Addr} {most : Int} {H : Hp} {Q : VK} {E : XK} [hb : Bx b c H] (h1 : 0 ≤ most) (h2 : most ≤ 64) (q : ∀ l H', ExB b H H' → Bx b c H' → Wd l → (l.length : Int) ≤ most → Q (.str (tx l)) H') : spWord ([.ref b, .int most] ++ []) H Q E := ⟨b, c, most, rfl, ⟨hb, h1, h2⟩, q⟩
theorem wd_most {most size : Int} {r : List Bool} {n : Nat} (h : r.length = n - 1) (hn : (n : Int) = size) (h0 : 0 < size) (h2 : size ≤ most) (h3 : most ≤ 64) : Wd (true :: r) ∧ (((true :: r).length : Nat) : Int) ≤ most :=
  ⟨wd_one (by omega), by simp only [List.length_cons]; omega⟩
theorem b01_ite {a b : Int} {p : Prop} [Decidable p] (h : B01 a) (k : B01 b) : B01 (if p then a else b) := by
  split
  · exact h
  · exact k
theorem b01_at {ns : List Int} {i : Nat} (h : ∀ m ∈ ns, B01 m) (hi : i < ns.length) : B01 (ns.getD i 0) := h _ (Gx.getD_mem hi)
theorem b01_ints {acc : List V} (h : ∀ v ∈ acc, ∃ m, v = V.int m ∧ B01 m) : ∃ ns : List Int, acc = ns.map V.int ∧ ∀ m ∈ ns, B01 m := by
  induction acc with
  | nil => exact ⟨[], rfl, by simp⟩
  | cons v r ih =>
    obtain ⟨ns, rfl, hn⟩ := ih (fun u hu => h u (List.mem_cons_of_mem _ hu))
    obtain ⟨m, rfl, hm⟩ := h v (List.mem_cons_self ..)
    refine ⟨m :: ns, rfl, fun k hk => ?_⟩
    rcases List.mem_cons.mp hk with e | e
    · rw [e]; exact hm
    · exact hn k e
theorem b01_bits {ns : List Int} (h : ∀ m ∈ ns, B01 m) : ∃ bs : List Bool, bs.length = ns.length - 1 ∧ (ns.drop 1).map V.int = bs.map fun b => V.int (if b = true then 1 else 0) := by
  refine ⟨(ns.drop 1).map fun m => decide (m = 1), by simp, ?_⟩
  rw [List.map_map]
  apply List.map_congr_left
  intro m hm
  rcases h m (List.mem_of_mem_drop hm) with e | e <;> subst e <;> rfl
theorem fl_one (bs : List Bool) : (bs.map fun b => [b]).flatten = bs := by
  induction bs with
  | nil => rfl
  | cons b r ih => rw [List.map_cons, List.flatten_cons, ih]; rfl
abbrev s_law_word : Stmt := (top 16)
abbrev N_law_word : List Str := ["_law_box_here", "_law_most", "_law_shape", "_law_size", "_law_ones", "_law_bits_here", "_law_other", "_law_k", "_law_bit"]
theorem sc_law_word : FnScope N_law_word ["_law_box_here", "_law_most"] (defScope s_law_word) := ⟨rfl, rfl, rfl, by decide +kernel, rfl, by decide +kernel, by decide +kernel⟩
theorem cl_law_word (T : Bl mg) (D : Df K mg "_law_word" s_law_word ["_law_box_here", "_law_most"]) (C_law_take : Cl P w K mg base 1 "_law_take" ["_law_box_here", "_law_size"] spTake) (C_law_bits : Cl P w K mg base 2 "_law_bits" ["_law_box_here", "_law_size"] spBits) : Cl P w K mg base 3 "_law_word" ["_law_box_here", "_law_most"] spWord := by
  have nd := sc_law_word.nd
  refine D.ok sc_law_word (fun vs H Q E h => ?_) (fun f cdv A outer s H vs Q E hr h => ?_)
  · obtain ⟨b, c, most, rfl, _⟩ := h
    rfl
  · obtain ⟨b, c, most, rfl, ⟨hb, h1, h2⟩, k⟩ := h
    have hu := hu64 hr
    refine ⟨_, (pss_cons (ps_set (i := 2) nd rfl (Or.inl rfl) (pe_cl C_law_take (by exact hr.mono (by decide)) (pa_cons (pv 0) (pa_cons pe_int pa_nil))))
    (pss_cons (ps_set (i := 3) nd rfl (Or.inl rfl) (pe_cl C_law_take (by exact hr.mono (by decide)) (pa_cons (pv 0) (pa_cons (pe_op (opAddK (K := K) (by rfl)) (pe_callB (callMin2 rfl) (by rfl) T.min (by decide +kernel) (pa_cons (pv 1) (pa_cons pe_int pa_nil))) pe_int) pa_nil))))
    (pss_cons (ps_if (pt_cmpR opGt (pv 2) pe_int (nomark _))
      (pss_one (ps_set (i := 3) nd rfl (Or.inl rfl) (pe_cl C_law_take (by exact hr.mono (by decide)) (pa_cons (pv 0) (pa_cons (pe_op (opAddK (K := K) (by rfl)) (pv 1) pe_int) pa_nil)))))
      pss_nil)
    (pss_cons (ps_if (pt_cmpR (opEqK (K := K) (by rfl) (by exact hu)) (pv 3) pe_int (nomark _))
      (pss_one (ps_ret pe_str))
      pss_nil)
    (pss_cons (ps_if (pt_cmpR (opEqK (K := K) (by rfl) (by exact hu)) (pv 2) pe_int (nomark _))
      (pss_cons (ps_set (i := 4) nd rfl (Or.inl rfl) (pe_op (opAddK (K := K) (by rfl)) pe_int (pe_cl C_law_take (by exact hr.mono (by decide)) (pa_cons (pv 0) (pa_cons (pv 3) pa_nil)))))
    (pss_one (ps_ret (pe_op (opAddK (K := K) (by rfl)) (pe_op (opMulK (K := K) (by rfl)) pe_str (pv 4)) (pe_op (opMulK (K := K) (by rfl)) pe_str (pe_op opSub (pv 3) (pv 4)))))))
      pss_nil)
    (pss_cons (ps_set (i := 5) nd rfl (Or.inr rfl) (pe_cl C_law_bits (by exact hr.mono (by decide)) (pa_cons (pv 0) (pa_cons (pv 3) pa_nil))))
    (pss_cons (ps_if (pt_cmpR (opEqK (K := K) (by rfl) (by exact hu)) (pv 2) pe_int (nomark _))
      (pss_cons (ps_set (i := 6) nd rfl (Or.inr rfl) (pe_cl C_law_bits (by exact hr.mono (by decide)) (pa_cons (pv 0) (pa_cons (pv 3) pa_nil))))
    (pss_one (ps_if (pt_cmpR (opEqK (K := K) (by rfl) (by exact hu)) (pe_cl C_law_take (by exact hr.mono (by decide)) (pa_cons (pv 0) (pa_cons pe_int pa_nil))) pe_int (nomark _))
      (pss_one (ps_set (i := 5) nd rfl (Or.inr rfl) (pe_lc (own := [("_law_k", 7)]) (g := gName 7) rfl nd (pi_range1 rfl T.range (pa_cons (pv 3) pa_nil)) (blkOk_by (own := [("_law_k", 7)]) (N := N_law_word) (sc := defScope s_law_word) (by decide +kernel)) (fun _ _ _ _ _ => (pg_name (i := 7) nd rfl (Or.inl rfl))) (fun _ _ _ _ _ => pts_nil) (fun _ _ _ _ _ => (pe_callB (callMax2 rfl) (by rfl) T.max (by decide +kernel) (pa_cons (pe_ix (ixSeqK (K := K) (by rfl)) (pv 5) (pv 7) (fun _ _ => rfl)) (pa_cons (pe_ix (ixSeqK (K := K) (by rfl)) (pv 6) (pv 7) (fun _ _ => rfl)) pa_nil)))))))
      (pss_one (ps_set (i := 5) nd rfl (Or.inr rfl) (pe_lc (own := [("_law_k", 7)]) (g := gName 7) rfl nd (pi_range1 rfl T.range (pa_cons (pv 3) pa_nil)) (blkOk_by (own := [("_law_k", 7)]) (N := N_law_word) (sc := defScope s_law_word) (by decide +kernel)) (fun _ _ _ _ _ => (pg_name (i := 7) nd rfl (Or.inl rfl))) (fun _ _ _ _ _ => pts_nil) (fun _ _ _ _ _ => (pe_callB (callMin2 rfl) (by rfl) T.min (by decide +kernel) (pa_cons (pe_ix (ixSeqK (K := K) (by rfl)) (pv 5) (pv 7) (fun _ _ => rfl)) (pa_cons (pe_ix (ixSeqK (K := K) (by rfl)) (pv 6) (pv 7) (fun _ _ => rfl)) pa_nil))))))))))
      pss_nil)
    (pss_one (ps_ret (pe_op (opAddK (K := K) (by rfl)) pe_str (pe_bmK (K := K) (by rfl) PySem.F.plainAttrs_str PySem.F.slot_str_join PySem.F.type_str_join (mtJoinK (K := K) (by rfl)) pe_str (pa_cons (pe_lc (own := [("_law_bit", 8)]) (g := gName 8) rfl nd (pi_listK (K := K) (by rfl) (pe_slice (slAnyK (K := K) (by rfl)) (pv 5) (po_some pe_int) po_none)) (blkOk_by (own := [("_law_bit", 8)]) (N := N_law_word) (sc := defScope s_law_word) (by decide +kernel)) (fun _ _ _ _ _ => (pg_name (i := 8) nd rfl (Or.inl rfl))) (fun _ _ _ _ _ => pts_nil) (fun _ _ _ _ _ => (pe_ix (ixSeqK (K := K) (by rfl)) pe_str (pv 8) (fun _ _ => rfl)))) pa_nil)))))))))))), ?_⟩
    try dsimp only [L2.cxOf, L2.Cx.nox]
    simp only [L2.start, N_law_word, List.map_cons, List.map_nil, List.length_cons, List.length_nil, Nat.reduceAdd, Nat.reduceSub, List.replicate_succ, List.replicate_zero, List.cons_append, List.nil_append]

    have lc := liveBx2 hb
    walk_at "gos"
    all_goals first
      | exact k _ _ Gx.rel inferInstance Wd.nil (by simp; omega)
      | (rename_i n H1 _ _ _ _ _ _ d H2 h0 h1 _ _
         refine k _ _ Gx.rel inferInstance ⟨by simp; omega, ?_⟩ (by simp; omega)
         rw [show (1 + d).toNat = d.toNat + 1 from by omega, List.replicate_succ]
         simp)
      | skip
    all_goals first
     | (fail_if_success (with_reducible show Gx.rLc1 _ _ _ _ _ _ _ _))
     | (
      refine Gx.lc1_A (fun v => ∃ m, v = V.int m ∧ B01 m) (by omega) (fun D i acc H' hi hD e hp hz => ?_) (fun D acc H' hD e hp hl hP => ?_)
      · walk_at "gos"
        exact ⟨Gx.rel, _, rfl, _, rfl, b01_ite (b01_at (by assumption) (by omega)) (b01_at (by assumption) (by omega))⟩
      obtain ⟨ms, rfl, hP⟩ := b01_ints hP
      rw [List.length_map] at hl
      have hl : (ms.length : Int) = _ := (congrArg (fun n : Nat => (n : Int)) hl).trans (Int.toNat_of_nonneg (by omega))
      walk_at "gos")
    all_goals
      rename_i p2 H2 np2 e2 hp2
      obtain ⟨bs, hb1, hb2⟩ := b01_bits ‹∀ m ∈ _, B01 m›
      rw [Gx.cut1, hb2] at hp2
      have hw := wd_most hb1 (by assumption) (by omega) (by omega) h2
      refine Gx.lcL_F (fun i => (bs.take i).map fun b => V.str (tx [b])) rfl (fun i hi => ?_) (fun D i x H' hx hD e hp hz => ?_) (fun D H' hD e hp => ?_)
      · rw [List.length_map] at hi ⊢
        rw [List.length_take]
        omega
      · obtain ⟨b, ib, rfl⟩ := Gx.map_at hx
        cases b
        all_goals
          simp only [Bool.false_eq_true, if_false, if_true]
          walk_at "gos"
          exact ⟨Gx.rel, Gx.take_map_snoc (f := fun b => V.str (tx [b])) ib⟩
      · rw [List.length_map, List.take_length, show (bs.map fun b => V.str (tx [b])) = (bs.map fun b => [b]).map fun l => V.str (tx l) from by rw [List.map_map]; rfl] at hp
        walk_at "gos"
        refine Gx.g_joinT (by rw [fl_one]; omega) ?_
        rw [fl_one]
        walk_at "gos"
        exact k _ _ Gx.rel inferInstance hw.1 hw.2


theorem dec_lt : ∀ {d : Int} {r : List Int}, Dec (d :: r) → ∀ x ∈ r, x < d
  | d, [], _, x, h => by simp at h
  | d, y :: r, hd, x, h => by
    have h1 : d > y := by simpa using hd.1
    rcases List.mem_cons.mp h with e | h
    · omega
    · have := dec_lt hd.2 x h
      omega
theorem dec_iff : ∀ {ds : List Int}, Dec ds ↔ ∀ i, i < ds.length → ds.getD i 0 > ds.getD (i + 1) 0
  | [] => ⟨fun _ i hi => absurd hi (Nat.not_lt_zero _), fun _ => trivial⟩
  | d :: r => by
    constructor
    · intro h i hi
      cases i with
      | zero =>
        have := h.1
        cases r <;> simpa using this
      | succ i => simpa using dec_iff.mp h.2 i (by simpa using hi)
    · intro h
      refine ⟨?_, dec_iff.mpr fun i hi => ?_⟩
      · have := h 0 (by simp)
        cases r <;> simpa using this
      · simpa using h (i + 1) (by simpa using hi)
theorem dec_pw : ∀ {ds : List Int}, Dec ds ↔ ds.Pairwise (· > ·) ∧ ∀ d ∈ ds, 0 < d
  | [] => ⟨fun _ => ⟨.nil, by simp⟩, fun _ => trivial⟩
  | d :: r => by
    constructor
    · intro h
      exact ⟨.cons (fun x hx => dec_lt h x hx) (dec_pw.mp h.2).1, dec_pos _ h⟩
    · rintro ⟨h, hp⟩
      cases h with
      | cons h1 h2 =>
        refine ⟨?_, dec_pw.mpr ⟨h2, fun x hx => hp x (List.mem_cons_of_mem _ hx)⟩⟩
        cases r with
        | nil => exact hp d (List.mem_cons_self ..)
        | cons y r => exact h1 y (List.mem_cons_self ..)
def DL (ds : List Int) : Prop := Dec ds ∧ ds.headD 0 ≤ 64
theorem dl_nil : DL [] := ⟨trivial, by simp⟩
theorem dec_len : ∀ {ds : List Int}, Dec ds → (ds.length : Int) ≤ ds.headD 0
  | [], _ => by simp
  | d :: r, h => by
    have h1 := h.1
    have h2 := dec_len h.2
    simp only [List.length_cons, List.headD_cons]
    omega
theorem DL.len {ds : List Int} (h : DL ds) : ds.length ≤ 64 := by
  have := dec_len h.1
  have := h.2
  omega
theorem dec_head : ∀ {ds : List Int}, Dec ds → ∀ d ∈ ds, d ≤ ds.headD 0
  | [], _, d, h => by simp at h
  | x :: r, hd, d, h => by
    rcases List.mem_cons.mp h with e | h
    · rw [e]; simp
    · have := dec_lt hd d h
      simp
      omega
theorem DL.at {ds : List Int} (h : DL ds) {i : Nat} (hi : i < ds.length) : 1 ≤ ds.getD i 0 ∧ ds.getD i 0 ≤ 64 ∧ ds.getD i 0 > ds.getD (i + 1) 0 := by
  have m : ds.getD i 0 ∈ ds := Gx.getD_mem hi
  have := dec_pos _ h.1 _ m
  have := dec_head h.1 _ m
  have := h.2
  exact ⟨by omega, by omega, dec_iff.mp h.1 i hi⟩
theorem dep_dl {l : List Bool} (h : Wd l) : DL (dep l) := ⟨dec_dep l, by rw [head_dep h.2]; have := h.1; omega⟩
theorem descends : ∀ (n : Nat) (ds : List Int), Dec ds → (∀ d ∈ ds, d ≤ n) → ((List.range n).map fun p => (n : Int) - (p : Nat)).filter (· ∈ ds) = ds
  | 0, ds, h, hn => by
    have e : ds = [] := by
      cases ds with
      | nil => rfl
      | cons d r =>
        have := dec_pos _ h d (List.mem_cons_self ..)
        have := hn d (List.mem_cons_self ..)
        omega
    rw [e]
    rfl
  | n + 1, ds, h, hn => by
    have e1 : ((List.range (n + 1)).map fun p => ((n + 1 : Nat) : Int) - (p : Nat)) = ((n : Int) + 1) :: (List.range n).map fun p => (n : Int) - (p : Nat) := by
      rw [List.range_succ_eq_map, List.map_cons, List.map_map]
      congr 1
      apply List.map_congr_left
      intro k _
      simp only [Function.comp]
      omega
    rw [e1, List.filter_cons]
    cases ds with
    | nil =>
      rw [if_neg (by simp)]
      exact descends n [] trivial (by simp)
    | cons d r =>
      by_cases hd : d = (n : Int) + 1
      · rw [if_pos (by simp [hd])]
        have e2 : (((List.range n).map fun p => (n : Int) - (p : Nat)).filter (· ∈ d :: r)) = (((List.range n).map fun p => (n : Int) - (p : Nat)).filter (· ∈ r)) := by
          apply List.filter_congr
          intro x hx
          obtain ⟨k, _, rfl⟩ := List.mem_map.mp hx
          have : ¬ ((n : Int) - (k : Nat) = d) := by omega
          simp [this]
        rw [e2, descends n r h.2 (fun x hx => by have := dec_lt h x hx; omega), hd]
      · have hle : ∀ x ∈ d :: r, x ≤ (n : Int) := by
          have h0 := hn d (List.mem_cons_self ..)
          intro x hx
          rcases List.mem_cons.mp hx with e | e
          · omega
          · have := dec_lt h x e; omega
        rw [if_neg (by
          intro z
          have := hle _ (of_decide_eq_true z)
          omega)]
        exact descends n (d :: r) h hle
def wdOf (n : Nat) (ds : List Int) : List Bool := (List.range n).map fun p => decide ((n : Int) - (p : Nat) ∈ ds)
theorem dep_wdOf {n : Nat} {ds : List Int} (h : Dec ds) (hn : ∀ d ∈ ds, d ≤ n) : dep (wdOf n ds) = ds := by
  have e := descends n ds h hn
  unfold dep depTo
  have hl : (wdOf n ds).length = n := by simp [wdOf]
  rw [hl]
  refine Eq.trans ?_ e
  rw [List.filter_map]
  congr 1
  apply List.filter_congr
  intro k hk
  have hk' : k < n := List.mem_range.mp hk
  simp [wdOf, hk']
theorem wd_wdOf {n : Nat} {ds : List Int} (hn : n ≤ 64) (h : n ≠ 0 → (n : Int) ∈ ds) : Wd (wdOf n ds) := by
  refine ⟨by simp [wdOf]; exact hn, ?_⟩
  cases n with
  | zero => simp [wdOf]
  | succ n =>
    have := h (by simp)
    simp [wdOf, List.range_succ_eq_map]
    simpa using this
theorem dl_fewer {ds : List Int} (h : DL ds) (p : Nat) : DL (ds.take p ++ ds.drop (p + 1)) := by
  have hs : (ds.take p ++ ds.drop (p + 1)).Sublist ds := by
    have e : ds = ds.take p ++ ds.drop p := (List.take_append_drop p ds).symm
    conv => rhs; rw [e]
    exact List.Sublist.append (List.Sublist.refl _) (by rw [← List.drop_drop]; exact List.drop_sublist _ _)
  have h1 := dec_pw.mp h.1
  have hd : Dec (ds.take p ++ ds.drop (p + 1)) := dec_pw.mpr ⟨h1.1.sublist hs, fun d hd => h1.2 d (hs.subset hd)⟩
  refine ⟨hd, ?_⟩
  cases e : ds.take p ++ ds.drop (p + 1) with
  | nil => simp
  | cons x r =>
    have := dec_head h.1 x (hs.subset (by rw [e]; exact List.mem_cons_self ..))
    have := h.2
    simp
    omega
theorem dl_set {ds : List Int} (h : DL ds) {p : Nat} {v : Int} (hp : p < ds.length) (h1 : 1 ≤ v) (h2 : v ≤ 64) (h3 : p > 0 → v < ds.getD (p - 1) 0) (h4 : p + 1 < ds.length → v > ds.getD (p + 1) 0) : DL (ds.set p v) := by
  have g : ∀ i, (ds.set p v).getD i 0 = if i = p then v else ds.getD i 0 := by
    intro i
    rw [List.getD_eq_getElem?_getD, List.getElem?_set]
    by_cases e : p = i
    · subst e
      simp [hp]
    · rw [if_neg e, if_neg (fun z => e z.symm), List.getD_eq_getElem?_getD]
  refine ⟨dec_iff.mpr fun i hi => ?_, ?_⟩
  · rw [List.length_set] at hi
    rw [g, g]
    have := dec_iff.mp h.1 i hi
    split
    · rename_i e
      subst e
      rw [if_neg (by omega)]
      by_cases z : i + 1 < ds.length
      · exact h4 z
      · have : ds.getD (i + 1) 0 = 0 := by
          rw [List.getD_eq_getElem?_getD, List.getElem?_eq_none (by omega)]
          rfl
        omega
    · split
      · rename_i e
        have := h3 (by omega)
        rw [show p - 1 = i from by omega] at this
        exact this
      · exact this
  · have e : (ds.set p v).headD 0 = (ds.set p v).getD 0 0 := by
      cases (ds.set p v) <;> rfl
    rw [e, g]
    split
    · exact h2
    · have e2 : ds.getD 0 0 = ds.headD 0 := by cases ds <;> rfl
      rw [e2]
      exact h.2

abbrev s_law_depths : Stmt := (top 17)
abbrev N_law_depths : List Str := ["_law_word_here", "_law_k"]
theorem sc_law_depths : FnScope N_law_depths ["_law_word_here"] (defScope s_law_depths) := ⟨rfl, rfl, rfl, by decide +kernel, rfl, by decide +kernel, by decide +kernel⟩
theorem cl_law_depths (T : Bl mg) (D : Df K mg "_law_depths" s_law_depths ["_law_word_here"])  : Cl P w K mg base 1 "_law_depths" ["_law_word_here"] spDeps := by
  have nd := sc_law_depths.nd
  refine D.ok sc_law_depths (fun vs H Q E h => ?_) (fun f cdv A outer s H vs Q E hr h => ?_)
  · obtain ⟨l, rfl, _⟩ := h
    rfl
  · obtain ⟨l, rfl, h, k⟩ := h
    have hu := hu64 hr
    refine ⟨_, (pss_one (ps_ret (pe_lc (own := [("_law_k", 1)]) (g := gName 1) rfl nd (pi_range1 rfl T.range (pa_cons (pe_callB (callLenK (K := K) (by rfl)) (by rfl) T.len (by decide +kernel) (pa_cons (pv 0) pa_nil)) pa_nil)) (blkOk_by (own := [("_law_k", 1)]) (N := N_law_depths) (sc := defScope s_law_depths) (by decide +kernel)) (fun _ _ _ _ _ => (pg_name (i := 1) nd rfl (Or.inl rfl))) (fun _ _ _ _ _ => (pts_one (pt_cmpR (opEqK (K := K) (by rfl) (by exact hu)) (pe_ix (ixSeqK (K := K) (by rfl)) (pv 0) (pv 1) (fun _ _ => rfl)) pe_str (nomark _)))) (fun _ _ _ _ _ => (pe_op opSub (pe_callB (callLenK (K := K) (by rfl)) (by rfl) T.len (by decide +kernel) (pa_cons (pv 0) pa_nil)) (pv 1)))))), ?_⟩
    try dsimp only [L2.cxOf, L2.Cx.nox]
    simp only [L2.start, N_law_depths, List.map_cons, List.map_nil, List.length_cons, List.length_nil, Nat.reduceAdd, Nat.reduceSub, List.replicate_succ, List.replicate_zero, List.cons_append, List.nil_append]

    walk_at "gos"
    refine Gx.lc1_F (fun i => (depTo l i).map V.int) (by omega) rfl (fun i hi => ?_) (fun D i H' hi hD e hp hz => ?_) (fun D H' hD e hp => ?_)
    · rw [List.length_map]
      have := depTo_len l i
      omega
    · have hi' : i < l.length := by omega
      have hb : l[i]? = some l[i] := List.getElem?_eq_getElem hi'
      generalize l[i] = b at hb
      have hs := depTo_succ hb
      walk_at "go"
      refine Gx.g_ixTx (by omega) (Gx.atI_nat hb) ?_
      cases b with
      | true =>
        walk_at "go"
        rw [show decide ([true] = [true]) = true from rfl]
        walk_at "go"
        refine ⟨Gx.rel, ?_⟩
        rw [hs]
        simp
      | false =>
        walk_at "go"
        rw [show decide ([false] = [true]) = false from rfl]
        walk_at "go"
        refine ⟨Gx.rel, ?_⟩
        rw [hs]
        simp
    · exact k D H' hD e hp
def spWOf (K : PySem.W.Frag) : Sp := fun vs H Q _ => ∃ (p : Addr) (ds : List Int), vs = [.ref p] ∧ (SqC K H p (ds.map V.int) ∧ DL ds) ∧ ∀ l H', Ex H H' → Wd l → dep l = ds → Q (.str (tx l)) H'
abbrev s_law_word_of : Stmt := (top 18)
abbrev N_law_word_of : List Str := ["_law_due", "_law_place"]
theorem sc_law_word_of : FnScope N_law_word_of ["_law_due"] (defScope s_law_word_of) := ⟨rfl, rfl, rfl, by decide +kernel, rfl, by decide +kernel, by decide +kernel⟩
theorem cl_law_word_of (T : Bl mg) (D : Df K mg "_law_word_of" s_law_word_of ["_law_due"])  : Cl P w K mg base 1 "_law_word_of" ["_law_due"] (spWOf K) := by
  have nd := sc_law_word_of.nd
  refine D.ok sc_law_word_of (fun vs H Q E h => ?_) (fun f cdv A outer s H vs Q E hr h => ?_)
  · obtain ⟨p, ds, rfl, _⟩ := h
    rfl
  · obtain ⟨p, ds, rfl, ⟨hs, hd⟩, k⟩ := h
    have hu := hu64 hr
    refine ⟨_, (pss_cons (ps_if (pt_cmpR (opEqK (K := K) (by rfl) (by exact hu)) (pv 0) (pe_lst pa_nil) (nomark _))
      (pss_one (ps_ret pe_str))
      pss_nil)
    (pss_one (ps_ret (pe_bmK (K := K) (by rfl) PySem.F.plainAttrs_str PySem.F.slot_str_join PySem.F.type_str_join (mtJoinK (K := K) (by rfl)) pe_str (pa_cons (pe_lc (own := [("_law_place", 1)]) (g := gName 1) rfl nd (pi_range1 rfl T.range (pa_cons (pe_ix (ixSeqK (K := K) (by rfl)) (pv 0) pe_int (fun _ _ => rfl)) pa_nil)) (blkOk_by (own := [("_law_place", 1)]) (N := N_law_word_of) (sc := defScope s_law_word_of) (by decide +kernel)) (fun _ _ _ _ _ => (pg_name (i := 1) nd rfl (Or.inl rfl))) (fun _ _ _ _ _ => pts_nil) (fun _ _ _ _ _ => (pe_ix (ixSeqK (K := K) (by rfl)) pe_str (pe_callTy callInt (by rfl) T.int (by decide +kernel) (pa_cons (pe_cmpR (opInK (K := K) (by rfl)) (pe_op opSub (pe_ix (ixSeqK (K := K) (by rfl)) (pv 0) pe_int (fun _ _ => rfl)) (pv 1)) (pv 0) (by rfl)) pa_nil)) (fun _ _ => rfl)))) pa_nil))))), ?_⟩
    try dsimp only [L2.cxOf, L2.Cx.nox]
    simp only [L2.start, N_law_word_of, List.map_cons, List.map_nil, List.length_cons, List.length_nil, Nat.reduceAdd, Nat.reduceSub, List.replicate_succ, List.replicate_zero, List.cons_append, List.nil_append]

    have hlen := hd.len
    walk_at "gos"
    · rename_i hI
      have e : ds = [] := hI
      exact k [] _ Gx.rel Wd.nil (by rw [e]; rfl)
    · rename_i hI
      have hne : ds ≠ [] := hI
      have h0 : 0 < ds.length := List.length_pos_iff.mpr hne
      have hat := hd.at h0
      have ehead : ds.getD 0 0 = ds.headD 0 := by cases ds <;> rfl
      obtain ⟨n, hn⟩ : ∃ n : Nat, ds.getD 0 0 = n := ⟨(ds.getD 0 0).toNat, by omega⟩
      walk_at "gos"
      rw [show (0 : Int).toNat = 0 from rfl, hn]
      refine Gx.lc1_F (fun i => ((wdOf n ds).take i).map fun b => V.str (tx [b])) (by omega) rfl (fun i hi => ?_) (fun D i H' hi hD e hp hz => ?_) (fun D H' hD e hp => ?_)
      · rw [List.length_map, List.length_take]
        omega
      · have hb : (wdOf n ds)[i]? = some (decide ((n : Int) - (i : Nat) ∈ ds)) := by
          have hi' : i < n := by omega
          simp [wdOf, hi']
        walk_at "gos"
        rw [show (0 : Int).toNat = 0 from rfl, hn]
        walk_at "gos"
        by_cases hm : (n : Int) - (i : Nat) ∈ ds
        · rw [if_pos hm]
          rw [decide_eq_true hm] at hb
          walk_at "gos"
          exact ⟨Gx.rel, Gx.take_map_snoc (f := fun b => V.str (tx [b])) hb⟩
        · rw [if_neg hm]
          rw [decide_eq_false hm] at hb
          walk_at "gos"
          exact ⟨Gx.rel, Gx.take_map_snoc (f := fun b => V.str (tx [b])) hb⟩
      · have hl : (wdOf n ds).length = n := by simp [wdOf]
        rw [Int.toNat_natCast, List.take_of_length_le (by omega), show ((wdOf n ds).map fun b => V.str (tx [b])) = ((wdOf n ds).map fun b => [b]).map fun l => V.str (tx l) from by rw [List.map_map]; rfl] at hp
        walk_at "gos"
        refine Gx.g_joinT (by rw [fl_one]; omega) ?_
        rw [fl_one]
        refine k _ _ Gx.rel (wd_wdOf (by omega) fun _ => ?_) (dep_wdOf hd.1 fun d hd' => ?_)
        · rw [← hn]
          exact Gx.getD_mem h0
        · rw [← hn, ehead]
          exact dec_head hd.1 d hd'
local macro_rules | `(tactic| walk_at "call") => `(tactic| ((with_reducible show spWOf _ _ _ _ _); refine ⟨_, _, rfl, ⟨inferInstance, by first | assumption | exact dep_dl (by assumption)⟩, ?_⟩; intro l_ H_ e_ hw_ hd_))
def spBetter (K : PySem.W.Frag) : Sp := fun vs H Q _ => ∃ (b c p : Addr) (ds : List Int), vs = [.ref b, .ref p] ∧ (Bx b c H ∧ At H p (.lst (ds.map V.int)) ∧ NeC p b ∧ DL ds) ∧ ∀ q (es : List Int) H', Nw H q → ExB b H H' → Bx b c H' → At H' q (.lst (es.map V.int)) → DL es → Q (.ref q) H'
abbrev s_law_better : Stmt := (top 19)
abbrev N_law_better : List Str := ["_law_box_here", "_law_worse", "_law_many", "_law_mode", "_law_found", "_law_last", "_law_back", "_law_room"]
theorem sc_law_better : FnScope N_law_better ["_law_box_here", "_law_worse"] (defScope s_law_better) := ⟨rfl, rfl, rfl, by decide +kernel, rfl, by decide +kernel, by decide +kernel⟩
theorem cl_law_better (T : Bl mg) (D : Df K mg "_law_better" s_law_better ["_law_box_here", "_law_worse"]) (C_law_take : Cl P w K mg base 1 "_law_take" ["_law_box_here", "_law_size"] spTake) : Cl P w K mg base 2 "_law_better" ["_law_box_here", "_law_worse"] (spBetter K) := by
  have nd := sc_law_better.nd
  refine D.ok sc_law_better (fun vs H Q E h => ?_) (fun f cdv A outer s H vs Q E hr h => ?_)
  · obtain ⟨b, c, p, ds, rfl, _⟩ := h
    rfl
  · obtain ⟨b, c, p, ds, rfl, ⟨hb, hp, hpb, hd⟩, k⟩ := h
    have hu := hu64 hr
    refine ⟨_, (pss_cons (ps_set (i := 2) nd rfl (Or.inl rfl) (pe_callB (callLenK (K := K) (by rfl)) (by rfl) T.len (by decide +kernel) (pa_cons (pv 1) pa_nil)))
    (pss_cons (ps_if (pt_cmpR (opEqK (K := K) (by rfl) (by exact hu)) (pe_cl C_law_take (by exact hr.mono (by decide)) (pa_cons (pv 0) (pa_cons pe_int pa_nil))) pe_int (nomark _))
      (pss_one (ps_set (i := 2) nd rfl (Or.inl rfl) (pe_cl C_law_take (by exact hr.mono (by decide)) (pa_cons (pv 0) (pa_cons (pe_op (opAddK (K := K) (by rfl)) (pv 2) pe_int) pa_nil)))))
      pss_nil)
    (pss_cons (ps_set (i := 3) nd rfl (Or.inl rfl) (pe_cl C_law_take (by exact hr.mono (by decide)) (pa_cons (pv 0) (pa_cons pe_int pa_nil))))
    (pss_cons (ps_set (i := 4) nd rfl (Or.inl rfl) (pe_lst pa_nil))
    (pss_cons (ps_set (i := 5) nd rfl (Or.inl rfl) pe_int)
    (pss_cons (ps_for PassesOwn.never rfl (pi_range1 rfl T.range (pa_cons (pv 2) pa_nil)) (pg_name (i := 6) nd rfl (Or.inl rfl))
      (pss_cons (ps_set (i := 7) nd rfl (Or.inl rfl) (pe_op opSub (pe_ix (ixSeqK (K := K) (by rfl)) (pv 1) (pe_op opSub (pe_op opSub (pv 2) pe_int) (pv 6)) (fun _ _ => rfl)) (pv 5)))
    (pss_cons (ps_if (pt_cmpR (opEqK (K := K) (by rfl) (by exact hu)) (pv 3) pe_int (nomark _))
      (pss_one (ps_set (i := 7) nd rfl (Or.inl rfl) (pe_callB (callMax2 rfl) (by rfl) T.max (by decide +kernel) (pa_cons pe_int (pa_cons (pe_op opSub (pv 7) (pe_cl C_law_take (by exact hr.mono (by decide)) (pa_cons (pv 0) (pa_cons pe_int pa_nil)))) pa_nil)))))
      pss_nil)
    (pss_cons (ps_if (pt_cmpR (opEqK (K := K) (by rfl) (by exact hu)) (pv 3) pe_int (nomark _))
      (pss_one (ps_set (i := 7) nd rfl (Or.inl rfl) (pe_op (opAddK (K := K) (by rfl)) pe_int (pe_cl C_law_take (by exact hr.mono (by decide)) (pa_cons (pv 0) (pa_cons (pv 7) pa_nil))))))
      pss_nil)
    (pss_cons (ps_set (i := 5) nd rfl (Or.inl rfl) (pe_op (opAddK (K := K) (by rfl)) (pv 5) (pv 7)))
    (pss_one (ps_expr (pe_bmK (K := K) (by rfl) PySem.F.plainAttrs_list PySem.F.slot_list_append PySem.F.type_list_append mt_append (pv 4) (pa_cons (pv 5) pa_nil)))))))))
    (pss_one (ps_ret (pe_revLK (K := K) (by rfl) (pv 4)))))))))), ?_⟩
    try dsimp only [L2.cxOf, L2.Cx.nox]
    simp only [L2.start, N_law_better, List.map_cons, List.map_nil, List.length_cons, List.length_nil, Nat.reduceAdd, Nat.reduceSub, List.replicate_succ, List.replicate_zero, List.cons_append, List.nil_append]

    have lc := liveBx2 hb
    have hlen := hd.len
    walk_at "gos"
    all_goals
      rename_i mode H1 h0 h1 e1 hB1 p2 H2 np2 e2 hp2
      refine Gx.for1n [b, p2] (fun M i σ' H' => ∃ (m last : Int) (ns : List Int) (s6 s7 : Option V), m = M ∧ σ' = [some (.ref b), some (.ref p), some (.int m), some (.int mode), some (.ref p2), some (.int last), s6, s7] ∧ Bx b c H' ∧ At H' p2 (.lst (ns.map V.int)) ∧ ns.length = i ∧ DL ns.reverse ∧ last = ns.reverse.headD 0 ∧ 0 ≤ last ∧ ∀ k : Nat, (k : Int) = m - 1 - i → k < ds.length ∧ ds.getD k 0 ≤ 64 ∧ last < ds.getD k 0) (by omega) ⟨_, 0, [], _, _, rfl, rfl, inferInstance, Gx.at_, rfl, dl_nil, rfl, by omega, fun k hk => ?_⟩ ?_ ?_
      · have hk' : k < ds.length := by omega
        have := hd.at hk'
        exact ⟨hk', by omega, by omega⟩
      · rintro i σ' H' hi e ⟨m, last, ns, s6, s7, hm, rfl, hB, hp', hl, hD, hlast, h0, hk⟩
        obtain ⟨k, ek⟩ : ∃ k : Nat, (k : Int) = m - 1 - i := ⟨(m - 1 - i).toNat, by omega⟩
        have ek' : (m - 1 - i).toNat = k := by omega
        obtain ⟨k1, k2, k3⟩ := hk k ek
        have fin : ∀ (last' : Int), last < last' → last' ≤ ds.getD k 0 → DL (ns ++ [last']).reverse ∧ last' = (ns ++ [last']).reverse.headD 0 ∧ 0 ≤ last' ∧ ∀ k : Nat, (k : Int) = m - 1 - (i + 1 : Nat) → k < ds.length ∧ ds.getD k 0 ≤ 64 ∧ last' < ds.getD k 0 := by
          intro last' g1 g2
          rw [List.reverse_append]
          refine ⟨⟨⟨by show last' > ns.reverse.headD 0; omega, hD.1⟩, by show last' ≤ 64; omega⟩, rfl, by omega, fun k' hk' => ?_⟩
          have hl' : k' < ds.length := by omega
          have ha := hd.at hl'
          rw [show k' + 1 = k from by omega] at ha
          exact ⟨hl', by omega, by omega⟩
        walk_at "go"
        rw [ek']
        walk_at "gos"
        all_goals
          refine Gx.li ⟨m, _, ns ++ [_], _, _, hm, rfl, inferInstance, ?_, by rw [List.length_append, hl]; rfl, fin _ (by omega) (by omega)⟩
          rw [List.map_append]
          exact Gx.at_
      · rintro σ' H' e ⟨m, last, ns, s6, s7, hm, rfl, hB, hp', hl, hD, hlast, h0, hk⟩
        walk_at "gos"
        rename_i p3 H3 np3 e3 hp3
        rw [← List.map_reverse] at hp3
        exact k _ _ _ Gx.new Gx.rel inferInstance hp3 hD
local macro_rules | `(tactic| walk_at "call") => `(tactic| ((with_reducible show spBetter _ _ _ _ _); refine ⟨_, _, _, _, rfl, ⟨inferInstance, Gx.at_, inferInstance, by first | assumption | exact dep_dl (by assumption)⟩, ?_⟩; intro q_ es_ H_ np_ e_ hB_ hp_ hd_))
abbrev s_law_moved : Stmt := (top 21)
abbrev N_law_moved : List Str := ["_law_box_here", "_law_due", "_law_place", "_law_moved_here"]
theorem sc_law_moved : FnScope N_law_moved ["_law_box_here", "_law_due"] (defScope s_law_moved) := ⟨rfl, rfl, rfl, by decide +kernel, rfl, by decide +kernel, by decide +kernel⟩
theorem cl_law_moved (T : Bl mg) (D : Df K mg "_law_moved" s_law_moved ["_law_box_here", "_law_due"]) (C_law_take : Cl P w K mg base 1 "_law_take" ["_law_box_here", "_law_size"] spTake) : Cl P w K mg base 2 "_law_moved" ["_law_box_here", "_law_due"] (spBetter K) := by
  have nd := sc_law_moved.nd
  refine D.ok sc_law_moved (fun vs H Q E h => ?_) (fun f cdv A outer s H vs Q E hr h => ?_)
  · obtain ⟨b, c, p, ds, rfl, _⟩ := h
    rfl
  · obtain ⟨b, c, p, ds, rfl, ⟨hb, hp, hpb, hd⟩, k⟩ := h
    have hu := hu64 hr
    refine ⟨_, (pss_cons (ps_if (pt_cmpR (opEqK (K := K) (by rfl) (by exact hu)) (pv 1) (pe_lst pa_nil) (nomark _))
      (pss_one (ps_ret (pe_lst (pa_cons pe_int pa_nil))))
      pss_nil)
    (pss_cons (ps_set (i := 2) nd rfl (Or.inl rfl) (pe_cl C_law_take (by exact hr.mono (by decide)) (pa_cons (pv 0) (pa_cons (pe_callB (callLenK (K := K) (by rfl)) (by rfl) T.len (by decide +kernel) (pa_cons (pv 1) pa_nil)) pa_nil))))
    (pss_cons (ps_set (i := 3) nd rfl (Or.inl rfl) (pe_callTy (callListOfK (K := K) (by rfl)) (by rfl) T.list (by decide +kernel) (pa_cons (pv 1) pa_nil)))
    (pss_cons (ps_asg (pe_op opSub (pe_op (opAddK (K := K) (by rfl)) (pe_ix (ixSeqK (K := K) (by rfl)) (pv 3) (pv 2) (fun _ _ => rfl)) pe_int) (pe_op (opMulK (K := K) (by rfl)) pe_int (pe_cl C_law_take (by exact hr.mono (by decide)) (pa_cons (pv 0) (pa_cons pe_int pa_nil))))) (pg_sub (pv 3) (pv 2) set_list))
    (pss_cons (ps_if (PW.pt (pw_or (pt_cmpR opLt (pe_ix (ixSeqK (K := K) (by rfl)) (pv 3) (pv 2) (fun _ _ => rfl)) pe_int (nomark _)) (pw_or1 (pt_cmpR opGt (pe_ix (ixSeqK (K := K) (by rfl)) (pv 3) (pv 2) (fun _ _ => rfl)) pe_int (nomark _)))))
      (pss_one (ps_ret (pe_callTy (callListOfK (K := K) (by rfl)) (by rfl) T.list (by decide +kernel) (pa_cons (pv 1) pa_nil))))
      pss_nil)
    (pss_cons (ps_if (PW.pt (pw_and (pt_cmpR opGt (pv 2) pe_int (nomark _)) (pw_and1 (pt_cmpR opGe (pe_ix (ixSeqK (K := K) (by rfl)) (pv 3) (pv 2) (fun _ _ => rfl)) (pe_ix (ixSeqK (K := K) (by rfl)) (pv 3) (pe_op opSub (pv 2) pe_int) (fun _ _ => rfl)) (nomark _)))))
      (pss_one (ps_ret (pe_callTy (callListOfK (K := K) (by rfl)) (by rfl) T.list (by decide +kernel) (pa_cons (pv 1) pa_nil))))
      pss_nil)
    (pss_cons (ps_if (PW.pt (pw_and (pt_cmpR opLt (pe_op (opAddK (K := K) (by rfl)) (pv 2) pe_int) (pe_callB (callLenK (K := K) (by rfl)) (by rfl) T.len (by decide +kernel) (pa_cons (pv 1) pa_nil)) (nomark _)) (pw_and1 (pt_cmpR opLe (pe_ix (ixSeqK (K := K) (by rfl)) (pv 3) (pv 2) (fun _ _ => rfl)) (pe_ix (ixSeqK (K := K) (by rfl)) (pv 3) (pe_op (opAddK (K := K) (by rfl)) (pv 2) pe_int) (fun _ _ => rfl)) (nomark _)))))
      (pss_one (ps_ret (pe_callTy (callListOfK (K := K) (by rfl)) (by rfl) T.list (by decide +kernel) (pa_cons (pv 1) pa_nil))))
      pss_nil)
    (pss_one (ps_ret (pv 3)))))))))), ?_⟩
    try dsimp only [L2.cxOf, L2.Cx.nox]
    simp only [L2.start, N_law_moved, List.map_cons, List.map_nil, List.length_cons, List.length_nil, Nat.reduceAdd, Nat.reduceSub, List.replicate_succ, List.replicate_zero, List.cons_append, List.nil_append]

    have lc := liveBx2 hb
    have hlen := hd.len
    walk_at "gos"
    · rename_i hI p2 H2 np2 e2 hp2
      exact k _ [1] _ Gx.new Gx.rel inferInstance Gx.at_ ⟨⟨by decide, trivial⟩, by decide⟩
    · rename_i hI
      have hne : ds ≠ [] := hI
      have h0 : 0 < ds.length := List.length_pos_iff.mpr hne
      walk_at "gos"
      rename_i p1 H1 np1 e1 hp1 d H2 h1 h2 e2 hB2 p3 H3 np3 e3 hp3 t H4 h3 h4 e4 hB4 H5 e5 hp5
      obtain ⟨j, rfl⟩ : ∃ j : Nat, d = j := ⟨d.toNat, by omega⟩
      have hj : j < ds.length := by omega
      rw [Int.toNat_natCast] at hp5
      generalize hv : ds.getD j 0 + 1 - 2 * t = v at hp5
      have hes : (ds.set j v).length = ds.length := List.length_set
      have hg := Gx.getD_set (d := (0 : Int)) (v := v) hj
      have g0 := hg j
      rw [if_pos rfl] at g0
      have fin : 1 ≤ v → v ≤ 64 → (j > 0 → v < (ds.set j v).getD (j - 1) 0) → (j + 1 < ds.length → v > (ds.set j v).getD (j + 1) 0) → DL (ds.set j v) := fun a b c d => dl_set hd hj a b (fun z => by have := c z; rw [hg, if_neg (by omega)] at this; exact this) (fun z => by have := d z; rw [hg, if_neg (by omega)] at this; exact this)
      generalize ds.set j v = es at hp5 hes fin g0
      have e1' : ((j : Int) - 1).toNat = j - 1 := by omega
      have e2' : ((j : Int) + 1).toNat = j + 1 := by omega
      walk_at "gos"
      all_goals first
        | exact k _ _ _ Gx.new Gx.rel inferInstance Gx.at_ hd
        | skip
      all_goals
        rw [Int.toNat_natCast, e1'] at *
        try rw [e2'] at *
        exact k p3 es _ Gx.new Gx.rel inferInstance Gx.at_ (fin (by omega) (by omega) (fun z => by omega) (fun z => by omega))
abbrev s_law_fewer : Stmt := (top 22)
abbrev N_law_fewer : List Str := ["_law_box_here", "_law_due", "_law_place"]
theorem sc_law_fewer : FnScope N_law_fewer ["_law_box_here", "_law_due"] (defScope s_law_fewer) := ⟨rfl, rfl, rfl, by decide +kernel, rfl, by decide +kernel, by decide +kernel⟩
theorem cl_law_fewer (T : Bl mg) (D : Df K mg "_law_fewer" s_law_fewer ["_law_box_here", "_law_due"]) (C_law_take : Cl P w K mg base 1 "_law_take" ["_law_box_here", "_law_size"] spTake) : Cl P w K mg base 2 "_law_fewer" ["_law_box_here", "_law_due"] (spBetter K) := by
  have nd := sc_law_fewer.nd
  refine D.ok sc_law_fewer (fun vs H Q E h => ?_) (fun f cdv A outer s H vs Q E hr h => ?_)
  · obtain ⟨b, c, p, ds, rfl, _⟩ := h
    rfl
  · obtain ⟨b, c, p, ds, rfl, ⟨hb, hp, hpb, hd⟩, k⟩ := h
    have hu := hu64 hr
    refine ⟨_, (pss_cons (ps_if (pt_cmpR (opEqK (K := K) (by rfl) (by exact hu)) (pv 1) (pe_lst pa_nil) (nomark _))
      (pss_one (ps_ret (pe_lst pa_nil)))
      pss_nil)
    (pss_cons (ps_set (i := 2) nd rfl (Or.inl rfl) (pe_cl C_law_take (by exact hr.mono (by decide)) (pa_cons (pv 0) (pa_cons (pe_callB (callLenK (K := K) (by rfl)) (by rfl) T.len (by decide +kernel) (pa_cons (pv 1) pa_nil)) pa_nil))))
    (pss_one (ps_ret (pe_op (opAddK (K := K) (by rfl)) (pe_slice (slAnyK (K := K) (by rfl)) (pv 1) po_none (po_some (pv 2))) (pe_slice (slAnyK (K := K) (by rfl)) (pv 1) (po_some (pe_op (opAddK (K := K) (by rfl)) (pv 2) pe_int)) po_none)))))), ?_⟩
    try dsimp only [L2.cxOf, L2.Cx.nox]
    simp only [L2.start, N_law_fewer, List.map_cons, List.map_nil, List.length_cons, List.length_nil, Nat.reduceAdd, Nat.reduceSub, List.replicate_succ, List.replicate_zero, List.cons_append, List.nil_append]

    have lc := liveBx2 hb
    have hlen := hd.len
    walk_at "gos"
    · rename_i hI p2 H2 np2 e2 hp2
      exact k _ [] _ Gx.new Gx.rel inferInstance Gx.at_ dl_nil
    · rename_i hI
      have hne : ds ≠ [] := hI
      have h0 : 0 < ds.length := List.length_pos_iff.mpr hne
      walk_at "gos"
      rename_i p1 H1 np1 e1 hp1 d H2 h1 h2 e2 hB2 p3 H3 np3 e3 hp3 p4 H4 np4 e4 hp4
      obtain ⟨j, rfl⟩ : ∃ j : Nat, d = j := ⟨d.toNat, by omega⟩
      rw [Gx.cutTo] at hp3
      rw [show ((j : Nat) : Int) + 1 = ((j + 1 : Nat) : Int) from by omega, Gx.cutFrom] at hp4
      walk_at "gos"
      exact k _ (ds.take j ++ ds.drop (j + 1)) _ Gx.new Gx.rel inferInstance (by rw [List.map_append]; exact Gx.at_) (dl_fewer hd j)
def Nine (ws : List (List Bool)) : Prop := (∀ l ∈ ws, Wd l) ∧ ws.length = 9 ∧ ∃ n m k : Nat, ws[6]? = some (List.replicate n true) ∧ ws[7]? = some (List.replicate m true) ∧ ws[8]? = some (List.replicate n true ++ List.replicate k false) ∧ n + k ≤ 64 ∧ m ≤ 64 ∧ (n = 0 → k = 0)
theorem wd_ones {n k : Nat} (h : n + k ≤ 64) (h0 : n = 0 → k = 0) : Wd (List.replicate n true ++ List.replicate k false) := by
  refine ⟨by simp; omega, ?_⟩
  cases n with
  | zero => rw [h0 rfl]; simp
  | succ n => simp [List.replicate_succ]
theorem wd_ones0 {n : Nat} (h : n ≤ 64) : Wd (List.replicate n true) := by
  have := wd_ones (n := n) (k := 0) (by omega) (fun _ => rfl)
  simpa using this
theorem nine_mk {a b c d e f : List Bool} (ha : Wd a) (hb : Wd b) (hc : Wd c) (hd : Wd d) (he : Wd e) (hf : Wd f) {n m k : Nat} (h1 : n + k ≤ 64) (h2 : m ≤ 64) (h3 : n = 0 → k = 0) :
    Nine [a, b, c, d, e, f, List.replicate n true, List.replicate m true, List.replicate n true ++ List.replicate k false] := by
  refine ⟨fun l hl => ?_, rfl, n, m, k, rfl, rfl, rfl, h1, h2, h3⟩
  simp only [List.mem_cons, List.not_mem_nil, or_false] at hl
  rcases hl with e | e | e | e | e | e | e | e | e <;> subst e
  all_goals first | assumption | exact wd_ones0 (by omega) | exact wd_ones h1 h3
def spWords : Sp := fun vs H Q _ => ∃ (b c : Addr), vs = [.ref b] ∧ Bx b c H ∧ ∀ p ws H', Nw H p → ExB b H H' → At H' p (.lst (ws.map fun l => V.str (tx l))) → Nine ws → Q (.ref p) H'
local macro_rules | `(tactic| walk_at "call") => `(tactic| ((with_reducible show spWord _ _ _ _); refine use_word (by omega) (by omega) ?_; intro l_ H_ e_ hB_ hw_ hl_))
abbrev s_law_words : Stmt := (top 23)
abbrev N_law_words : List Str := ["_law_box_here", "_law_word_here", "_law_due", "_law_better_here", "_law_best", "_law_found", "_law_least", "_law_size"]
theorem sc_law_words : FnScope N_law_words ["_law_box_here"] (defScope s_law_words) := ⟨rfl, rfl, rfl, by decide +kernel, rfl, by decide +kernel, by decide +kernel⟩
theorem cl_law_words (T : Bl mg) (D : Df K mg "_law_words" s_law_words ["_law_box_here"]) (C_law_take : Cl P w K mg base 1 "_law_take" ["_law_box_here", "_law_size"] spTake) (C_law_word : Cl P w K mg base 3 "_law_word" ["_law_box_here", "_law_most"] spWord) (C_law_word_of : Cl P w K mg base 1 "_law_word_of" ["_law_due"] (spWOf K)) (C_law_fewer : Cl P w K mg base 2 "_law_fewer" ["_law_box_here", "_law_due"] (spBetter K)) (C_law_moved : Cl P w K mg base 2 "_law_moved" ["_law_box_here", "_law_due"] (spBetter K)) (C_law_better : Cl P w K mg base 2 "_law_better" ["_law_box_here", "_law_worse"] (spBetter K)) (C_law_depths : Cl P w K mg base 1 "_law_depths" ["_law_word_here"] spDeps) : Cl P w K mg base 4 "_law_words" ["_law_box_here"] spWords := by
  have nd := sc_law_words.nd
  refine D.ok sc_law_words (fun vs H Q E h => ?_) (fun f cdv A outer s H vs Q E hr h => ?_)
  · obtain ⟨b, c, rfl, _⟩ := h
    rfl
  · obtain ⟨b, c, rfl, hb, k⟩ := h
    have hu := hu64 hr
    refine ⟨_, (pss_cons (ps_set (i := 1) nd rfl (Or.inl rfl) (pe_cl C_law_word (by exact hr.mono (by decide)) (pa_cons (pv 0) (pa_cons pe_int pa_nil))))
    (pss_cons (ps_set (i := 2) nd rfl (Or.inl rfl) (pe_cl C_law_depths (by exact hr.mono (by decide)) (pa_cons (pv 1) pa_nil)))
    (pss_cons (ps_set (i := 3) nd rfl (Or.inl rfl) (pe_cl C_law_better (by exact hr.mono (by decide)) (pa_cons (pv 0) (pa_cons (pv 2) pa_nil))))
    (pss_cons (ps_set (i := 4) nd rfl (Or.inl rfl) (pe_cl C_law_better (by exact hr.mono (by decide)) (pa_cons (pv 0) (pa_cons (pv 3) pa_nil))))
    (pss_cons (ps_set (i := 5) nd rfl (Or.inl rfl) (pe_lst (pa_cons (pv 1) (pa_cons (pe_cl C_law_word_of (by exact hr.mono (by decide)) (pa_cons (pv 3) pa_nil)) (pa_cons (pe_cl C_law_word_of (by exact hr.mono (by decide)) (pa_cons (pv 4) pa_nil)) pa_nil)))))
    (pss_cons (ps_expr (pe_bmK (K := K) (by rfl) PySem.F.plainAttrs_list PySem.F.slot_list_append PySem.F.type_list_append mt_append (pv 5) (pa_cons (pe_cl C_law_word_of (by exact hr.mono (by decide)) (pa_cons (pe_cl C_law_moved (by exact hr.mono (by decide)) (pa_cons (pv 0) (pa_cons (pv 2) pa_nil))) pa_nil)) pa_nil)))
    (pss_cons (ps_expr (pe_bmK (K := K) (by rfl) PySem.F.plainAttrs_list PySem.F.slot_list_append PySem.F.type_list_append mt_append (pv 5) (pa_cons (pe_cl C_law_word_of (by exact hr.mono (by decide)) (pa_cons (pe_cl C_law_fewer (by exact hr.mono (by decide)) (pa_cons (pv 0) (pa_cons (pv 2) pa_nil))) pa_nil)) pa_nil)))
    (pss_cons (ps_expr (pe_bmK (K := K) (by rfl) PySem.F.plainAttrs_list PySem.F.slot_list_append PySem.F.type_list_append mt_append (pv 5) (pa_cons (pe_cl C_law_word (by exact hr.mono (by decide)) (pa_cons (pv 0) (pa_cons pe_int pa_nil))) pa_nil)))
    (pss_cons (ps_expr (pe_bmK (K := K) (by rfl) PySem.F.plainAttrs_list PySem.F.slot_list_append PySem.F.type_list_append mt_append (pv 5) (pa_cons (pe_op (opMulK (K := K) (by rfl)) pe_str (pe_callB (callLenK (K := K) (by rfl)) (by rfl) T.len (by decide +kernel) (pa_cons (pv 2) pa_nil))) pa_nil)))
    (pss_cons (ps_expr (pe_bmK (K := K) (by rfl) PySem.F.plainAttrs_list PySem.F.slot_list_append PySem.F.type_list_append mt_append (pv 5) (pa_cons (pe_op (opMulK (K := K) (by rfl)) pe_str (pe_callB (callMin2 rfl) (by rfl) T.min (by decide +kernel) (pa_cons pe_int (pa_cons (pe_callB (callMax2 rfl) (by rfl) T.max (by decide +kernel) (pa_cons pe_int (pa_cons (pe_op (opAddK (K := K) (by rfl)) (pe_op opSub (pe_callB (callLenK (K := K) (by rfl)) (by rfl) T.len (by decide +kernel) (pa_cons (pv 2) pa_nil)) pe_int) (pe_op (opMulK (K := K) (by rfl)) pe_int (pe_cl C_law_take (by exact hr.mono (by decide)) (pa_cons (pv 0) (pa_cons pe_int pa_nil))))) pa_nil))) pa_nil)))) pa_nil)))
    (pss_cons (ps_set (i := 6) nd rfl (Or.inl rfl) (pe_callB (callMax2 rfl) (by rfl) T.max (by decide +kernel) (pa_cons (pe_callB (callLenK (K := K) (by rfl)) (by rfl) T.len (by decide +kernel) (pa_cons (pv 2) pa_nil)) (pa_cons (pe_op opSub (pe_callB (callLenK (K := K) (by rfl)) (by rfl) T.len (by decide +kernel) (pa_cons (pv 1) pa_nil)) pe_int) pa_nil))))
    (pss_cons (ps_set (i := 7) nd rfl (Or.inl rfl) pe_int)
    (pss_cons (ps_if (pt_cmpR (opNeK (K := K) (by rfl) (by exact hu)) (pv 2) (pe_lst pa_nil) (nomark _))
      (pss_one (ps_set (i := 7) nd rfl (Or.inl rfl) (pe_op (opAddK (K := K) (by rfl)) (pv 6) (pe_cl C_law_take (by exact hr.mono (by decide)) (pa_cons (pv 0) (pa_cons (pe_op opSub pe_int (pv 6)) pa_nil))))))
      pss_nil)
    (pss_cons (ps_expr (pe_bmK (K := K) (by rfl) PySem.F.plainAttrs_list PySem.F.slot_list_append PySem.F.type_list_append mt_append (pv 5) (pa_cons (pe_op (opAddK (K := K) (by rfl)) (pe_op (opMulK (K := K) (by rfl)) pe_str (pe_callB (callLenK (K := K) (by rfl)) (by rfl) T.len (by decide +kernel) (pa_cons (pv 2) pa_nil))) (pe_op (opMulK (K := K) (by rfl)) pe_str (pe_op opSub (pv 7) (pe_callB (callLenK (K := K) (by rfl)) (by rfl) T.len (by decide +kernel) (pa_cons (pv 2) pa_nil))))) pa_nil)))
    (pss_one (ps_ret (pv 5))))))))))))))))), ?_⟩
    try dsimp only [L2.cxOf, L2.Cx.nox]
    simp only [L2.start, N_law_words, List.map_cons, List.map_nil, List.length_cons, List.length_nil, Nat.reduceAdd, Nat.reduceSub, List.replicate_succ, List.replicate_zero, List.cons_append, List.nil_append]

    have lc := liveBx2 hb
    walk_at "gos"
    rename_i l1 H1 x1 hB1 hw1 hl1 p1 H2 np2 e2 hp2 q3 es3 H3 np3 e3 hB3 hp3 hd3 q4 es4 H4 np4 e4 hB4 hp4 hd4 l5 H5 e5 hw5 hd5 l6 H6 e6 hw6 hd6 p7 H7 np7 e7 hp7 q8 es8 H8 np8 e8 hB8 hp8 hd8 l9 H9 e9 hw9 hd9 H10 e10 hp10 q11 es11 H11 np11 e11 hB11 hp11 hd11 l12 H12 e12 hw12 hd12 H13 e13 hp13 l14 H14 e14 hB14 hw14 hl14 H15 e15 hp15
    have hdl := (dep_dl hw1).len
    have hw64 := hw1.1
    walk_at "gos"
    all_goals
      refine k p7 [l1, l5, l6, l9, l12, l14, List.replicate (dep l1).length true, List.replicate _ true, List.replicate (dep l1).length true ++ List.replicate _ false] _ Gx.new Gx.rel ‹_› (nine_mk hw1 hw5 hw6 hw9 hw12 hw14 ?_ ?_ ?_)
      · first
          | omega
          | (rename_i hI _ _ _; rw [hI]; decide)
          | (rename_i hI _ _ _; rw [hI] at *; simp)
      · omega
      · intro hz
        first
          | omega
          | exact absurd (List.length_eq_zero_iff.mp hz) (by assumption)
def spEnds9 (K : PySem.W.Frag) : Sp := fun vs H Q _ => ∃ (p : Addr) (ws : List (List Bool)), vs = [.ref p] ∧ (At H p (.lst (ws.map fun l => V.str (tx l))) ∧ Nine ws) ∧ ∀ H', Ex H H' → Q (.bl true) H'
theorem map_get {α : Type} {ws : List α} {f : α → V} {n : Nat} {x : α} (h : ws[n]? = some x) : (ws.map f)[n]? = some (f x) := by rw [List.getElem?_map, h]; rfl
abbrev s_law_ends_kept : Stmt := (top 24)
abbrev N_law_ends_kept : List Str := ["_law_words_here", "_law_word_here", "_law_told_here"]
theorem sc_law_ends_kept : FnScope N_law_ends_kept ["_law_words_here"] (defScope s_law_ends_kept) := ⟨rfl, rfl, rfl, by decide +kernel, rfl, by decide +kernel, by decide +kernel⟩
theorem cl_law_ends_kept (T : Bl mg) (D : Df K mg "_law_ends_kept" s_law_ends_kept ["_law_words_here"]) (C_worst_word : Cl P w K mg base 2 "worst_word" ["count", "length"] spWorst) (C_best_word : Cl P w K mg base 2 "best_word" ["count"] spBest) : Cl P w K mg base 3 "_law_ends_kept" ["_law_words_here"] (spEnds9 K) := by
  have nd := sc_law_ends_kept.nd
  refine D.ok sc_law_ends_kept (fun vs H Q E h => ?_) (fun f cdv A outer s H vs Q E hr h => ?_)
  · obtain ⟨p, ws, rfl, _⟩ := h
    rfl
  · obtain ⟨p, ws, rfl, ⟨hp, hw, hl, n, m, s', w6, w7, w8, hnk, hm, h0⟩, k⟩ := h
    have hu := hu64 hr
    refine ⟨_, (pss_cons (ps_for PassesOwn.never rfl (pi_listK (K := K) (by rfl) (pe_lst (pa_cons (pe_ix (ixSeqK (K := K) (by rfl)) (pv 0) pe_int (fun _ _ => rfl)) (pa_cons (pe_ix (ixSeqK (K := K) (by rfl)) (pv 0) pe_int (fun _ _ => rfl)) pa_nil)))) (pg_name (i := 1) nd rfl (Or.inl rfl))
      (pss_cons (ps_set (i := 2) nd rfl (Or.inl rfl) (pe_cl C_best_word (by exact hr.mono (by decide)) (pa_cons (pe_callB (callLenK (K := K) (by rfl)) (by rfl) T.len (by decide +kernel) (pa_cons (pv 1) pa_nil)) pa_nil)))
    (pss_one (ps_if (PW.pt (pw_or (pt_not (pt_val (pe_callB (callIsiK (K := K) (by rfl)) (by rfl) T.isinstance (by decide +kernel) (pa_cons (pv 2) (pa_cons (pe_bltn (v := .ty "str") (by rfl) T.str (by decide +kernel) rfl) pa_nil))))) (pw_or1 (pt_cmpR (opNeK (K := K) (by rfl) (by exact hu)) (pv 2) (pv 1) (nomark _)))))
      (pss_one (ps_ret pe_bl))
      pss_nil))))
    (pss_cons (ps_set (i := 2) nd rfl (Or.inl rfl) (pe_cl C_worst_word (by exact hr.mono (by decide)) (pa_cons (pe_callB (callLenK (K := K) (by rfl)) (by rfl) T.len (by decide +kernel) (pa_cons (pe_ix (ixSeqK (K := K) (by rfl)) (pv 0) pe_int (fun _ _ => rfl)) pa_nil)) (pa_cons (pe_callB (callLenK (K := K) (by rfl)) (by rfl) T.len (by decide +kernel) (pa_cons (pe_ix (ixSeqK (K := K) (by rfl)) (pv 0) pe_int (fun _ _ => rfl)) pa_nil)) pa_nil))))
    (pss_one (ps_ret (pe_and (pe_callB (callIsiK (K := K) (by rfl)) (by rfl) T.isinstance (by decide +kernel) (pa_cons (pv 2) (pa_cons (pe_bltn (v := .ty "str") (by rfl) T.str (by decide +kernel) rfl) pa_nil))) (pe_one (pe_cmpR (opEqK (K := K) (by rfl) (by exact hu)) (pv 2) (pe_ix (ixSeqK (K := K) (by rfl)) (pv 0) pe_int (fun _ _ => rfl)) (nomark _)))))))), ?_⟩
    try dsimp only [L2.cxOf, L2.Cx.nox]
    simp only [L2.start, N_law_ends_kept, List.map_cons, List.map_nil, List.length_cons, List.length_nil, Nat.reduceAdd, Nat.reduceSub, List.replicate_succ, List.replicate_zero, List.cons_append, List.nil_append]

    have i6 := map_get (f := fun l => V.str (tx l)) w6
    have i7 := map_get (f := fun l => V.str (tx l)) w7
    have i8 := map_get (f := fun l => V.str (tx l)) w8
    walk_at "go"
    refine Gx.g_ixN (n := 6) i6 ?_
    walk_at "go"
    refine Gx.g_ixN (n := 7) i7 ?_
    walk_at "gos"
    rename_i q H1 np1 e1 hq
    refine Gx.forL [] (fun i σ' H' => ∃ s1 s2, σ' = [some (.ref p), s1, s2]) ⟨_, _, rfl⟩ ?_ ?_
    · rintro i x σ' H' hx e ⟨s1, s2, rfl⟩
      obtain ⟨j, hj, rfl⟩ : ∃ j : Nat, j ≤ 64 ∧ x = V.str (tx (List.replicate j true)) := by
        have := List.mem_of_getElem? hx
        simp only [List.mem_cons, List.not_mem_nil, or_false] at this
        rcases this with e | e
        · exact ⟨n, by omega, e⟩
        · exact ⟨m, by omega, e⟩
      have hjl : (List.replicate j true).length = j := List.length_replicate
      walk_at "gos"
      refine ⟨_, rfl, by omega, ?_⟩
      rw [hjl]
      walk_at "gos"
      exact Gx.li ⟨_, _, rfl⟩
    · rintro σ' H' e ⟨s1, s2, rfl⟩
      have el : (List.replicate n true ++ List.replicate s' false).length = n + s' := by simp
      walk_at "go"
      refine Gx.g_ixN (n := 6) i6 ?_
      walk_at "go"
      refine Gx.g_ixN (n := 8) i8 ?_
      walk_at "gos"
      refine ⟨_, _, rfl, by rw [el, List.length_replicate]; omega, ?_⟩
      rw [el, List.length_replicate, Nat.add_sub_cancel_left]
      walk_at "go"
      refine Gx.g_ixN (n := 8) i8 ?_
      walk_at "gos"
      exact Gx.q_dec (k _ Gx.rel) rfl


def Dom (ws : List (List Bool)) (i j : Nat) : Bool := decide (Above (dep (ws.getD i [])) (dep (ws.getD j [])))
def Rows (K : PySem.W.Frag) (H : Hp) (rs : List Addr) (F : Nat → List V) : Prop := ∀ i r, rs[i]? = some r → SqC K H r (F i)
def row (ws : List (List Bool)) (i : Nat) : List V := (List.range ws.length).map fun j => V.bl (Dom ws i j)
def spTold (K : PySem.W.Frag) : Sp := fun vs H Q _ => ∃ (p : Addr) (ws : List (List Bool)), vs = [.ref p] ∧ (At H p (.lst (ws.map fun l => V.str (tx l))) ∧ (∀ l ∈ ws, Wd l) ∧ ws.length ≤ 100) ∧ ∀ t rs H', Nw H t → Ex H H' → At H' t (.lst (rs.map V.ref)) → rs.length = ws.length → Rows K H' rs (row ws) → Q (.ref t) H'
local macro_rules | `(tactic| walk_at "call") => `(tactic| ((with_reducible show spDom _ _ _ _); refine ⟨_, _, rfl, ⟨by assumption, by assumption⟩, ?_⟩; intro H_ e_))
theorem dom_at {ws : List (List Bool)} {i j : Nat} {l m : List Bool} (h : ws[i]? = some l) (k : ws[j]? = some m) : decide (Above (dep l) (dep m)) = Dom ws i j := by
  unfold Dom
  rw [Gx.getD_at h, Gx.getD_at k]
theorem range_at {n i : Nat} (h : i < n) : (List.range n)[i]? = some i := by simp [h]
abbrev s_law_told : Stmt := (top 25)
abbrev N_law_told : List Str := ["_law_words_here", "_law_table", "_law_one", "_law_other"]
theorem sc_law_told : FnScope N_law_told ["_law_words_here"] (defScope s_law_told) := ⟨rfl, rfl, rfl, by decide +kernel, rfl, by decide +kernel, by decide +kernel⟩
theorem cl_law_told (T : Bl mg) (D : Df K mg "_law_told" s_law_told ["_law_words_here"]) (C_dominates : Cl P w K mg base 2 "dominates" ["first", "second"] spDom) : Cl P w K mg base 3 "_law_told" ["_law_words_here"] (spTold K) := by
  have nd := sc_law_told.nd
  refine D.ok sc_law_told (fun vs H Q E h => ?_) (fun f cdv A outer s H vs Q E hr h => ?_)
  · obtain ⟨p, ws, rfl, _⟩ := h
    rfl
  · obtain ⟨p, ws, rfl, ⟨hp, hw, hl⟩, k⟩ := h
    have hu := hu64 hr
    refine ⟨_, (pss_cons (ps_set (i := 1) nd rfl (Or.inl rfl) (pe_lst pa_nil))
    (pss_cons (ps_for PassesOwn.never rfl (pi_listK (K := K) (by rfl) (pv 0)) (pg_name (i := 2) nd rfl (Or.inr rfl))
      (pss_one (ps_expr (pe_bmK (K := K) (by rfl) PySem.F.plainAttrs_list PySem.F.slot_list_append PySem.F.type_list_append mt_append (pv 1) (pa_cons (pe_lc (own := [("_law_other", 3)]) (g := gName 3) rfl nd (pi_listK (K := K) (by rfl) (pv 0)) (blkOk_by (own := [("_law_other", 3)]) (N := N_law_told) (sc := defScope s_law_told) (by decide +kernel)) (fun _ _ _ _ _ => (pg_name (i := 3) nd rfl (Or.inl rfl))) (fun _ _ _ _ _ => pts_nil) (fun _ _ _ _ _ => (pe_cl C_dominates (by exact hr.mono (by decide)) (pa_cons (pv 2) (pa_cons (pv 3) pa_nil))))) pa_nil)))))
    (pss_one (ps_ret (pv 1))))), ?_⟩
    try dsimp only [L2.cxOf, L2.Cx.nox]
    simp only [L2.start, N_law_told, List.map_cons, List.map_nil, List.length_cons, List.length_nil, Nat.reduceAdd, Nat.reduceSub, List.replicate_succ, List.replicate_zero, List.cons_append, List.nil_append]

    walk_at "gos"
    rename_i t H1 np1 e1 ht
    refine Gx.forL [t] (fun i σ' H' => ∃ s2 s3, ∃ rs : List Addr, σ' = [some (.ref p), some (.ref t), s2, s3] ∧ At H' t (.lst (rs.map V.ref)) ∧ rs.length = i ∧ Rows K H' rs (row ws) ∧ ∀ r ∈ rs, r ≠ t) ⟨_, _, [], rfl, Gx.at_, rfl, fun i r h => by simp at h, by simp⟩ ?_ ?_
    · rintro i x σ' H' hx e ⟨s2, s3, rs, rfl, hT, hrl, hR, hne⟩
      obtain ⟨l, il, rfl⟩ := Gx.map_at hx
      have hwl := hw l (List.mem_of_getElem? il)
      have hil := (List.getElem?_eq_some_iff.mp il).1
      walk_at "go"
      refine Gx.lcL_F (fun j => ((List.range ws.length).take j).map fun j => V.bl (Dom ws i j)) rfl (fun j hj => ?_) (fun D j x H'' hx' hD e' hp' hz => ?_) (fun D H'' hD e' hp' => ?_)
      · rw [List.length_map] at hj ⊢
        rw [List.length_take, List.length_range]
        omega
      · obtain ⟨m, im, rfl⟩ := Gx.map_at hx'
        have hwm := hw m (List.mem_of_getElem? im)
        have him := (List.getElem?_eq_some_iff.mp im).1
        walk_at "gos"
        refine ⟨Gx.rel, ?_⟩
        rw [dom_at il im]
        exact Gx.take_map_snoc (f := fun j => V.bl (Dom ws i j)) (range_at him)
      · rw [List.length_map, List.take_of_length_le (by simp)] at hp'
        walk_at "gos"
        rename_i H5 e5 ht5
        have hDt : NeC D t := inferInstance
        refine Gx.li ⟨_, _, rs ++ [D], rfl, by rw [List.map_append]; exact ht5, by simp [hrl], fun a r ha => ?_, fun r hr => ?_⟩
        · rw [List.getElem?_append] at ha
          split at ha
          · have h1 := hR a r ha
            have h2 : NeC r t := ⟨hne r (List.mem_of_getElem? ha)⟩
            exact inferInstance
          · rename_i hlt
            have h1 := (List.getElem?_eq_some_iff.mp ha).1
            simp only [List.length_cons, List.length_nil] at h1
            have h2 : a - rs.length = 0 := by omega
            rw [h2] at ha
            have e6 : D = r := by simpa using ha
            subst e6
            have e7 : a = i := by omega
            rw [e7]
            have h8 : SqC K H5 D ((List.range ws.length).map fun j => V.bl (Dom ws i j)) := inferInstance
            exact h8
        · rcases List.mem_append.mp hr with h | h
          · exact hne r h
          · rw [List.mem_singleton.mp h]
            exact hDt.ne
    · rintro σ' H' e ⟨s2, s3, rs, rfl, hT, hrl, hR, hne⟩
      walk_at "gos"
      exact k t rs _ Gx.new Gx.rel hT (by rw [hrl, List.length_map]) hR

def spAbove (K : PySem.W.Frag) : Sp := fun vs H Q _ => ∃ (p q : Addr) (ds es : List Int), vs = [.ref p, .ref q] ∧ (SqC K H p (ds.map V.int) ∧ SqC K H q (es.map V.int) ∧ ds.length ≤ 1000) ∧ ∀ H', Ex H H' → Q (.bl (decide (Above ds es))) H'
abbrev s_law_above : Stmt := (top 20)
abbrev N_law_above : List Str := ["_law_one", "_law_other", "_law_place"]
theorem sc_law_above : FnScope N_law_above ["_law_one", "_law_other"] (defScope s_law_above) := ⟨rfl, rfl, rfl, by decide +kernel, rfl, by decide +kernel, by decide +kernel⟩
theorem cl_law_above (T : Bl mg) (D : Df K mg "_law_above" s_law_above ["_law_one", "_law_other"])  : Cl P w K mg base 1 "_law_above" ["_law_one", "_law_other"] (spAbove K) := by
  have nd := sc_law_above.nd
  refine D.ok sc_law_above (fun vs H Q E h => ?_) (fun f cdv A outer s H vs Q E hr h => ?_)
  · obtain ⟨p, q, ds, es, rfl, _⟩ := h
    rfl
  · obtain ⟨p, q, ds, es, rfl, ⟨hp, hq, hl⟩, k⟩ := h
    have hu := hu64 hr
    refine ⟨_, (pss_cons (ps_if (pt_cmpR opGt (pe_callB (callLenK (K := K) (by rfl)) (by rfl) T.len (by decide +kernel) (pa_cons (pv 0) pa_nil)) (pe_callB (callLenK (K := K) (by rfl)) (by rfl) T.len (by decide +kernel) (pa_cons (pv 1) pa_nil)) (nomark _))
      (pss_one (ps_ret pe_bl))
      pss_nil)
    (pss_cons (ps_for PassesOwn.never rfl (pi_range1 rfl T.range (pa_cons (pe_callB (callLenK (K := K) (by rfl)) (by rfl) T.len (by decide +kernel) (pa_cons (pv 0) pa_nil)) pa_nil)) (pg_name (i := 2) nd rfl (Or.inl rfl))
      (pss_one (ps_if (pt_cmpR opGt (pe_ix (ixSeqK (K := K) (by rfl)) (pv 0) (pv 2) (fun _ _ => rfl)) (pe_ix (ixSeqK (K := K) (by rfl)) (pv 1) (pv 2) (fun _ _ => rfl)) (nomark _))
      (pss_one (ps_ret pe_bl))
      pss_nil)))
    (pss_one (ps_ret pe_bl)))), ?_⟩
    try dsimp only [L2.cxOf, L2.Cx.nox]
    simp only [L2.start, N_law_above, List.map_cons, List.map_nil, List.length_cons, List.length_nil, Nat.reduceAdd, Nat.reduceSub, List.replicate_succ, List.replicate_zero, List.cons_append, List.nil_append]

    walk_at "gos"
    · rename_i hI
      exact Gx.q_decN' (k _ Gx.rel) (fun z => by have := z.1; omega)
    · refine Gx.for1 [] (fun i σ' H' => ∃ s2, σ' = [some (.ref p), some (.ref q), s2] ∧ ∀ j, j < i → ds.getD j 0 ≤ es.getD j 0) (by omega) ⟨_, rfl, fun j hj => absurd hj (Nat.not_lt_zero _)⟩ ?_ ?_
      · rintro i σ' H' hi e ⟨s2, rfl, hP⟩
        walk_at "gos"
        · rename_i hI
          rw [Int.toNat_natCast] at hI
          exact Gx.q_decN' (k _ Gx.rel) (fun z => by have := z.2 i (by omega); omega)
        · rename_i hI
          rw [Int.toNat_natCast] at hI
          refine Gx.li ⟨_, rfl, fun j hj => ?_⟩
          by_cases h : j = i
          · rw [h]; omega
          · exact hP j (by omega)
      · rintro σ' H' e ⟨s2, rfl, hP⟩
        walk_at "gos"
        exact Gx.q_dec' (k _ Gx.rel) ⟨by omega, fun i hi => hP i (by omega)⟩
local macro_rules | `(tactic| walk_at "call") => `(tactic| ((with_reducible show spAbove _ _ _ _ _); refine ⟨_, _, _, _, rfl, ⟨inferInstance, inferInstance, by omega⟩, ?_⟩; intro H_ e_))
def spTabK (K : PySem.W.Frag) : Sp := fun vs H Q _ => ∃ (p t : Addr) (ws : List (List Bool)) (rs : List Addr), vs = [.ref p, .ref t] ∧ (At H p (.lst (ws.map fun l => V.str (tx l))) ∧ (∀ l ∈ ws, Wd l) ∧ ws.length ≤ 100 ∧ At H t (.lst (rs.map V.ref)) ∧ rs.length = ws.length ∧ Rows K H rs (row ws)) ∧ ∀ H', Ex H H' → Q (.bl true) H'
theorem row_at {ws : List (List Bool)} {i j : Nat} (h : j < ws.length) : (row ws i)[j]? = some (V.bl (Dom ws i j)) := by
  unfold row
  rw [List.getElem?_map, range_at h]
  rfl
theorem Rows.mono {K : PySem.W.Frag} {H H' : Hp} {rs : List Addr} {F : Nat → List V} (h : Rows K H rs F) [r : Chg [] H H'] : Rows K H' rs F := fun i a ha => by
  have := h i a ha
  exact inferInstance
theorem ref_at {rs : List Addr} {i : Nat} (h : i < rs.length) : ∃ r, rs[i]? = some r ∧ (rs.map V.ref)[i]? = some (V.ref r) := ⟨rs[i], List.getElem?_eq_getElem h, by rw [List.getElem?_map, List.getElem?_eq_getElem h]; rfl⟩
abbrev s_law_table_kept : Stmt := (top 26)
abbrev N_law_table_kept : List Str := ["_law_words_here", "_law_table", "_law_every", "_law_word_here", "_law_one", "_law_other", "_law_told_here"]
theorem sc_law_table_kept : FnScope N_law_table_kept ["_law_words_here", "_law_table"] (defScope s_law_table_kept) := ⟨rfl, rfl, rfl, by decide +kernel, rfl, by decide +kernel, by decide +kernel⟩
theorem cl_law_table_kept (T : Bl mg) (D : Df K mg "_law_table_kept" s_law_table_kept ["_law_words_here", "_law_table"]) (C_law_above : Cl P w K mg base 1 "_law_above" ["_law_one", "_law_other"] (spAbove K)) (C_law_depths : Cl P w K mg base 1 "_law_depths" ["_law_word_here"] spDeps) : Cl P w K mg base 2 "_law_table_kept" ["_law_words_here", "_law_table"] (spTabK K) := by
  have nd := sc_law_table_kept.nd
  refine D.ok sc_law_table_kept (fun vs H Q E h => ?_) (fun f cdv A outer s H vs Q E hr h => ?_)
  · obtain ⟨p, t, ws, rs, rfl, _⟩ := h
    rfl
  · obtain ⟨p, t, ws, rs, rfl, ⟨hp, hw, hl, ht, hrl, hR⟩, k⟩ := h
    have hu := hu64 hr
    refine ⟨_, (pss_cons (ps_setLc (i := 2) (own := [("_law_word_here", 3)]) (g := gName 3) rfl nd rfl rfl (sw_true rfl rfl rfl (by decide +kernel)) (pi_listK (K := K) (by rfl) (pv 0)) (blkOk_by (own := [("_law_word_here", 3)]) (N := N_law_table_kept) (sc := defScope s_law_table_kept) (by decide +kernel)) (fun _ _ _ _ _ => (pg_name (i := 3) nd rfl (Or.inl rfl))) (fun _ _ _ _ _ => pts_nil) (fun _ _ _ _ _ => (pe_cl C_law_depths (by exact hr.mono (by decide)) (pa_cons (pv 3) pa_nil))))
    (pss_cons (ps_for PassesOwn.never rfl (pi_range1 rfl T.range (pa_cons (pe_callB (callLenK (K := K) (by rfl)) (by rfl) T.len (by decide +kernel) (pa_cons (pv 0) pa_nil)) pa_nil)) (pg_name (i := 4) nd rfl (Or.inl rfl))
      (pss_one (ps_for PassesOwn.never rfl (pi_range1 rfl T.range (pa_cons (pe_callB (callLenK (K := K) (by rfl)) (by rfl) T.len (by decide +kernel) (pa_cons (pv 0) pa_nil)) pa_nil)) (pg_name (i := 5) nd rfl (Or.inl rfl))
      (pss_cons (ps_set (i := 6) nd rfl (Or.inl rfl) (pe_ix (ixSeqK (K := K) (by rfl)) (pe_ix (ixSeqK (K := K) (by rfl)) (pv 1) (pv 4) (fun _ _ => rfl)) (pv 5) (fun _ _ => rfl)))
    (pss_one (ps_if (PW.pt (pw_or (pt_not (pt_val (pe_callB (callIsiK (K := K) (by rfl)) (by rfl) T.isinstance (by decide +kernel) (pa_cons (pv 6) (pa_cons (pe_bltn (v := .ty "bool") (by rfl) T.bool (by decide +kernel) rfl) pa_nil))))) (pw_or1 (pt_cmpR (opNeK (K := K) (by rfl) (by exact hu)) (pv 6) (pe_cl C_law_above (by exact hr.mono (by decide)) (pa_cons (pe_ix (ixSeqK (K := K) (by rfl)) (pv 2) (pv 4) (fun _ _ => rfl)) (pa_cons (pe_ix (ixSeqK (K := K) (by rfl)) (pv 2) (pv 5) (fun _ _ => rfl)) pa_nil))) (nomark _)))))
      (pss_one (ps_ret pe_bl))
      pss_nil))))))
    (pss_one (ps_ret pe_bl)))), ?_⟩
    try dsimp only [L2.cxOf, L2.Cx.nox]
    simp only [L2.start, N_law_table_kept, List.map_cons, List.map_nil, List.length_cons, List.length_nil, Nat.reduceAdd, Nat.reduceSub, List.replicate_succ, List.replicate_zero, List.cons_append, List.nil_append]

    walk_at "go"
    refine Gx.lcL_P (fun D i acc H' => ∃ es : List Addr, acc = es.map V.ref ∧ es.length = i ∧ Rows K H' es (fun i => (dep (ws.getD i [])).map V.int) ∧ ∀ r ∈ es, r ≠ D) (fun D H1 _ _ _ => ⟨[], rfl, rfl, fun i r h => by simp at h, by simp⟩) (fun D i x acc H' hx hD e hp' hP => ?_) (fun D acc H' hD e hp' hP => ?_)
    · obtain ⟨es, rfl, hel, hE, hne⟩ := hP
      obtain ⟨l, il, rfl⟩ := Gx.map_at hx
      have hwl := (hw l (List.mem_of_getElem? il)).1
      have hil := (List.getElem?_eq_some_iff.mp il).1
      walk_at "gos"
      rename_i q H2 np2 e2 hq H5 e5 hD5
      have hqD : NeC q D := inferInstance
      refine ⟨Gx.rel, es ++ [q], by rw [List.map_append]; rfl, by simp [hel], fun a r ha => ?_, fun r hr => ?_⟩
      · rw [List.getElem?_append] at ha
        split at ha
        · have h1 := hE a r ha
          have h2 : NeC r D := ⟨hne r (List.mem_of_getElem? ha)⟩
          exact inferInstance
        · have h1 := (List.getElem?_eq_some_iff.mp ha).1
          simp only [List.length_cons, List.length_nil] at h1
          have h2 : a - es.length = 0 := by omega
          rw [h2] at ha
          have e6 : q = r := by simpa using ha
          subst e6
          have e7 : a = i := by omega
          show SqC K H5 q ((dep (ws.getD a [])).map V.int)
          rw [e7, Gx.getD_at il]
          exact inferInstance
      · rcases List.mem_append.mp hr with h | h
        · exact hne r h
        · rw [List.mem_singleton.mp h]
          exact hqD.ne
    · obtain ⟨es, rfl, hel, hE, hne⟩ := hP
      rw [List.length_map] at hel
      walk_at "gos"
      refine Gx.for1 [] (fun i σ' H' => ∃ s3 s4 s5 s6, σ' = [some (.ref p), some (.ref t), some (.ref D), s3, s4, s5, s6]) (by omega) ⟨_, _, _, _, rfl⟩ ?_ ?_
      · rintro i σ' H1 hi e1 ⟨s3, s4, s5, s6, rfl⟩
        obtain ⟨ri, hri, hri'⟩ := ref_at (rs := rs) (i := i) (by omega)
        obtain ⟨ei, hei, hei'⟩ := ref_at (rs := es) (i := i) (by omega)
        have hRi := hR i ri hri
        have hEi : SqC K H' ei ((dep (ws.getD i [])).map V.int) := hE i ei hei
        walk_at "gos"
        refine Gx.for1 [] (fun j σ' H' => ∃ s3 s5 s6, σ' = [some (.ref p), some (.ref t), some (.ref D), s3, some (.int i), s5, s6]) (by omega) ⟨_, _, _, rfl⟩ ?_ ?_
        · rintro j σ' H2 hj e2 ⟨s3, s5, s6, rfl⟩
          obtain ⟨ej, hej, hej'⟩ := ref_at (rs := es) (i := j) (by omega)
          have hEj : SqC K H' ej ((dep (ws.getD j [])).map V.int) := hE j ej hej
          have hdl : (dep (ws.getD i [])).length ≤ 64 := by
            have hm : ws.getD i [] ∈ ws := Gx.getD_mem (by omega)
            exact (dep_dl (hw _ hm)).len
          walk_at "go"
          refine Gx.g_ixN hri' ?_
          walk_at "go"
          refine Gx.g_ixN (row_at (by omega)) ?_
          walk_at "gos"
          refine Gx.g_ixN hei' ?_
          walk_at "go"
          refine Gx.g_ixN hej' ?_
          walk_at "go"
          rw [show decide (Above (dep (ws.getD i [])) (dep (ws.getD j []))) = Dom ws i j from rfl, beq_self_eq_true]
          walk_at "gos"
          exact Gx.li ⟨_, _, _, rfl⟩
        · rintro σ' H2 e2 ⟨s3, s5, s6, rfl⟩
          walk_at "gos"
          exact Gx.li ⟨_, _, _, _, rfl⟩
      · rintro σ' H1 e1 ⟨s3, s4, s5, s6, rfl⟩
        walk_at "gos"
        exact k _ Gx.rel
theorem dom_refl {ws : List (List Bool)} {i : Nat} : Dom ws i i = true := decide_eq_true (above_refl _)
theorem dom_trans {ws : List (List Bool)} {i j k : Nat} (h : Dom ws i j = true) (h2 : Dom ws j k = true) : Dom ws i k = true := decide_eq_true (above_trans (of_decide_eq_true h) (of_decide_eq_true h2))
theorem dom_anti {ws : List (List Bool)} {i j : Nat} (hw : ∀ l ∈ ws, Wd l) (hi : i < ws.length) (hj : j < ws.length) (h : Dom ws i j = true) (h2 : Dom ws j i = true) : ws.getD i [] = ws.getD j [] :=
  dep_inj (hw _ (Gx.getD_mem hi)) (hw _ (Gx.getD_mem hj)) (above_anti (of_decide_eq_true h) (of_decide_eq_true h2))
theorem w_at {ws : List (List Bool)} {i : Nat} (h : i < ws.length) : (ws.map fun l => V.str (tx l))[i]? = some (V.str (tx (ws.getD i []))) := by
  rw [List.getElem?_map, List.getElem?_eq_getElem h, List.getD_eq_getElem?_getD, List.getElem?_eq_getElem h]
  rfl
abbrev s_law_order_kept : Stmt := (top 27)
abbrev N_law_order_kept : List Str := ["_law_words_here", "_law_table", "_law_one", "_law_other", "_law_third"]
theorem sc_law_order_kept : FnScope N_law_order_kept ["_law_words_here", "_law_table"] (defScope s_law_order_kept) := ⟨rfl, rfl, rfl, by decide +kernel, rfl, by decide +kernel, by decide +kernel⟩
theorem cl_law_order_kept (T : Bl mg) (D : Df K mg "_law_order_kept" s_law_order_kept ["_law_words_here", "_law_table"])  : Cl P w K mg base 1 "_law_order_kept" ["_law_words_here", "_law_table"] (spTabK K) := by
  have nd := sc_law_order_kept.nd
  refine D.ok sc_law_order_kept (fun vs H Q E h => ?_) (fun f cdv A outer s H vs Q E hr h => ?_)
  · obtain ⟨p, t, ws, rs, rfl, _⟩ := h
    rfl
  · obtain ⟨p, t, ws, rs, rfl, ⟨hp, hw, hl, ht, hrl, hR⟩, k⟩ := h
    have hu := hu64 hr
    refine ⟨_, (pss_cons (ps_for PassesOwn.never rfl (pi_range1 rfl T.range (pa_cons (pe_callB (callLenK (K := K) (by rfl)) (by rfl) T.len (by decide +kernel) (pa_cons (pv 0) pa_nil)) pa_nil)) (pg_name (i := 2) nd rfl (Or.inl rfl))
      (pss_cons (ps_if (pt_not (pt_val (pe_ix (ixSeqK (K := K) (by rfl)) (pe_ix (ixSeqK (K := K) (by rfl)) (pv 1) (pv 2) (fun _ _ => rfl)) (pv 2) (fun _ _ => rfl))))
      (pss_one (ps_ret pe_bl))
      pss_nil)
    (pss_one (ps_for PassesOwn.never rfl (pi_range1 rfl T.range (pa_cons (pe_callB (callLenK (K := K) (by rfl)) (by rfl) T.len (by decide +kernel) (pa_cons (pv 0) pa_nil)) pa_nil)) (pg_name (i := 3) nd rfl (Or.inl rfl))
      (pss_cons (ps_if (pt_not (pt_val (pe_ix (ixSeqK (K := K) (by rfl)) (pe_ix (ixSeqK (K := K) (by rfl)) (pv 1) (pv 2) (fun _ _ => rfl)) (pv 3) (fun _ _ => rfl))))
      (pss_one ps_continue)
      pss_nil)
    (pss_cons (ps_if (PW.pt (pw_and (pt_val (pe_ix (ixSeqK (K := K) (by rfl)) (pe_ix (ixSeqK (K := K) (by rfl)) (pv 1) (pv 3) (fun _ _ => rfl)) (pv 2) (fun _ _ => rfl))) (pw_and1 (pt_cmpR (opNeK (K := K) (by rfl) (by exact hu)) (pe_ix (ixSeqK (K := K) (by rfl)) (pv 0) (pv 2) (fun _ _ => rfl)) (pe_ix (ixSeqK (K := K) (by rfl)) (pv 0) (pv 3) (fun _ _ => rfl)) (nomark _)))))
      (pss_one (ps_ret pe_bl))
      pss_nil)
    (pss_one (ps_for PassesOwn.never rfl (pi_range1 rfl T.range (pa_cons (pe_callB (callLenK (K := K) (by rfl)) (by rfl) T.len (by decide +kernel) (pa_cons (pv 0) pa_nil)) pa_nil)) (pg_name (i := 4) nd rfl (Or.inl rfl))
      (pss_one (ps_if (PW.pt (pw_and (pt_val (pe_ix (ixSeqK (K := K) (by rfl)) (pe_ix (ixSeqK (K := K) (by rfl)) (pv 1) (pv 3) (fun _ _ => rfl)) (pv 4) (fun _ _ => rfl))) (pw_and1 (pt_not (pt_val (pe_ix (ixSeqK (K := K) (by rfl)) (pe_ix (ixSeqK (K := K) (by rfl)) (pv 1) (pv 2) (fun _ _ => rfl)) (pv 4) (fun _ _ => rfl)))))))
      (pss_one (ps_ret pe_bl))
      pss_nil))))))))))
    (pss_one (ps_ret pe_bl))), ?_⟩
    try dsimp only [L2.cxOf, L2.Cx.nox]
    simp only [L2.start, N_law_order_kept, List.map_cons, List.map_nil, List.length_cons, List.length_nil, Nat.reduceAdd, Nat.reduceSub, List.replicate_succ, List.replicate_zero, List.cons_append, List.nil_append]

    walk_at "gos"
    refine Gx.for1 [] (fun i σ' H' => ∃ s2 s3 s4, σ' = [some (.ref p), some (.ref t), s2, s3, s4]) (by omega) ⟨_, _, _, rfl⟩ ?_ ?_
    · rintro i σ' H1 hi e1 ⟨s2, s3, s4, rfl⟩
      obtain ⟨ri, hri, hri'⟩ := ref_at (rs := rs) (i := i) (by omega)
      have hRi := hR i ri hri
      walk_at "go"
      refine Gx.g_ixN hri' ?_
      walk_at "go"
      refine Gx.g_ixN (row_at (by omega)) ?_
      rw [dom_refl]
      walk_at "gos"
      refine Gx.for1 [] (fun j σ' H' => ∃ s3 s4, σ' = [some (.ref p), some (.ref t), some (.int i), s3, s4]) (by omega) ⟨_, _, rfl⟩ ?_ ?_
      · rintro j σ' H2 hj e2 ⟨s3, s4, rfl⟩
        obtain ⟨rj, hrj, hrj'⟩ := ref_at (rs := rs) (i := j) (by omega)
        have hRj := hR j rj hrj
        walk_at "go"
        refine Gx.g_ixN hri' ?_
        walk_at "go"
        refine Gx.g_ixN (row_at (by omega)) ?_
        cases hij : Dom ws i j
        · walk_at "gos"
          exact Gx.li ⟨_, _, rfl⟩
        · walk_at "go"
          refine Gx.g_ixN hrj' ?_
          walk_at "go"
          refine Gx.g_ixN (row_at (by omega)) ?_
          have inner : ∀ H3, Ex H2 H3 → True := fun _ _ => trivial
          cases hji : Dom ws j i
          all_goals
            walk_at "go"
            first
              | (refine Gx.g_ixN (w_at (by omega)) ?_
                 walk_at "go"
                 refine Gx.g_ixN (w_at (by omega)) ?_
                 rw [dom_anti hw (by omega) (by omega) hij hji]
                 walk_at "gos")
              | skip
          all_goals
            refine Gx.for1 [] (fun m σ' H' => ∃ s4, σ' = [some (.ref p), some (.ref t), some (.int i), some (.int j), s4]) (by omega) ⟨_, rfl⟩ ?_ ?_
            · rintro m σ' H3 hm e3 ⟨s4, rfl⟩
              walk_at "go"
              refine Gx.g_ixN hrj' ?_
              walk_at "go"
              refine Gx.g_ixN (row_at (by omega)) ?_
              cases hjm : Dom ws j m
              · walk_at "gos"
                exact Gx.li ⟨_, rfl⟩
              · walk_at "go"
                refine Gx.g_ixN hri' ?_
                walk_at "go"
                refine Gx.g_ixN (row_at (by omega)) ?_
                rw [dom_trans hij hjm]
                walk_at "gos"
                exact Gx.li ⟨_, rfl⟩
            · rintro σ' H3 e3 ⟨s4, rfl⟩
              walk_at "gos"
              exact Gx.li ⟨_, _, rfl⟩
      · rintro σ' H2 e2 ⟨s3, s4, rfl⟩
        walk_at "gos"
        exact Gx.li ⟨_, _, _, rfl⟩
    · rintro σ' H1 e1 ⟨s2, s3, s4, rfl⟩
      walk_at "gos"
      exact k _ Gx.rel
def spLaw (K : PySem.W.Frag) : Sp := fun vs H Q _ => ∃ (a : Addr) (ns : List Int), vs = [.ref a] ∧ SqL K H a (ns.map V.int) ∧ ns.length ≤ 63 ∧ (∀ z ∈ ns, Builtin.Int.intBits z ≤ 1048576) ∧ ∀ H', Q (.bl true) H'
abbrev s_law : Stmt := (top 28)
abbrev N_law : List Str := ["_law_script", "_law_box_here", "_law_words_here", "_law_table"]
theorem sc_law : FnScope N_law ["_law_script"] (defScope s_law) := ⟨rfl, rfl, rfl, by decide +kernel, rfl, by decide +kernel, by decide +kernel⟩
theorem ok_law {f : Addr} {fd : FuncData} (T : Bl mg) (F : Fun K "law" "law" s_law f fd) (C_law_order_kept : Cl P w K mg base 1 "_law_order_kept" ["_law_words_here", "_law_table"] (spTabK K)) (C_law_table_kept : Cl P w K mg base 2 "_law_table_kept" ["_law_words_here", "_law_table"] (spTabK K)) (C_law_told : Cl P w K mg base 3 "_law_told" ["_law_words_here"] (spTold K)) (C_law_ends_kept : Cl P w K mg base 3 "_law_ends_kept" ["_law_words_here"] (spEnds9 K)) (C_law_words : Cl P w K mg base 4 "_law_words" ["_law_box_here"] spWords) (C_law_box : Cl P w K mg base 1 "_law_box" ["_law_script"] (spBox K)) : FnOk P w K mg base CX0 5 f fd ["_law_script"] (spLaw K) := by
  have nd := sc_law.nd
  refine F.ok sc_law (fun vs H Q E h => ?_) (fun cdv A outer s H vs Q E hr h => ?_)
  · obtain ⟨a, ns, rfl, _⟩ := h
    rfl
  · obtain ⟨a, ns, rfl, hs, hl, hbits, k⟩ := h
    have hu := hu64 hr
    refine ⟨_, (pss_cons (ps_set (i := 1) nd rfl (Or.inl rfl) (pe_cl C_law_box (by exact hr.mono (by decide)) (pa_cons (pv 0) pa_nil)))
    (pss_cons (ps_set (i := 2) nd rfl (Or.inl rfl) (pe_cl C_law_words (by exact hr.mono (by decide)) (pa_cons (pv 1) pa_nil)))
    (pss_cons (ps_if (pt_not (pt_val (pe_cl C_law_ends_kept (by exact hr.mono (by decide)) (pa_cons (pv 2) pa_nil))))
      (pss_one (ps_ret pe_bl))
      pss_nil)
    (pss_cons (ps_set (i := 3) nd rfl (Or.inl rfl) (pe_cl C_law_told (by exact hr.mono (by decide)) (pa_cons (pv 2) pa_nil)))
    (pss_one (ps_ret (pe_and (pe_cl C_law_table_kept (by exact hr.mono (by decide)) (pa_cons (pv 2) (pa_cons (pv 3) pa_nil))) (pe_one (pe_cl C_law_order_kept (by exact hr.mono (by decide)) (pa_cons (pv 2) (pa_cons (pv 3) pa_nil))))))))))), ?_⟩
    try dsimp only [L2.cxOf, L2.Cx.nox]
    simp only [L2.start, N_law, List.map_cons, List.map_nil, List.length_cons, List.length_nil, Nat.reduceAdd, Nat.reduceSub, List.replicate_succ, List.replicate_zero, List.cons_append, List.nil_append]

    have hs : SqC K H a (ns.map V.int) := ⟨hs⟩
    walk_at "gos"
    rename_i b c H1 n1 e1 hB1
    refine ⟨_, _, rfl, inferInstance, fun p ws H2 np2 e2 hp2 h9 => ?_⟩
    have hw := h9.1
    have hwl := h9.2.1
    walk_at "gos"
    refine ⟨_, _, rfl, ⟨Gx.at_, h9⟩, fun H3 e3 => ?_⟩
    walk_at "gos"
    refine ⟨_, _, rfl, ⟨Gx.at_, hw, by omega⟩, fun t rs H4 np4 e4 ht hrl hR => ?_⟩
    walk_at "gos"
    refine ⟨_, _, _, _, rfl, ⟨Gx.at_, hw, by omega, Gx.at_, hrl, hR⟩, fun H5 e5 => ?_⟩
    walk_at "gos"
    refine ⟨_, _, _, _, rfl, ⟨Gx.at_, hw, by omega, Gx.at_, hrl, hR.mono⟩, fun H6 e6 => ?_⟩
    walk_at "gos"
    exact k _

end
theorem all_mk {l : PySem.W.OpenLaw} {w : World} {K : PySem.W.Frag} {h : Heap} {mg : Str → Option Value} {fa : Addr} (X : K.In h) (G : h.Ns mainGlobals mg) (hfa : mg "law" = some (.ref fa)) (T : Bl mg) (D_law_box : Df K mg "_law_box" s_law_box ["_law_script"]) (D_law_take : Df K mg "_law_take" s_law_take ["_law_box_here", "_law_size"]) (D_at_least : Df K mg "at_least" s_at_least ["value", "least", "field"]) (D_at_most : Df K mg "at_most" s_at_most ["value", "most", "field"]) (D_good_word : Df K mg "good_word" s_good_word ["word", "field"]) (D_depth_list : Df K mg "_depth_list" s_depth_list ["word"]) (D_best_word : Df K mg "best_word" s_best_word ["count"]) (D_worst_word : Df K mg "worst_word" s_worst_word ["count", "length"]) (D_dominates : Df K mg "dominates" s_dominates ["first", "second"]) (D_law_bits : Df K mg "_law_bits" s_law_bits ["_law_box_here", "_law_size"]) (D_law_word : Df K mg "_law_word" s_law_word ["_law_box_here", "_law_most"]) (D_law_depths : Df K mg "_law_depths" s_law_depths ["_law_word_here"]) (D_law_word_of : Df K mg "_law_word_of" s_law_word_of ["_law_due"]) (D_law_better : Df K mg "_law_better" s_law_better ["_law_box_here", "_law_worse"]) (D_law_moved : Df K mg "_law_moved" s_law_moved ["_law_box_here", "_law_due"]) (D_law_fewer : Df K mg "_law_fewer" s_law_fewer ["_law_box_here", "_law_due"]) (D_law_words : Df K mg "_law_words" s_law_words ["_law_box_here"]) (D_law_ends_kept : Df K mg "_law_ends_kept" s_law_ends_kept ["_law_words_here"]) (D_law_told : Df K mg "_law_told" s_law_told ["_law_words_here"]) (D_law_above : Df K mg "_law_above" s_law_above ["_law_one", "_law_other"]) (D_law_table_kept : Df K mg "_law_table_kept" s_law_table_kept ["_law_words_here", "_law_table"]) (D_law_order_kept : Df K mg "_law_order_kept" s_law_order_kept ["_law_words_here", "_law_table"]) (D_law : Df K mg "law" s_law ["_law_script"]) :
    ∃ fd : FuncData, (∀ (s : Shared) (u : Value), BindsTo s fd ⟨[u], []⟩ [("_law_script", u)]) ∧ ∀ base : Heap, K.In base → base.Ns mainGlobals mg → FnOk l.prog w K mg base CX0 5 fa fd ["_law_script"] (spLaw K) := by
  obtain ⟨f, fd, h1, F, h3⟩ := D_law.ex
  have e := hfa.symm.trans h1
  cases e
  refine ⟨fd, fun s u => .of_eq (h3 [u] rfl), fun base _ _ => ?_⟩
  have C_law_box : Cl l.prog w K mg base 1 "_law_box" ["_law_script"] (spBox K) := cl_law_box T D_law_box 
  have C_law_take : Cl l.prog w K mg base 1 "_law_take" ["_law_box_here", "_law_size"] spTake := cl_law_take T D_law_take 
  have C_at_least : Cl l.prog w K mg base 1 "at_least" ["value", "least", "field"] spAtLeast := cl_at_least T D_at_least 
  have C_at_most : Cl l.prog w K mg base 1 "at_most" ["value", "most", "field"] spAtMost := cl_at_most T D_at_most 
  have C_good_word : Cl l.prog w K mg base 1 "good_word" ["word", "field"] spGood := cl_good_word T D_good_word 
  have C_depth_list : Cl l.prog w K mg base 1 "_depth_list" ["word"] spDeps := cl_depth_list T D_depth_list 
  have C_best_word : Cl l.prog w K mg base 2 "best_word" ["count"] spBest := cl_best_word T D_best_word C_at_least
  have C_worst_word : Cl l.prog w K mg base 2 "worst_word" ["count", "length"] spWorst := cl_worst_word T D_worst_word C_at_most C_at_least
  have C_dominates : Cl l.prog w K mg base 2 "dominates" ["first", "second"] spDom := cl_dominates T D_dominates C_depth_list C_good_word
  have C_law_bits : Cl l.prog w K mg base 2 "_law_bits" ["_law_box_here", "_law_size"] spBits := cl_law_bits T D_law_bits C_law_take
  have C_law_word : Cl l.prog w K mg base 3 "_law_word" ["_law_box_here", "_law_most"] spWord := cl_law_word T D_law_word C_law_take C_law_bits
  have C_law_depths : Cl l.prog w K mg base 1 "_law_depths" ["_law_word_here"] spDeps := cl_law_depths T D_law_depths 
  have C_law_word_of : Cl l.prog w K mg base 1 "_law_word_of" ["_law_due"] (spWOf K) := cl_law_word_of T D_law_word_of 
  have C_law_better : Cl l.prog w K mg base 2 "_law_better" ["_law_box_here", "_law_worse"] (spBetter K) := cl_law_better T D_law_better C_law_take
  have C_law_moved : Cl l.prog w K mg base 2 "_law_moved" ["_law_box_here", "_law_due"] (spBetter K) := cl_law_moved T D_law_moved C_law_take
  have C_law_fewer : Cl l.prog w K mg base 2 "_law_fewer" ["_law_box_here", "_law_due"] (spBetter K) := cl_law_fewer T D_law_fewer C_law_take
  have C_law_words : Cl l.prog w K mg base 4 "_law_words" ["_law_box_here"] spWords := cl_law_words T D_law_words C_law_take C_law_word C_law_word_of C_law_fewer C_law_moved C_law_better C_law_depths
  have C_law_ends_kept : Cl l.prog w K mg base 3 "_law_ends_kept" ["_law_words_here"] (spEnds9 K) := cl_law_ends_kept T D_law_ends_kept C_worst_word C_best_word
  have C_law_told : Cl l.prog w K mg base 3 "_law_told" ["_law_words_here"] (spTold K) := cl_law_told T D_law_told C_dominates
  have C_law_above : Cl l.prog w K mg base 1 "_law_above" ["_law_one", "_law_other"] (spAbove K) := cl_law_above T D_law_above 
  have C_law_table_kept : Cl l.prog w K mg base 2 "_law_table_kept" ["_law_words_here", "_law_table"] (spTabK K) := cl_law_table_kept T D_law_table_kept C_law_above C_law_depths
  have C_law_order_kept : Cl l.prog w K mg base 1 "_law_order_kept" ["_law_words_here", "_law_table"] (spTabK K) := cl_law_order_kept T D_law_order_kept 
  exact ok_law T F C_law_order_kept C_law_table_kept C_law_told C_law_ends_kept C_law_words C_law_box
theorem walk {l : PySem.W.OpenLaw} {q : Program} {loose : List Str} {XP : (Str → Option Value) → Heap → Prop} {YP : World → Heap → Prop} {d : DefRec} {K : Params → PySem.W.Frag} (hn : l.most = some 63) (hdf : d.params.defaults = [])
    (hY : ∀ (w : World) (h : Heap), YP w h → (K w.params).In h)
    (F : ∀ (w : World) (mg : Str → Option Value) (fa : Addr) (h : Heap), (K w.params).In h → h.Ns mainGlobals mg → mg d.name = some (.ref fa) →
      ∃ fd : FuncData, (∀ (s : Shared) (u : Value), BindsTo s fd ⟨[u], []⟩ [("_law_script", u)]) ∧ ∀ base : Heap, (K w.params).In base → base.Ns mainGlobals mg → FnOk l.prog w (K w.params) mg base CX0 5 fa fd ["_law_script"] (spLaw (K w.params))) :
    PySem.W.WalkO q loose XP YP l.row.toRowW d [] (fun f vs => PySem.call f vs) :=
  L2.walk_ofB (n := 63) (k := 5) (x := "_law_script") (CX := fun _ => CX0) (sp := fun w => spLaw (K w.params)) hn (by decide) hdf ⟨rfl, by decide, by decide⟩ hY F (fun _ _ a ns hl hb _ hS => ⟨a, ns, rfl, hS, hl, hb, fun _ => rfl⟩) fun _ _ _ _ _ z => z
end Toy
open PySem PySem.W PyProof.Rows in
set_option maxRecDepth 100000 in
set_option maxHeartbeats 0 in
theorem PySem.Challenge.cw_carrylog_k09_dominates_is_an_order_holds : PySem.Challenge.rw_carrylog_k09_dominates_is_an_order.Holds := by
  w_on; o_law; k_head; (case hw => w_witness2)
  k_fill
  refine Toy.walk (l := PySem.Challenge.rw_carrylog_k09_dominates_is_an_order) rfl rfl (fun w h Y => PySem.W.kIn_of Y) ?F
  case F =>
    intro w mg fa h KX G hmg
    refine' Toy.all_mk KX G hmg ?T ?d0 ?d1 ?d2 ?d3 ?d4 ?d5 ?d6 ?d7 ?d8 ?d9 ?d10 ?d11 ?d12 ?d13 ?d14 ?d15 ?d16 ?d17 ?d18 ?d19 ?d20 ?d21 ?d22
    case T =>
      constructor
      all_goals (refine PySem.W.mg_none_of KX G ?_; k_is)
    (case d0 => (refine' Gx.df_mk KX G ?a ?l ?c ?k (fun us hl => match us, hl with | [_], _ => rfl); (case a => k_is); (case l => k_is); (case c => k_is); (case k => k_is)))
    (case d1 => (refine' Gx.df_mk KX G ?a ?l ?c ?k (fun us hl => match us, hl with | [_, _], _ => rfl); (case a => k_is); (case l => k_is); (case c => k_is); (case k => k_is)))
    (case d2 => (refine' Gx.df_mk KX G ?a ?l ?c ?k (fun us hl => match us, hl with | [_, _, _], _ => rfl); (case a => k_is); (case l => k_is); (case c => k_is); (case k => k_is)))
    (case d3 => (refine' Gx.df_mk KX G ?a ?l ?c ?k (fun us hl => match us, hl with | [_, _, _], _ => rfl); (case a => k_is); (case l => k_is); (case c => k_is); (case k => k_is)))
    (case d4 => (refine' Gx.df_mk KX G ?a ?l ?c ?k (fun us hl => match us, hl with | [_, _], _ => rfl); (case a => k_is); (case l => k_is); (case c => k_is); (case k => k_is)))
    (case d5 => (refine' Gx.df_mk KX G ?a ?l ?c ?k (fun us hl => match us, hl with | [_], _ => rfl); (case a => k_is); (case l => k_is); (case c => k_is); (case k => k_is)))
    (case d6 => (refine' Gx.df_mk KX G ?a ?l ?c ?k (fun us hl => match us, hl with | [_], _ => rfl); (case a => k_is); (case l => k_is); (case c => k_is); (case k => k_is)))
    (case d7 => (refine' Gx.df_mk KX G ?a ?l ?c ?k (fun us hl => match us, hl with | [_, _], _ => rfl); (case a => k_is); (case l => k_is); (case c => k_is); (case k => k_is)))
    (case d8 => (refine' Gx.df_mk KX G ?a ?l ?c ?k (fun us hl => match us, hl with | [_, _], _ => rfl); (case a => k_is); (case l => k_is); (case c => k_is); (case k => k_is)))
    (case d9 => (refine' Gx.df_mk KX G ?a ?l ?c ?k (fun us hl => match us, hl with | [_, _], _ => rfl); (case a => k_is); (case l => k_is); (case c => k_is); (case k => k_is)))
    (case d10 => (refine' Gx.df_mk KX G ?a ?l ?c ?k (fun us hl => match us, hl with | [_, _], _ => rfl); (case a => k_is); (case l => k_is); (case c => k_is); (case k => k_is)))
    (case d11 => (refine' Gx.df_mk KX G ?a ?l ?c ?k (fun us hl => match us, hl with | [_], _ => rfl); (case a => k_is); (case l => k_is); (case c => k_is); (case k => k_is)))
    (case d12 => (refine' Gx.df_mk KX G ?a ?l ?c ?k (fun us hl => match us, hl with | [_], _ => rfl); (case a => k_is); (case l => k_is); (case c => k_is); (case k => k_is)))
    (case d13 => (refine' Gx.df_mk KX G ?a ?l ?c ?k (fun us hl => match us, hl with | [_, _], _ => rfl); (case a => k_is); (case l => k_is); (case c => k_is); (case k => k_is)))
    (case d14 => (refine' Gx.df_mk KX G ?a ?l ?c ?k (fun us hl => match us, hl with | [_, _], _ => rfl); (case a => k_is); (case l => k_is); (case c => k_is); (case k => k_is)))
    (case d15 => (refine' Gx.df_mk KX G ?a ?l ?c ?k (fun us hl => match us, hl with | [_, _], _ => rfl); (case a => k_is); (case l => k_is); (case c => k_is); (case k => k_is)))
    (case d16 => (refine' Gx.df_mk KX G ?a ?l ?c ?k (fun us hl => match us, hl with | [_], _ => rfl); (case a => k_is); (case l => k_is); (case c => k_is); (case k => k_is)))
    (case d17 => (refine' Gx.df_mk KX G ?a ?l ?c ?k (fun us hl => match us, hl with | [_], _ => rfl); (case a => k_is); (case l => k_is); (case c => k_is); (case k => k_is)))
    (case d18 => (refine' Gx.df_mk KX G ?a ?l ?c ?k (fun us hl => match us, hl with | [_], _ => rfl); (case a => k_is); (case l => k_is); (case c => k_is); (case k => k_is)))
    (case d19 => (refine' Gx.df_mk KX G ?a ?l ?c ?k (fun us hl => match us, hl with | [_, _], _ => rfl); (case a => k_is); (case l => k_is); (case c => k_is); (case k => k_is)))
    (case d20 => (refine' Gx.df_mk KX G ?a ?l ?c ?k (fun us hl => match us, hl with | [_, _], _ => rfl); (case a => k_is); (case l => k_is); (case c => k_is); (case k => k_is)))
    (case d21 => (refine' Gx.df_mk KX G ?a ?l ?c ?k (fun us hl => match us, hl with | [_, _], _ => rfl); (case a => k_is); (case l => k_is); (case c => k_is); (case k => k_is)))
    (case d22 => (refine' Gx.df_mk KX G ?a ?l ?c ?k (fun us hl => match us, hl with | [_], _ => rfl); (case a => k_is); (case l => k_is); (case c => k_is); (case k => k_is)))
#print axioms PySem.Challenge.cw_carrylog_k09_dominates_is_an_order_holds

