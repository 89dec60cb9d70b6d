import PyProof.Rows.All
import Wide.All
import OpenK.AllK
import Wide.FinOn
import HandS.ForMost
import HandS.Wide
import HandS.WideBits
import HandS.IsInst
import HandS.StrMore
import HandS.TupAny
import HandS.EndBits
import PyProof.StrOps2
import HandS.Defaults
import HandS.MakeKwOnly
import PySem.Challenge.RW_carrylog_k04_edges_of_segments
set_option Elab.async false
set_option linter.all false
set_option maxRecDepth 100000
set_option maxHeartbeats 2000000
/-! Gx: short words over the hand layer: callable defs by name (Df, Cl), operators by the values' kinds, steps of a reading (g_..), heaps that only grow (Ex, ExB). -/
namespace Gx
open PySem PySem.Spec PyProof.Rows L2

/-- n times the text z -/
def repS (z : Str) (n : Nat) : Str := ⟨((List.replicate n z.cps.toList).flatten).toArray⟩
theorem foldl_app (l : List (Array Nat)) : ∀ a : Array Nat, (l.foldl (· ++ ·) a).toList = a.toList ++ (l.map Array.toList).flatten := by
  induction l with
  | nil => intro a; simp
  | cons x r ih => intro a; rw [List.foldl_cons, ih]; simp
theorem repS_fold (z : Str) (n : Nat) : (⟨(List.replicate n z.cps).foldl (· ++ ·) #[]⟩ : Str) = repS z n := by
  unfold repS
  congr 1
  apply Array.toList_inj.mp
  rw [foldl_app]
  simp
theorem repS_one (z : Str) : repS z 1 = z := by
  unfold repS
  simp
theorem repS_nil (z : Str) (n : Nat) (h : z.length = 0) : repS z n = z := by
  obtain ⟨a⟩ := z
  have h' : a = #[] := Array.size_eq_zero_iff.mp h
  subst h'
  unfold repS
  simp
theorem repS_zero (z : Str) : repS z 0 = Str.empty := by
  unfold repS
  simp
  rfl
theorem repS_length (z : Str) (n : Nat) : (repS z n).length = z.length * n := by
  unfold repS Str.length
  simp [Nat.mul_comm]
section
variable {P : Program} {w : World} {K : PySem.W.Frag} {mg : Str → Option Value} {base : Heap}
/-- the def x of the text st as the top left it -/
structure Df (K : PySem.W.Frag) (mg : Str → Option Value) (x : Str) (st : Stmt) (ps : List Str) : Prop where
  ex : ∃ (f : Addr) (fd : FuncData), mg x = some (.ref f) ∧ Fun K x x st f fd ∧ ∀ us : List Value, us.length = ps.length → bindArgs fd ⟨us, []⟩ = pure (ps.zip us)
/-- the def x may be called -/
structure Cl (P : Program) (w : World) (K : PySem.W.Frag) (mg : Str → Option Value) (base : Heap) (k : Nat) (x : Str) (ps : List Str) (sp : Sp) : Prop where
  ex : ∃ (f : Addr) (fd : FuncData), mg x = some (.ref f) ∧ PySem.W.keepIn K (.ref f) = true ∧ (∀ us : List Value, us.length = ps.length → bindArgs fd ⟨us, []⟩ = pure (ps.zip us)) ∧ FnOk P w K mg base CX0 k f fd ps sp
theorem df_mk {h : Heap} {x : Str} {st : Stmt} {ps : List Str} {f : Addr} {oc : Value} {od an : Option Addr} {osl : Array (Option Value)} {kV doc pm cdv ct : Value} (X : K.In h) (G : h.Ns mainGlobals mg)
    (a : PySem.W.nsIn K mainGlobals x = some (some (.ref f))) (l : K.lookup f = some ⟨oc, od, .func (PySem.W.fnOf x x (defArgs st) (defBody st) (defScope st) .none kV doc pm an cdv ct), osl⟩)
    (c : PySem.W.codeIn K cdv x = true) (k : PySem.W.keepIn K (.ref f) = true)
    (b : ∀ us : List Value, us.length = ps.length → bindArgs (PySem.W.fnOf x x (defArgs st) (defBody st) (defScope st) .none kV doc pm an cdv ct) ⟨us, []⟩ = pure (ps.zip us)) : Df K mg x st ps :=
  ⟨f, _, PySem.W.mg_of X G a, fun_mk l c k, b⟩
theorem Df.ok {x : Str} {st : Stmt} {N ps : List Str} {k : Nat} {sp : Sp} (D : Df K mg x st ps) (S : FnScope N ps (defScope st)) (len : ∀ vs H Q E, sp vs H Q E → vs.length = ps.length)
    (hbody : ∀ (f : Addr) (cdv : Value) (A : Around) (outer : List Env) (s : Shared) (H : Hp) (vs : List V) (Q : VK) (E : XK), Room k (A.deeper (envOfC x (defScope st) s.heap.objs.size f cdv)) → sp vs H Q E →
      ∃ t, PSs (cxOf CX0 P w K mg base N x (defScope st) f cdv A outer s H E).nox (defBody st) t ∧ t { nx := fun _ H' => Q .non H', rt := Q } (start N vs) H) : Cl P w K mg base (k + 1) x ps sp := by
  obtain ⟨f, fd, h1, h2, h3⟩ := D.ex
  exact ⟨f, fd, h1, h2.kp, h3, h2.ok S len fun cdv A outer s H vs Q E hr h => hbody f cdv A outer s H vs Q E hr h⟩
theorem Cl.mono {x : Str} {ps : List Str} {j k : Nat} {sp : Sp} (C : Cl P w K mg base j x ps sp) (h : j ≤ k) : Cl P w K mg base k x ps sp := by
  obtain ⟨f, fd, h1, h2, h3, h4⟩ := C.ex
  exact ⟨f, fd, h1, h2, h3, h4.mono h⟩
end

section
variable {X : Cx} {x : Str} {p pos : Pos} {e a b : Expr} {es : List Expr} {t : TA} {ta tb : TE} {k : Nat} {ps : List Str} {sp : Sp}
theorem pe_cl (C : Cl X.prog X.w X.K X.mg X.base k x ps sp) (hr : Room k X.A) (ha : PA X (e :: es) t) (hg : Gl X x := by rfl) (hdb : (x == ("__debug__" : Str)) = false := by decide)
    (he : starEach (e :: es) X.env = (false, eval e X.env) :: starEach es X.env := by rfl) (hpl : (backTo pos (starEach es X.env)).any (·.1) = false := by rfl) :
    PE X (.Call (.Name x p) (e :: es) [] pos) (tCall sp [] E0 t) := by
  obtain ⟨f, fd, h1, h2, h3, h4⟩ := C.ex
  exact pe_call h4 hr hg h1 h2 (Binds.all h3) .nil pass0 ha hdb he hpl
theorem pe_cl0 (C : Cl X.prog X.w X.K X.mg X.base k x ps sp) (hr : Room k X.A) (hg : Gl X x := by rfl) (hdb : (x == ("__debug__" : Str)) = false := by decide) :
    PE X (.Call (.Name x p) [] [] pos) (tCall sp [] E0 tNil) := by
  obtain ⟨f, fd, h1, h2, h3, h4⟩ := C.ex
  exact pe_call0 h4 hr hg h1 h2 (Binds.all h3) .nil pass0 hdb
end


/-! ### keyword-only parameters -/
section
variable {P : Program} {w : World} {K : PySem.W.Frag} {mg : Str → Option Value} {base : Heap}
structure DfK (K : PySem.W.Frag) (mg : Str → Option Value) (x : Str) (st : Stmt) (kws : List (Str × V)) : Prop where
  ex : ∃ (f : Addr) (fd : FuncData), mg x = some (.ref f) ∧ FunD K x x (defArgs st) (defBody st) (defScope st) [] kws f fd
structure ClK (P : Program) (w : World) (K : PySem.W.Frag) (mg : Str → Option Value) (base : Heap) (k : Nat) (x : Str) (st : Stmt) (ps : List Str) (kws : List (Str × V)) (sp : Sp) : Prop where
  ex : ∃ (f : Addr) (fd : FuncData), mg x = some (.ref f) ∧ FunD K x x (defArgs st) (defBody st) (defScope st) [] kws f fd ∧ FnOk P w K mg base CX0 k f fd ps sp
theorem dfk_mk {h : Heap} {x : Str} {st : Stmt} {f D : Addr} {oc : Value} {od an : Option Addr} {osl : Array (Option Value)} {doc pm cdv ct : Value} {kws : List (Str × V)} (X : K.In h) (G : h.Ns mainGlobals mg)
    (a : PySem.W.nsIn K mainGlobals x = some (some (.ref f))) (l : K.lookup f = some ⟨oc, od, .func (PySem.W.fnOf x x (defArgs st) (defBody st) (defScope st) .none (.ref D) doc pm an cdv ct), osl⟩)
    (c : PySem.W.codeIn K cdv x = true) (k : PySem.W.keepIn K (.ref f) = true) (d : ∀ q ∈ kws, ∃ u, PySem.W.nsIn K D q.1 = some (some u) ∧ RelV q.2 u) : DfK K mg x st kws :=
  ⟨f, _, PySem.W.mg_of X G a, ⟨⟨oc, od, .none, .ref D, doc, pm, an, cdv, ct, osl, rfl, l, c, .inl ⟨rfl, rfl⟩, .inr ⟨D, rfl, d⟩⟩, k⟩⟩
theorem DfK.ok {x : Str} {st : Stmt} {N ps : List Str} {kws : List (Str × V)} {k : Nat} {sp : Sp} (D : DfK K mg x st kws) (S : FnScope N ps (defScope st)) (len : ∀ vs H Q E, sp vs H Q E → vs.length = ps.length)
    (hbody : ∀ (f : Addr) (cdv : Value) (A : Around) (outer : List Env) (s : Shared) (H : Hp) (vs : List V) (Q : VK) (E : XK), Room k (A.deeper (envOfC x (defScope st) s.heap.objs.size f cdv)) → sp vs H Q E →
      ∃ t, PSs (cxOf CX0 P w K mg base N x (defScope st) f cdv A outer s H E).nox (defBody st) t ∧ t { nx := fun _ H' => Q .non H', rt := Q } (start N vs) H) : ClK P w K mg base (k + 1) x st ps kws sp := by
  obtain ⟨f, fd, h1, h2⟩ := D.ex
  exact ⟨f, fd, h1, h2, h2.ok S len fun cdv A outer s H vs Q E hr h => by
    obtain ⟨t, a, b⟩ := hbody f cdv A outer s H vs Q E hr h
    exact ⟨t, a.nox, b⟩⟩
end
section
variable {X : Cx} {x : Str} {p pos : Pos} {e : Expr} {es : List Expr} {kw : List Keyword} {t tk : TA} {k : Nat} {ps : List Str} {sp : Sp} {st : Stmt} {kws : List (Str × V)}
theorem pe_clk0 (C : ClK X.prog X.w X.K X.mg X.base k x st ps kws sp) (hr : Room k X.A) (n : Nat) (hk : kws ≠ []) (hn : n + kws.length = ps.length)
    (h : ∀ (D : Addr) (doc pm : Value) (an : Option Addr) (cdv ct : Value) (us ks : List Value), us.length = n → ks.length = kws.length →
      KwChain D ((kws.map (·.1)).zip ks) (bindArgs (PySem.W.fnOf x x (defArgs st) (defBody st) (defScope st) .none (.ref D) doc pm an cdv ct) ⟨us, []⟩) (ps.zip (us ++ ks)))
    (ha : PA X (e :: es) t) (hg : Gl X x := by rfl) (hdb : (x == ("__debug__" : Str)) = false := by decide)
    (he : starEach (e :: es) X.env = (false, eval e X.env) :: starEach es X.env := by rfl) (hpl : (backTo pos (starEach es X.env)).any (·.1) = false := by rfl) :
    PE X (.Call (.Name x p) (e :: es) [] pos) (tCall sp (kws.map (·.2)) E0 t) := by
  obtain ⟨f, fd, h1, h2, h4⟩ := C.ex
  obtain ⟨ds, r, b⟩ := h2.binds0 n hk hn h
  exact pe_call h4 hr hg h1 h2.kp b r pass0 ha hdb he hpl
theorem pe_clk (C : ClK X.prog X.w X.K X.mg X.base k x st ps kws sp) (hr : Room k X.A) (n : Nat) (ks : List Str) (ms : List (Str × V)) (g : {α : Type} → List α → List α → List α → List α) (hk : kws ≠ []) (hms : ∀ q ∈ ms, q ∈ kws)
    (hrel : ∀ {vs mz zs : List V} {us mv ws : List Value}, Vals vs us → Vals mz mv → Vals zs ws → Vals (g vs mz zs) (g us mv ws))
    (h : ∀ (D : Addr) (doc pm : Value) (an : Option Addr) (cdv ct : Value) (us mv ws : List Value), us.length = n → mv.length = ms.length → ws.length = ks.length →
      KwChain D ((ms.map (·.1)).zip mv) (bindArgs (PySem.W.fnOf x x (defArgs st) (defBody st) (defScope st) .none (.ref D) doc pm an cdv ct) ⟨us, ks.zip ws⟩) (ps.zip (g us mv ws)))
    (ha : PA X (e :: es) t) (hkw : PK X kw tk) (hg : Gl X x := by rfl) (hall : (backToKw pos (keywordEach kw X.env)).all (·.1.isSome) = true := by rfl) (hks : (backToKw pos (keywordEach kw X.env)).filterMap (·.1) = ks := by rfl)
    (hdb : (x == ("__debug__" : Str)) = false := by decide) (he : starEach (e :: es) X.env = (false, eval e X.env) :: starEach es X.env := by rfl)
    (hpl : ((backTo pos (starEach (e :: es) X.env)).any (·.1) || (backToKw pos (keywordEach kw X.env)).any (·.1.isNone)) = false := by rfl) :
    PE X (.Call (.Name x p) (e :: es) kw pos) (tCallN n ks.length sp (fun vs zs => g vs (ms.map (·.2)) zs) E0 t tk) := by
  obtain ⟨f, fd, h1, h2, h4⟩ := C.ex
  obtain ⟨mv, b⟩ := h2.kbinds0 n ks ms g hk hms hrel h
  exact pe_callN h4 hr hg h1 h2.kp b pass0 ha hkw hall hks hdb he hpl
end

/-! ### operators by the kinds of the values -/
section
variable {X : Cx}
def rRepS : R2 := fun x y H Q => ∃ (z : Str) (n : Int), x = .str z ∧ y = .int n ∧ (n < 2 ^ 40 ∧ -(2 ^ 40) ≤ n ∧ z.length * n.toNat ≤ 100000) ∧ Q (.str (repS z n.toNat)) H
theorem op_repS : OpR X (binaryOp .Mult) rRepS := by
  intro pins s σ H x y v u Q I rx ry h
  obtain ⟨z, n, rfl, rfl, ⟨h1, h2, h3⟩, q⟩ := h
  obtain ⟨t, rfl⟩ := rx
  obtain ⟨t', rfl⟩ := ry
  have hs : sizeLine = 16777216 := sizeLine_eq
  have hz : Builtin.Str.tooLong (z.length * n.toNat) = false := by
    unfold Builtin.Str.tooLong
    exact decide_eq_false (by omega)
  refine PySem.P.mul_str ?_ (fun h4 h5 => ?_) (fun _ _ => hz) ?_
  · rw [decide_eq_false (by omega), decide_eq_false (by omega)]; rfl
  · intro h6
    have h7 : 0 < n := by omega
    have h8 : ((z.length : Int)) * n ≤ 100000 := by
      have : ((z.length * n.toNat : Nat) : Int) ≤ 100000 := by omega
      rw [Int.natCast_mul, Int.toNat_of_nonneg (by omega)] at this
      exact this
    have h9 : ((2 ^ 63 - 1 : Int) / n + 1) ≤ (z.length : Int) := by omega
    have ha : ((2 ^ 63 - 1 : Int) / n + 1) * n ≤ (z.length : Int) * n := Int.mul_le_mul_of_nonneg_right h9 (by omega)
    have hb : (2 ^ 63 - 1 : Int) < ((2 ^ 63 - 1 : Int) / n + 1) * n := Int.lt_ediv_add_one_mul_self _ h7
    omega
  · by_cases h4 : n < 1
    · rw [if_pos h4]
      refine ⟨by decide, .str Str.empty, H, I.tok _, ⟨_, rfl⟩, ?_⟩
      have e : n.toNat = 0 := by omega
      rw [e, repS_zero] at q
      exact q
    · rw [if_neg h4]
      by_cases h5 : (n == 1 || z.length == 0) = true
      · rw [if_pos h5]
        refine ⟨.str z, H, I, ⟨_, rfl⟩, ?_⟩
        have e : repS z n.toNat = z := by
          rw [Bool.or_eq_true] at h5
          rcases h5 with h5 | h5
          · have e : n.toNat = 1 := by
              have := beq_iff_eq.mp h5
              omega
            rw [e, repS_one]
          · exact repS_nil _ _ (beq_iff_eq.mp h5)
        rw [e] at q
        exact q
      · rw [if_neg h5, repS_fold]
        refine ⟨by rw [repS_length]; omega, .str _, H, I.tok _, ⟨_, rfl⟩, q⟩
end
def rAdd (K : PySem.W.Frag) : R2 := fun x y H Q => rI0 (fun i j => .int (i + j)) x y H Q ∨ (∃ i j, x = .str i ∧ y = .str j ∧ i.length + j.length ≤ sizeLine ∧ Q (.str (i ++ j)) H) ∨ rCat x y H Q ∨ rCatA K x y H Q
def rMul (K : PySem.W.Frag) : R2 := fun x y H Q => rI CMul (fun i j => .int (i * j)) x y H Q ∨ rI CMulX (fun i j => .int (i * j)) x y H Q ∨ rRepS x y H Q ∨ rRep x y H Q
def rSub : R2 := rI0 fun i j => .int (i - j)
def rMod : R2 := rI (fun _ j => 0 < j) fun i j => .int (i % j)
def rDiv : R2 := rI CDivW fun i j => .int (i / j)
def rPow : R2 := rI CPow fun i j => .int (i ^ j.toNat)
def rEqX (K : PySem.W.Frag) : R2 := fun x y H Q => rEq x y H Q ∨ rEqD K x y H Q
def rNeX (K : PySem.W.Frag) : R2 := fun x y H Q => rNe x y H Q ∨ rNeD K x y H Q
def rLt : R2 := rI0 fun i j => .bl (decide (i < j))
def rLe : R2 := rI0 fun i j => .bl (decide (i ≤ j))
def rGt : R2 := rI0 fun i j => .bl (decide (j < i))
def rGe : R2 := rI0 fun i j => .bl (decide (j ≤ i))
def rIsN : R2 := fun x y H Q => y = .non ∧ Q (.bl (decide (x = .non))) H
def rNotN : R2 := fun x y H Q => y = .non ∧ Q (.bl (!decide (x = .non))) H
section
variable {X : Cx}
theorem opAdd : OpR X (binaryOp .Add) (rAdd X.K) := op_add.or (op_add_str.or (op_cat.or op_catA))
theorem opMul : OpR X (binaryOp .Mult) (rMul X.K) := op_mul.or (op_mulX.or (op_repS.or op_rep))
theorem opSub : OpR X (binaryOp .Sub) rSub := op_sub
theorem opMod : OpR X (binaryOp .Mod) rMod := op_mod
theorem opDiv : OpR X (binaryOp .FloorDiv) rDiv := op_fdivW
theorem opPow : OpR X (binaryOp .Pow) rPow := op_pow
theorem opEq (hu : X.A.units + 64 < cLine) : OpR X (compareOp .Eq) (rEqX X.K) := op_eq.or (op_eqD hu)
theorem opNe (hu : X.A.units + 64 < cLine) : OpR X (compareOp .NotEq) (rNeX X.K) := op_ne.or (op_neD hu)
theorem opLt : OpR X (compareOp .Lt) rLt := op_lt
theorem opLe : OpR X (compareOp .LtE) rLe := op_le
theorem opGt : OpR X (compareOp .Gt) rGt := op_gt
theorem opGe : OpR X (compareOp .GtE) rGe := op_ge
theorem opIsN : OpR X (compareOp .Is) rIsN := op_isN
theorem opNotN : OpR X (compareOp .IsNot) rNotN := op_notN
def rInt : List V → Hp → VK → Prop := fun xs H Q => (∃ i, xs = [.int i] ∧ Q (.int i) H) ∨ ∃ k, xs = [.bl k] ∧ Q (.int (if k then 1 else 0)) H
def rAbs : List V → Hp → VK → Prop := fun xs H Q => ∃ i, xs = [.int i] ∧ Q (.int (if i < 0 then -i else i)) H
def rMax2 : List V → Hp → VK → Prop := fun xs H Q => ∃ i j, xs = [.int i, .int j] ∧ Q (.int (if j > i then j else i)) H
def rMin2 : List V → Hp → VK → Prop := fun xs H Q => ∃ i j, xs = [.int i, .int j] ∧ Q (.int (if j < i then j else i)) H
def rLen (K : PySem.W.Frag) : List V → Hp → VK → Prop := fun xs H Q => ∃ x n, xs = [x] ∧ LenV K x H n ∧ Q (.int n) H
def rListOf (K : PySem.W.Frag) : List V → Hp → VK → Prop := fun xs H Q => ∃ p ys, xs = [.ref p] ∧ (SqL K H p ys ∨ SqT K H p ys) ∧ ∀ l, H l = none → Q (.ref l) (upd H l (.lst ys))
def rStr : List V → Hp → VK → Prop := fun xs H Q => ∃ i, xs = [.int i] ∧ i.natAbs.log2 < 1920 ∧ Q (.str (toString i)) H
theorem callStr : CallR X (.type "str") rStr := call_str_int
theorem callInt : CallR X (.type "int") rInt := call_int1
theorem callAbs : CallR X (.builtin "abs") rAbs := call_abs
theorem callMax2 (hc : X.calm = true) : CallR X (.builtin "max") rMax2 := call_max2 hc
theorem callMin2 (hc : X.calm = true) : CallR X (.builtin "min") rMin2 := call_min2 hc
theorem callLen : CallR X (.builtin "len") (rLen X.K) := call_len
theorem callListOf : CallR X (.type "list") (rListOf X.K) := call_list_of
def rSlX (K : PySem.W.Frag) : V → Option Int → Option Int → Hp → VK → Prop := fun x lo hi H Q => rSlL K x lo hi H Q ∨ rSlS x lo hi H Q ∨ rSlA K x lo hi H Q
theorem slAny : SlR X (rSlX X.K) := sl_list.or (sl_str.or sl_tupA)
theorem hu64 {A : Around} {k : Nat} (hr : Room k A) : A.units + 64 < cLine := by
  have := hr.un
  omega
end

/-- the built-in names are not the module's own -/
structure Bl (mg : Str → Option Value) : Prop where
  abs : mg "abs" = none
  all : mg "all" = none
  any : mg "any" = none
  bool : mg "bool" = none
  dict : mg "dict" = none
  divmod : mg "divmod" = none
  enumerate : mg "enumerate" = none
  int : mg "int" = none
  isinstance : mg "isinstance" = none
  len : mg "len" = none
  list : mg "list" = none
  max : mg "max" = none
  min : mg "min" = none
  range : mg "range" = none
  repr : mg "repr" = none
  reversed : mg "reversed" = none
  sorted : mg "sorted" = none
  str : mg "str" = none
  sum : mg "sum" = none
  tuple : mg "tuple" = none
  zip : mg "zip" = none
  ValueError' : mg "ValueError" = none

/-! ### heaps -/
def Ex (H H' : Hp) : Prop := ∀ a o, H a = some o → H' a = some o
/-- all but what stands at b -/
def ExB (b : Addr) (H H' : Hp) : Prop := ∀ a o, a ≠ b → H a = some o → H' a = some o
theorem Ex.refl (H : Hp) : Ex H H := fun _ _ h => h
theorem Ex.trans {H H1 H2 : Hp} (a : Ex H H1) (b : Ex H1 H2) : Ex H H2 := fun x o h => b x o (a x o h)
theorem ExB.refl (b : Addr) (H : Hp) : ExB b H H := fun _ _ _ h => h
theorem ExB.trans {b : Addr} {H H1 H2 : Hp} (a : ExB b H H1) (c : ExB b H1 H2) : ExB b H H2 := fun x o n h => c x o n (a x o n h)
theorem Ex.b {b : Addr} {H H' : Hp} (e : Ex H H') : ExB b H H' := fun a o _ h => e a o h
theorem Ex.at {H H' : Hp} {a : Addr} {o : HO} (e : Ex H H') (h : H a = some o) : H' a = some o := e a o h
theorem ExB.at {b : Addr} {H H' : Hp} {a : Addr} {o : HO} (e : ExB b H H') (n : a ≠ b) (h : H a = some o) : H' a = some o := e a o n h
theorem Ex.new {H : Hp} {p : Addr} {o : HO} (h : H p = none) : Ex H (upd H p o) := fun a u e => by
  rw [upd_ne (ne_of_none e h)]
  exact e
theorem ExB.upd {b : Addr} {H : Hp} {o : HO} : ExB b H (upd H b o) := fun a u n e => by
  rw [upd_ne n]
  exact e
theorem Ex.none {H H' : Hp} {p : Addr} (e : Ex H H') (h : H' p = none) : H p = none := by
  cases q : H p with
  | none => rfl
  | some o => rw [e p o q] at h; cases h
theorem Ex.mutB {H H1 H2 : Hp} {p : Addr} (e : Ex H H1) (n : H p = Option.none) (b : ExB p H1 H2) : Ex H H2 := fun a o h => b a o (ne_of_none h n) (e a o h)
theorem ExB.mutB {c : Addr} {H H1 H2 : Hp} {p : Addr} (e : ExB c H H1) (n : H p = Option.none) (b : ExB p H1 H2) : ExB c H H2 := fun a o nc h => b a o (ne_of_none h n) (e a o nc h)
theorem ExB.none {c : Addr} {H H1 : Hp} {p : Addr} (e : ExB c H H1) (n : H1 p = Option.none) (b : ∃ o, H1 c = some o) : H p = Option.none := by
  cases q : H p with
  | none => rfl
  | some o =>
    obtain ⟨o', hb⟩ := b
    rw [e p o (ne_of_none hb n).symm q] at n
    cases n
theorem ne_new {H : Hp} {a p : Addr} (h : ∃ o, H a = some o) (n : H p = Option.none) : a ≠ p := by
  obtain ⟨o, h⟩ := h
  exact ne_of_none h n
theorem Ex.rd {H H' : Hp} {a : Addr} {u : HO} (e : Ex H H') (h : Rd H a u) : Rd H' a u := by
  rcases h with h | ⟨o, h⟩
  · exact .inl (e a _ h)
  · exact .inr ⟨o, e a _ h⟩
theorem Ex.l {K : PySem.W.Frag} {H H' : Hp} {a : Addr} {xs : List V} (e : Ex H H') (h : SqL K H a xs) : SqL K H' a xs := by
  rcases h with h | h
  · exact .inl (e.rd h)
  · exact .inr h
theorem Ex.t {K : PySem.W.Frag} {H H' : Hp} {a : Addr} {xs : List V} (e : Ex H H') (h : SqT K H a xs) : SqT K H' a xs := by
  rcases h with h | h
  · exact .inl (e.rd h)
  · exact .inr h
theorem sq_of {K : PySem.W.Frag} {H : Hp} {a : Addr} {xs : List V} (h : H a = some (.lst xs)) : SqL K H a xs := .inl (.inl h)
theorem st_of {K : PySem.W.Frag} {H : Hp} {a : Addr} {xs : List V} (h : H a = some (.tup xs)) : SqT K H a xs := .inl (.inl h)

/-! ### steps of a reading -/
section
variable {K : PySem.W.Frag} {σ : L2.St} {H H1 H2 : Hp} {Q : VK} {QB : Bool → Hp → Prop} {QL : List V → Hp → Prop} {v x y : V} {i j : Nat} {te ta tb : TE} {tt tu : TT} {tl tr : TA} {r : R2} {D : Ends} {t u : TS} {b c : Bool} {sp : Sp} {dvs : List V} {E : XK}
theorem g_var (h : σ[i]? = some (some v)) (q : Q v H) : tVar i σ H Q := ⟨v, h, q⟩
theorem g_c (q : Q v H) : tC v σ H Q := q
theorem g_op (q : ta σ H fun x H1 => tb σ H1 fun y H2 => r x y H2 Q) : tOp r ta tb σ H Q := q
theorem g_un {r : V → Hp → VK → Prop} (q : ta σ H fun x H1 => r x H1 Q) : tUn r ta σ H Q := q
theorem g_test (q : te σ H fun x H' => ∃ k, x = .bl k ∧ QB k H') : tTest te σ H QB := q
theorem g_tB (q : te σ H fun x H' => ∃ k, x = .bl k ∧ QB k H') : tB te σ H QB := q
theorem g_not (q : tt σ H fun c H1 => QB (!c) H1) : tNot tt σ H QB := q
theorem g_and (q : tt σ H fun c H1 => if c = true then tu σ H1 QB else QB false H1) : tAnd tt tu σ H QB := q
theorem g_or (q : tt σ H fun c H1 => if c = true then QB true H1 else tu σ H1 QB) : tOr tt tu σ H QB := q
theorem g_notV (q : te σ H fun x H1 => ∃ c, x = .bl c ∧ Q (.bl (!c)) H1) : tNotV te σ H Q := q
theorem g_andV (q : ta σ H fun x H1 => ∃ c, x = .bl c ∧ if c = true then tb σ H1 Q else Q (.bl false) H1) : tAndV ta tb σ H Q := q
theorem g_orV (q : ta σ H fun x H1 => ∃ c, x = .bl c ∧ if c = true then Q (.bl true) H1 else tb σ H1 Q) : tOrV ta tb σ H Q := q
theorem g_if (q : tt σ H fun c H1 => if c = true then ta σ H1 Q else tb σ H1 Q) : tIf tt ta tb σ H Q := q
theorem g_ifs (q : tt σ H fun c H1 => if c = true then t D σ H1 else u D σ H1) : tIfS tt t u D σ H := q
theorem g_ex {R : Bool → Prop} (q : R b) : ∃ k, V.bl b = .bl k ∧ R k := ⟨b, rfl, q⟩
theorem g_seq (q : t { D with nx := u D } σ H) : tSeq t u D σ H := q
theorem g_seqM {a : L2.St → Hp → Prop} {rt : VK} {bk ct : L2.St → Hp → Prop} (q : t (Ends.mk (u (Ends.mk a rt bk ct)) rt bk ct) σ H) : tSeq t u (Ends.mk a rt bk ct) σ H := q
theorem g_asg (q : te σ H fun x H1 => D.nx (σ.set i (some x)) H1) : tAsg te (gName i) D σ H := q
theorem g_asgG {g : TG} (q : te σ H fun x H1 => g x σ H1 D.nx) : tAsg te g D σ H := q
theorem g_ret (q : te σ H D.rt) : tRet te D σ H := q
theorem g_drop (q : te σ H fun _ H1 => D.nx σ H1) : tDrop te D σ H := q
theorem g_next (q : D.nx σ H) : tNext D σ H := q
theorem g_nx {a : L2.St → Hp → Prop} {rt : VK} {bk ct : L2.St → Hp → Prop} (q : a σ H) : (Ends.mk a rt bk ct).nx σ H := q
theorem g_rt {a : L2.St → Hp → Prop} {rt : VK} {bk ct : L2.St → Hp → Prop} (q : rt v H) : (Ends.mk a rt bk ct).rt v H := q
theorem g_call (q : tl σ H fun vs H1 => sp (vs ++ dvs) H1 Q E) : tCall sp dvs E tl σ H Q := q
theorem g_cons (q : te σ H fun x H1 => tl σ H1 fun xs H2 => QL (x :: xs) H2) : tCons te tl σ H QL := q
theorem g_nil (q : QL [] H) : tNil σ H QL := q
theorem g_cb {r : List V → Hp → VK → Prop} (q : tl σ H fun vs H1 => r vs H1 Q) : tCB r tl σ H Q := q
theorem g_lst (q : tl σ H fun xs H1 => xs.length ≤ sizeLine ∧ ∀ p, H1 p = none → Q (.ref p) (upd H1 p (.lst xs))) : tLst tl σ H Q := q
theorem g_tup (q : tl σ H fun xs H1 => xs.length ≤ sizeLine ∧ ∀ p, H1 p = none → Q (.ref p) (upd H1 p (.tup xs))) : tTup tl σ H Q := q
theorem g_sz {n : Nat} {R : Prop} (h : n ≤ 100000) (q : R) : n ≤ sizeLine ∧ R := ⟨Nat.le_trans h (by decide), q⟩
theorem g_len {y : V} {n : Nat} (h : LenV K y H n) (q : Q (.int n) H) : rLen K [y] H Q := ⟨y, n, rfl, h, q⟩
theorem len_l {p : Addr} {xs : List V} (h : SqL K H p xs) : LenV K (.ref p) H xs.length := .inl ⟨xs, h, rfl⟩
theorem len_t {p : Addr} {xs : List V} (h : SqT K H p xs) : LenV K (.ref p) H xs.length := .inr ⟨xs, h, rfl⟩
theorem len_s {z : Str} (h : z.length ≤ 100000) : LenV K (.str z) H z.length := ⟨Nat.le_trans h (by decide), rfl⟩
theorem g_int {i : Int} (q : Q (.int i) H) : rInt [V.int i] H Q := .inl ⟨i, rfl, q⟩
theorem g_intB {k : Bool} (q : Q (.int (if k then 1 else 0)) H) : rInt [V.bl k] H Q := .inr ⟨k, rfl, q⟩
theorem g_abs {i : Int} (q : Q (.int (if i < 0 then -i else i)) H) : rAbs [V.int i] H Q := ⟨i, rfl, q⟩
theorem g_max2 {i j : Int} (q : Q (.int (if j > i then j else i)) H) : rMax2 [V.int i, .int j] H Q := ⟨i, j, rfl, q⟩
theorem g_min2 {i j : Int} (q : Q (.int (if j < i then j else i)) H) : rMin2 [V.int i, .int j] H Q := ⟨i, j, rfl, q⟩
theorem g_ixL {p : Addr} {xs : List V} {i : Int} (h : SqL K H p xs) (a : atI xs i = some v) (q : Q v H) : rIx K (.ref p) (.int i) H Q := .inl ⟨p, xs, i, v, rfl, rfl, h, a, q⟩
theorem g_ixT {p : Addr} {xs : List V} {i : Int} (h : SqT K H p xs) (a : atI xs i = some v) (q : Q v H) : rIx K (.ref p) (.int i) H Q := .inr (.inl ⟨p, xs, i, v, rfl, rfl, h, a, q⟩)
theorem g_ixI {p : Addr} {ns : List Int} {i : Int} (h : SqL K H p (ns.map V.int)) (h0 : 0 ≤ i) (h1 : i < ((ns.map V.int).length : Int)) (q : Q (.int (ns.getD i.toNat 0)) H) : rIx K (.ref p) (.int i) H Q := by
  refine g_ixL h ?_ q
  obtain ⟨j, rfl⟩ : ∃ j : Nat, i = (j : Int) := ⟨i.toNat, by omega⟩
  refine atI_nat ?_
  have h2 : j < ns.length := by
    rw [List.length_map] at h1
    omega
  rw [List.getElem?_map, List.getElem?_eq_getElem h2, Option.map_some, Int.toNat_natCast, List.getD_eq_getElem?_getD, List.getElem?_eq_getElem h2, Option.getD_some]
theorem g_ixS {z : Str} {i : Int} {c : Nat} (h : z.length ≤ 100000) (a : atI z.cps.toList i = some c) (q : Q (.str ⟨#[c]⟩) H) : rIx K (.str z) (.int i) H Q := .inr (.inr ⟨z, i, c, rfl, rfl, Nat.le_trans h (by decide), a, q⟩)
theorem g_gsub {to ti : TE} {ts : TSet} {R : L2.St → Hp → Prop} (q : to σ H fun o H1 => ti σ H1 fun i H2 => ts o i v H2 fun H3 => R σ H3) : gSub to ti ts v σ H R := q
theorem g_set {p : Addr} {xs : List V} {k : Int} {j : Nat} {R : Hp → Prop} (h : H p = some (.lst xs)) (hj : ixN xs.length k = some j) (q : ∀ H2, ExB p H H2 → H2 p = some (.lst (xs.set j v)) → R H2) : rSetL (.ref p) (.int k) v H R :=
  ⟨p, xs, k, j, rfl, rfl, h, hj, q _ ExB.upd upd_same⟩
theorem g_sl {r : V → Option Int → Option Int → Hp → VK → Prop} {t1 t2 : TO} (q : te σ H fun x H1 => t1 σ H1 fun l H2 => t2 σ H2 fun u H3 => r x l u H3 Q) : tSl r te t1 t2 σ H Q := q
theorem g_noPart {R : Option Int → Hp → Prop} (q : R none H) : tNoPart σ H R := q
theorem g_part {R : Option Int → Hp → Prop} (q : te σ H fun x H1 => ∃ i, x = .int i ∧ R (some i) H1) : tPart te σ H R := q
theorem g_exI {i : Int} {R : Int → Prop} (q : R i) : ∃ k, V.int i = .int k ∧ R k := ⟨i, rfl, q⟩
theorem g_bm {T : String} {r : V → List V → Hp → VK → Prop} (q : te σ H fun x H1 => tyV K T x H1 ∧ tl σ H1 fun xs H2 => r x xs H2 Q) : tBM K T r te tl σ H Q := q
theorem g_bm0 {T : String} {r : V → List V → Hp → VK → Prop} (q : te σ H fun x H1 => tyV K T x H1 ∧ r x [] H1 Q) : tBM0 K T r te σ H Q := q
theorem g_tyL {p : Addr} {xs : List V} {R : Prop} (h : SqL K H p xs) (q : R) : tyV K "list" (.ref p) H ∧ R := ⟨.inl ⟨rfl, xs, h⟩, q⟩
theorem g_tyS {z : Str} {R : Prop} (q : R) : tyV K "str" (.str z) H ∧ R := ⟨rfl, q⟩
theorem g_app {p : Addr} {xs : List V} (h : H p = some (.lst xs)) (hz : xs.length < 100000) (q : ∀ H2, ExB p H H2 → H2 p = some (.lst (xs ++ [v])) → Q .non H2) : rAppend (.ref p) [v] H Q :=
  ⟨p, xs, v, rfl, rfl, h, Nat.lt_of_lt_of_le hz (by decide), q _ ExB.upd upd_same⟩
theorem g_new {o : HO} {R : Addr → Hp → Prop} (q : ∀ p H2, H p = none → Ex H H2 → H2 p = some o → R p H2) : ∀ p, H p = none → R p (upd H p o) := fun p hp => q p _ hp (Ex.new hp) upd_same

theorem g_I0 {g : Int → Int → V} {i j : Int} (q : Q (g i j) H) : rI0 g (.int i) (.int j) H Q := ⟨i, j, rfl, rfl, q⟩
theorem g_add {i j : Int} (q : Q (.int (i + j)) H) : rAdd K (.int i) (.int j) H Q := .inl ⟨i, j, rfl, rfl, q⟩
theorem g_addS {a b : Str} (h : a.length + b.length ≤ 100000) (q : Q (.str (a ++ b)) H) : rAdd K (.str a) (.str b) H Q := .inr (.inl ⟨a, b, rfl, rfl, Nat.le_trans h (by decide), q⟩)
theorem g_mulL {i j : Int} (h : -(2 ^ 64) < i ∧ i < 2 ^ 64) (q : Q (.int (i * j)) H) : rMul K (.int i) (.int j) H Q := .inl ⟨i, j, rfl, rfl, .inl h, q⟩
theorem g_mulR {i j : Int} (h : -(2 ^ 64) < j ∧ j < 2 ^ 64) (q : Q (.int (i * j)) H) : rMul K (.int i) (.int j) H Q := .inl ⟨i, j, rfl, rfl, .inr h, q⟩
theorem g_mulX {i j : Int} (h : CMulX i j) (q : Q (.int (i * j)) H) : rMul K (.int i) (.int j) H Q := .inr (.inl ⟨i, j, rfl, rfl, h, q⟩)
theorem g_mulS {z : Str} {n : Int} (h : n < 2 ^ 40 ∧ -(2 ^ 40) ≤ n ∧ z.length * n.toNat ≤ 100000) (q : Q (.str (repS z n.toNat)) H) : rMul K (.str z) (.int n) H Q := .inr (.inr (.inl ⟨z, n, rfl, rfl, h, q⟩))
theorem g_sub {i j : Int} (q : Q (.int (i - j)) H) : rSub (.int i) (.int j) H Q := ⟨i, j, rfl, rfl, q⟩
theorem g_mod {i j : Int} (h : 0 < j) (q : Q (.int (i % j)) H) : rMod (.int i) (.int j) H Q := ⟨i, j, rfl, rfl, h, q⟩
theorem g_div {i j : Int} (h : CDivW i j) (q : Q (.int (i / j)) H) : rDiv (.int i) (.int j) H Q := ⟨i, j, rfl, rfl, h, q⟩
theorem cpow_ok {i j : Int} (h1 : 0 ≤ j) (h2 : j ≤ 1000000) (h3 : i.natAbs < 2 ^ 64) : CPow i j := ⟨h1, h2, h3⟩
theorem g_pow {i j k : Int} (h : CPow i j) (e : i ^ j.toNat = k) (q : Q (.int k) H) : rPow (.int i) (.int j) H Q := ⟨i, j, rfl, rfl, h, by show Q (.int (i ^ j.toNat)) H; rw [e]; exact q⟩
theorem g_lt {i j : Int} (q : Q (.bl (decide (i < j))) H) : rLt (.int i) (.int j) H Q := ⟨i, j, rfl, rfl, q⟩
theorem g_le {i j : Int} (q : Q (.bl (decide (i ≤ j))) H) : rLe (.int i) (.int j) H Q := ⟨i, j, rfl, rfl, q⟩
theorem g_gt {i j : Int} (q : Q (.bl (decide (j < i))) H) : rGt (.int i) (.int j) H Q := ⟨i, j, rfl, rfl, q⟩
theorem g_ge {i j : Int} (q : Q (.bl (decide (j ≤ i))) H) : rGe (.int i) (.int j) H Q := ⟨i, j, rfl, rfl, q⟩
theorem dI {i j : Int} : decide (V.int i = V.int j) = decide (i = j) := by
  by_cases h : i = j <;> simp [h]
theorem dB {i j : Bool} : decide (V.bl i = V.bl j) = (i == j) := dec_bl
theorem dS {i j : Str} : decide (V.str i = V.str j) = decide (i = j) := by
  by_cases h : i = j <;> simp [h]
theorem g_eq {i j : Int} (q : Q (.bl (decide (i = j))) H) : rEqX K (.int i) (.int j) H Q := .inl ⟨rfl, by rw [dI]; exact q⟩
theorem g_ne {i j : Int} (q : Q (.bl (!decide (i = j))) H) : rNeX K (.int i) (.int j) H Q := .inl ⟨rfl, by rw [dI]; exact q⟩
theorem g_eqB {i j : Bool} (q : Q (.bl (i == j)) H) : rEqX K (.bl i) (.bl j) H Q := .inl ⟨rfl, by rw [dB]; exact q⟩
theorem g_neB {i j : Bool} (q : Q (.bl (!(i == j))) H) : rNeX K (.bl i) (.bl j) H Q := .inl ⟨rfl, by rw [dB]; exact q⟩
theorem g_eqS {i j : Str} (q : Q (.bl (decide (i = j))) H) : rEqX K (.str i) (.str j) H Q := .inl ⟨rfl, by rw [dS]; exact q⟩
theorem g_neS {i j : Str} (q : Q (.bl (!decide (i = j))) H) : rNeX K (.str i) (.str j) H Q := .inl ⟨rfl, by rw [dS]; exact q⟩
theorem g_isN (q : Q (.bl (decide (x = .non))) H) : rIsN x .non H Q := ⟨rfl, q⟩
theorem g_notN (q : Q (.bl (!decide (x = .non))) H) : rNotN x .non H Q := ⟨rfl, q⟩

theorem g_ite {p : Prop} [Decidable p] {A B : Prop} (h1 : p → A) (h2 : ¬ p → B) : if decide p = true then A else B := by
  by_cases h : p
  · rw [if_pos (decide_eq_true h)]; exact h1 h
  · rw [if_neg (by rw [decide_eq_false h]; exact Bool.false_ne_true)]; exact h2 h
theorem g_iteN {p : Prop} [Decidable p] {A B : Prop} (h1 : ¬ p → A) (h2 : p → B) : if (!decide p) = true then A else B := by
  by_cases h : p
  · rw [if_neg (by rw [decide_eq_true h]; exact Bool.false_ne_true)]; exact h2 h
  · rw [if_pos (by rw [decide_eq_false h]; rfl)]; exact h1 h
theorem iteNT {A B : Prop} (h : A) : if (!false) = true then A else B := iteT h
theorem iteNF {A B : Prop} (h : B) : if (!true) = true then A else B := iteF h
theorem g_itB {A B : Prop} (h1 : b = true → A) (h2 : b = false → B) : if b = true then A else B := by
  cases b
  · rw [if_neg Bool.false_ne_true]; exact h2 rfl
  · rw [if_pos rfl]; exact h1 rfl
theorem g_itNB {A B : Prop} (h1 : b = false → A) (h2 : b = true → B) : if (!b) = true then A else B := by
  cases b
  · exact iteT (h1 rfl)
  · exact iteF (h2 rfl)
end


/-! ### steps found by their head -/
/-- G follows from G' -/
class Step (G : Prop) (G' : outParam Prop) : Prop where
  run : G' → G
class Look (σ : L2.St) (i : Nat) (v : outParam V) : Prop where
  at_ : σ[i]? = some (some v)
instance {v : V} {σ : L2.St} : Look (some v :: σ) 0 v := ⟨rfl⟩
instance {a : Option V} {σ : L2.St} {i : Nat} {v : V} [h : Look σ i v] : Look (a :: σ) (i + 1) v := ⟨by simpa using h.at_⟩
class SetL (σ : L2.St) (i : Nat) (x : Option V) (τ : outParam L2.St) : Prop where
  eq : σ.set i x = τ
instance {a x : Option V} {σ : L2.St} : SetL (a :: σ) 0 x (x :: σ) := ⟨rfl⟩
instance {a x : Option V} {σ τ : L2.St} {i : Nat} [h : SetL σ i x τ] : SetL (a :: σ) (i + 1) x (a :: τ) := ⟨by rw [← h.eq]; rfl⟩
section
variable {K : PySem.W.Frag} {σ τ : L2.St} {H H1 H2 : Hp} {Q : VK} {QB : Bool → Hp → Prop} {QL : List V → Hp → Prop} {v x y : V} {i j : Nat} {te ta tb : TE} {tt tu : TT} {tl tr : TA} {r : R2} {D : Ends} {t u : TS} {b c : Bool} {sp : Sp} {dvs : List V} {E : XK}
instance [h : Look σ i v] : Step (tVar i σ H Q) (Q v H) := ⟨g_var h.at_⟩
instance : Step (tC v σ H Q) (Q v H) := ⟨g_c⟩
instance : Step (tOp r ta tb σ H Q) (ta σ H fun x H1 => tb σ H1 fun y H2 => r x y H2 Q) := ⟨g_op⟩
instance {r : V → Hp → VK → Prop} : Step (tUn r ta σ H Q) (ta σ H fun x H1 => r x H1 Q) := ⟨g_un⟩
instance : Step (tTest te σ H QB) (te σ H fun x H' => ∃ k, x = .bl k ∧ QB k H') := ⟨g_test⟩
instance : Step (tB te σ H QB) (te σ H fun x H' => ∃ k, x = .bl k ∧ QB k H') := ⟨g_tB⟩
instance : Step (tNot tt σ H QB) (tt σ H fun c H1 => QB (!c) H1) := ⟨g_not⟩
instance : Step (tAnd tt tu σ H QB) (tt σ H fun c H1 => if c = true then tu σ H1 QB else QB false H1) := ⟨g_and⟩
instance : Step (tOr tt tu σ H QB) (tt σ H fun c H1 => if c = true then QB true H1 else tu σ H1 QB) := ⟨g_or⟩
instance : Step (tNotV te σ H Q) (te σ H fun x H1 => ∃ c, x = .bl c ∧ Q (.bl (!c)) H1) := ⟨g_notV⟩
instance : Step (tAndV ta tb σ H Q) (ta σ H fun x H1 => ∃ c, x = .bl c ∧ if c = true then tb σ H1 Q else Q (.bl false) H1) := ⟨g_andV⟩
instance : Step (tOrV ta tb σ H Q) (ta σ H fun x H1 => ∃ c, x = .bl c ∧ if c = true then Q (.bl true) H1 else tb σ H1 Q) := ⟨g_orV⟩
instance : Step (tIf tt ta tb σ H Q) (tt σ H fun c H1 => if c = true then ta σ H1 Q else tb σ H1 Q) := ⟨g_if⟩
instance : Step (tIfS tt t u D σ H) (tt σ H fun c H1 => if c = true then t D σ H1 else u D σ H1) := ⟨g_ifs⟩
instance {R : Bool → Prop} : Step (∃ k, V.bl b = .bl k ∧ R k) (R b) := ⟨g_ex⟩
instance {i : Int} {R : Int → Prop} : Step (∃ k, V.int i = .int k ∧ R k) (R i) := ⟨g_exI⟩
instance : Step (tSeq t u D σ H) (t { D with nx := u D } σ H) := ⟨g_seq⟩
instance (priority := high) {a : L2.St → Hp → Prop} {rt : VK} {bk ct : L2.St → Hp → Prop} : Step (tSeq t u (Ends.mk a rt bk ct) σ H) (t (Ends.mk (u (Ends.mk a rt bk ct)) rt bk ct) σ H) := ⟨g_seqM⟩
instance : Step (tAsg te (gName i) D σ H) (te σ H fun x H1 => gName i x σ H1 D.nx) := ⟨fun q => q⟩
instance {R : L2.St → Hp → Prop} [h : SetL σ i (some v) τ] : Step (gName i v σ H R) (R τ H) := ⟨fun q => by show R _ H; rw [h.eq]; exact q⟩
instance : Step (tRet te D σ H) (te σ H D.rt) := ⟨g_ret⟩
instance : Step (tRetN D σ H) (D.rt .non H) := ⟨fun q => q⟩
instance : Step (tDrop te D σ H) (te σ H fun _ H1 => D.nx σ H1) := ⟨g_drop⟩
instance : Step (tNext D σ H) (D.nx σ H) := ⟨g_next⟩
instance : Step (tBreak D σ H) (D.bk σ H) := ⟨fun q => q⟩
instance : Step (tCont D σ H) (D.ct σ H) := ⟨fun q => q⟩
instance {a : L2.St → Hp → Prop} {rt : VK} {bk ct : L2.St → Hp → Prop} : Step ((Ends.mk a rt bk ct).nx σ H) (a σ H) := ⟨g_nx⟩
instance {a : L2.St → Hp → Prop} {rt : VK} {bk ct : L2.St → Hp → Prop} : Step ((Ends.mk a rt bk ct).rt v H) (rt v H) := ⟨g_rt⟩
instance {a : L2.St → Hp → Prop} {rt : VK} {bk ct : L2.St → Hp → Prop} : Step ((Ends.mk a rt bk ct).bk σ H) (bk σ H) := ⟨fun q => q⟩
instance {a : L2.St → Hp → Prop} {rt : VK} {bk ct : L2.St → Hp → Prop} : Step ((Ends.mk a rt bk ct).ct σ H) (ct σ H) := ⟨fun q => q⟩
instance : Step (tCall sp dvs E tl σ H Q) (tl σ H fun vs H1 => sp (vs ++ dvs) H1 Q E) := ⟨g_call⟩
instance : Step (tCons te tl σ H QL) (te σ H fun x H1 => tl σ H1 fun xs H2 => QL (x :: xs) H2) := ⟨g_cons⟩
instance : Step (tNil σ H QL) (QL [] H) := ⟨g_nil⟩
instance {n m : Nat} {gV : List V → List V → List V} : Step (tCallN n m sp gV E tl tr σ H Q) (tl σ H fun vs H1 => tr σ H1 fun zs H2 => vs.length = n ∧ zs.length = m ∧ sp (gV vs zs) H2 Q E) := ⟨fun q => q⟩
instance {r : List V → Hp → VK → Prop} : Step (tCB r tl σ H Q) (tl σ H fun vs H1 => r vs H1 Q) := ⟨g_cb⟩
def rNewL (xs : List V) (H1 : Hp) (Q : VK) : Prop := xs.length ≤ sizeLine ∧ ∀ p, H1 p = none → Q (.ref p) (upd H1 p (.lst xs))
def rNewT (xs : List V) (H1 : Hp) (Q : VK) : Prop := xs.length ≤ sizeLine ∧ ∀ p, H1 p = none → Q (.ref p) (upd H1 p (.tup xs))
theorem g_newL {xs : List V} (hz : xs.length ≤ 100000) (q : ∀ p H2, H p = none → Ex H H2 → H2 p = some (.lst xs) → Q (.ref p) H2) : rNewL xs H Q := ⟨Nat.le_trans hz (by decide), fun p hp => q p _ hp (Ex.new hp) upd_same⟩
theorem g_newT {xs : List V} (hz : xs.length ≤ 100000) (q : ∀ p H2, H p = none → Ex H H2 → H2 p = some (.tup xs) → Q (.ref p) H2) : rNewT xs H Q := ⟨Nat.le_trans hz (by decide), fun p hp => q p _ hp (Ex.new hp) upd_same⟩
instance : Step (tLst tl σ H Q) (tl σ H fun xs H1 => rNewL xs H1 Q) := ⟨g_lst⟩
instance : Step (tTup tl σ H Q) (tl σ H fun xs H1 => rNewT xs H1 Q) := ⟨g_tup⟩
instance {i j : Int} : Step (rAdd K (.int i) (.int j) H Q) (Q (.int (i + j)) H) := ⟨g_add⟩
instance {i j : Int} : Step (rSub (.int i) (.int j) H Q) (Q (.int (i - j)) H) := ⟨g_sub⟩
instance {i j : Int} : Step (rLt (.int i) (.int j) H Q) (Q (.bl (decide (i < j))) H) := ⟨g_lt⟩
instance {i j : Int} : Step (rLe (.int i) (.int j) H Q) (Q (.bl (decide (i ≤ j))) H) := ⟨g_le⟩
instance {i j : Int} : Step (rGt (.int i) (.int j) H Q) (Q (.bl (decide (j < i))) H) := ⟨g_gt⟩
instance {i j : Int} : Step (rGe (.int i) (.int j) H Q) (Q (.bl (decide (j ≤ i))) H) := ⟨g_ge⟩
instance {i j : Int} : Step (rEqX K (.int i) (.int j) H Q) (Q (.bl (decide (i = j))) H) := ⟨g_eq⟩
instance {i j : Int} : Step (rNeX K (.int i) (.int j) H Q) (Q (.bl (!decide (i = j))) H) := ⟨g_ne⟩
instance {i j : Bool} : Step (rEqX K (.bl i) (.bl j) H Q) (Q (.bl (i == j)) H) := ⟨g_eqB⟩
instance {i j : Bool} : Step (rNeX K (.bl i) (.bl j) H Q) (Q (.bl (!(i == j))) H) := ⟨g_neB⟩
instance {i j : Str} : Step (rEqX K (.str i) (.str j) H Q) (Q (.bl (decide (i = j))) H) := ⟨g_eqS⟩
instance {i j : Str} : Step (rNeX K (.str i) (.str j) H Q) (Q (.bl (!decide (i = j))) H) := ⟨g_neS⟩
theorem g_isNn (q : Q (.bl true) H) : rIsN .non .non H Q := ⟨rfl, q⟩
theorem g_notNn (q : Q (.bl false) H) : rNotN .non .non H Q := ⟨rfl, q⟩
instance : Step (rIsN .non .non H Q) (Q (.bl true) H) := ⟨g_isNn⟩
instance : Step (rNotN .non .non H Q) (Q (.bl false) H) := ⟨g_notNn⟩
instance {i : Int} : Step (rIsN (.int i) .non H Q) (Q (.bl false) H) := ⟨fun q => ⟨rfl, q⟩⟩
instance {i : Int} : Step (rNotN (.int i) .non H Q) (Q (.bl true) H) := ⟨fun q => ⟨rfl, q⟩⟩
instance {p : Addr} : Step (rIsN (.ref p) .non H Q) (Q (.bl false) H) := ⟨fun q => ⟨rfl, q⟩⟩
instance {p : Addr} : Step (rNotN (.ref p) .non H Q) (Q (.bl true) H) := ⟨fun q => ⟨rfl, q⟩⟩
instance {z : Str} : Step (rIsN (.str z) .non H Q) (Q (.bl false) H) := ⟨fun q => ⟨rfl, q⟩⟩
instance {z : Str} : Step (rNotN (.str z) .non H Q) (Q (.bl true) H) := ⟨fun q => ⟨rfl, q⟩⟩
instance {i : Int} : Step (rInt [V.int i] H Q) (Q (.int i) H) := ⟨g_int⟩
instance {k : Bool} : Step (rInt [V.bl k] H Q) (Q (.int (if k then 1 else 0)) H) := ⟨g_intB⟩
instance {i : Int} : Step (rAbs [V.int i] H Q) (Q (.int (if i < 0 then -i else i)) H) := ⟨g_abs⟩
instance {i j : Int} : Step (rMax2 [V.int i, .int j] H Q) (Q (.int (if j > i then j else i)) H) := ⟨g_max2⟩
instance {i j : Int} : Step (rMin2 [V.int i, .int j] H Q) (Q (.int (if j < i then j else i)) H) := ⟨g_min2⟩
instance {g : Int → V} {i : Int} : Step (rU g (.int i) H Q) (Q (g i) H) := ⟨fun q => ⟨i, rfl, q⟩⟩
instance {to ti : TE} {ts : TSet} {R : L2.St → Hp → Prop} : Step (gSub to ti ts v σ H R) (to σ H fun o H1 => ti σ H1 fun i H2 => ts o i v H2 fun H3 => R σ H3) := ⟨g_gsub⟩
instance (priority := low) {g : TG} : Step (tAsg te g D σ H) (te σ H fun x H1 => g x σ H1 D.nx) := ⟨g_asgG⟩
instance {r : V → Option Int → Option Int → Hp → VK → Prop} {t1 t2 : TO} : Step (tSl r te t1 t2 σ H Q) (te σ H fun x H1 => t1 σ H1 fun l H2 => t2 σ H2 fun u H3 => r x l u H3 Q) := ⟨g_sl⟩
instance {R : Option Int → Hp → Prop} : Step (tNoPart σ H R) (R none H) := ⟨g_noPart⟩
instance {R : Option Int → Hp → Prop} : Step (tPart te σ H R) (te σ H fun x H1 => ∃ i, x = .int i ∧ R (some i) H1) := ⟨g_part⟩
instance {T : String} {r : V → List V → Hp → VK → Prop} : Step (tBM K T r te tl σ H Q) (te σ H fun x H1 => tyV K T x H1 ∧ tl σ H1 fun xs H2 => r x xs H2 Q) := ⟨g_bm⟩
instance {T : String} {r : V → List V → Hp → VK → Prop} : Step (tBM0 K T r te σ H Q) (te σ H fun x H1 => tyV K T x H1 ∧ r x [] H1 Q) := ⟨g_bm0⟩
instance {z : Str} {R : Prop} : Step (tyV K "str" (.str z) H ∧ R) R := ⟨g_tyS⟩
instance {A B : Prop} : Step (if true = true then A else B) A := ⟨iteT⟩
instance {A B : Prop} : Step (if false = true then A else B) B := ⟨iteF⟩
instance {A B : Prop} : Step (if (!false) = true then A else B) A := ⟨iteNT⟩
instance {A B : Prop} : Step (if (!true) = true then A else B) B := ⟨iteNF⟩
end

/-! ### loops -/
section
variable {K : PySem.W.Frag} {σ τ : L2.St} {H : Hp} {Q : VK} {j : Nat} {ta : TA} {te tl : TE} {tt : TT} {D : Ends} {tb : TS} {g : TG}
def rFor1 (vs : List V) (g : TG) (tb : TS) (D : Ends) (σ : L2.St) (H : Hp) : Prop := tFor (iRng1 fun _ H R => R vs H) g tb D σ H
def rFor2 (vs : List V) (g : TG) (tb : TS) (D : Ends) (σ : L2.St) (H : Hp) : Prop := tFor (iRng2 fun _ H R => R vs H) g tb D σ H
def rForL (K : PySem.W.Frag) (v : V) (g : TG) (tb : TS) (D : Ends) (σ : L2.St) (H : Hp) : Prop := tFor (iList K fun _ H R => R v H) g tb D σ H
instance : Step (tFor (iRng1 ta) g tb D σ H) (ta σ H fun vs H1 => rFor1 vs g tb D σ H1) := ⟨fun q => q⟩
instance : Step (tFor (iRng2 ta) g tb D σ H) (ta σ H fun vs H1 => rFor2 vs g tb D σ H1) := ⟨fun q => q⟩
instance : Step (tFor (iList K tl) g tb D σ H) (tl σ H fun v H1 => rForL K v g tb D σ H1) := ⟨fun q => q⟩
theorem for1 {n : Int} (Pv : Nat → L2.St → Hp → Prop) (hn : -(2 ^ 62) ≤ n ∧ n < 2 ^ 62) (h0 : Pv 0 σ H)
    (hs : ∀ (i : Nat) σ' H', (i : Int) < n → Pv i σ' H' → g (.int (i : Int)) σ' H' fun σ2 H2 => tb { D with nx := Pv (i + 1), ct := Pv (i + 1), bk := D.nx } σ2 H2) (hd : ∀ σ' H', Pv n.toNat σ' H' → D.nx σ' H') : rFor1 [.int n] g tb D σ H := by
  refine ⟨n, rfl, hn.1, hn.2, for_range (lo := 0) (n := n.toNat) Pv h0 (fun i σ' H' hi p => ?_) hd⟩
  rw [Int.zero_add]
  exact hs i σ' H' (by omega) p
theorem for2 {a n : Int} (Pv : Nat → L2.St → Hp → Prop) (hn : -(2 ^ 62) ≤ a ∧ a < 2 ^ 62 ∧ -(2 ^ 62) ≤ n ∧ n < 2 ^ 62) (h0 : Pv 0 σ H)
    (hs : ∀ (i : Nat) σ' H', a + (i : Int) < n → Pv i σ' H' → g (.int (a + (i : Int))) σ' H' fun σ2 H2 => tb { D with nx := Pv (i + 1), ct := Pv (i + 1), bk := D.nx } σ2 H2) (hd : ∀ σ' H', Pv (n - a).toNat σ' H' → D.nx σ' H') : rFor2 [.int a, .int n] g tb D σ H :=
  ⟨a, n, rfl, hn, for_range (lo := a) (n := (n - a).toNat) Pv h0 (fun i σ' H' hi p => hs i σ' H' (by omega) p) hd⟩
theorem forL {a : Addr} {xs : List V} (Pv : Nat → L2.St → Hp → Prop) (hx : SqL K H a xs) (h0 : Pv 0 σ H) (hl : ∀ i σ' H', i ≤ xs.length → Pv i σ' H' → SqL K H' a xs)
    (hs : ∀ (i : Nat) x σ' H', xs[i]? = some x → Pv i σ' H' → g x σ' H' fun σ2 H2 => tb { D with nx := Pv (i + 1), ct := Pv (i + 1), bk := D.nx } σ2 H2) (hd : ∀ σ' H', Pv xs.length σ' H' → D.nx σ' H') : rForL K (.ref a) g tb D σ H :=
  ⟨a, rfl, ⟨xs, hx⟩, for_list Pv h0 hl hs hd⟩
theorem ExB.l {b : Addr} {H H' : Hp} {a : Addr} {xs : List V} (e : ExB b H H') (n : a ≠ b) (h : SqL K H a xs) : SqL K H' a xs := by
  rcases h with (h | ⟨o, h⟩) | h
  · exact .inl (.inl (e a _ n h))
  · exact .inl (.inr ⟨o, e a _ n h⟩)
  · exact .inr h
/-- a for over a list whose turns change what stands at b alone -/
theorem forLB {a b : Addr} {xs : List V} (Pv : Nat → L2.St → Hp → Prop) (hx : SqL K H a xs) (hn : a ≠ b) (h0 : Pv 0 σ H)
    (hs : ∀ (i : Nat) x σ' H', xs[i]? = some x → ExB b H H' → Pv i σ' H' → g x σ' H' fun σ2 H2 => tb { D with nx := fun σ3 H3 => ExB b H H3 ∧ Pv (i + 1) σ3 H3, ct := fun σ3 H3 => ExB b H H3 ∧ Pv (i + 1) σ3 H3, bk := D.nx } σ2 H2)
    (hd : ∀ σ' H', ExB b H H' → Pv xs.length σ' H' → D.nx σ' H') : rForL K (.ref a) g tb D σ H :=
  forL (fun i σ' H' => ExB b H H' ∧ Pv i σ' H') hx ⟨ExB.refl _ _, h0⟩ (fun i σ' H' _ p => p.1.l hn hx) (fun i x σ' H' hi p => hs i x σ' H' hi p.1 p.2) (fun σ' H' p => hd σ' H' p.1 p.2)
/-- a list that stands and is not touched: what is done may change what is in W -/
class Wipe (σ : L2.St) (vs : List Nat) (τ : outParam L2.St) : Prop where
  eq : wipe σ vs = τ
instance : Wipe σ [] σ := ⟨rfl⟩
instance {v : Nat} {vs : List Nat} {ρ : L2.St} [h : Wipe σ vs ρ] [k : SetL ρ v none τ] : Wipe σ (v :: vs) τ := ⟨by show (wipe σ vs).set v none = τ; rw [h.eq, k.eq]⟩
def rLc1 (us : List V) (g : TG) (tt : TT) (te : TE) (vs : List Nat) (σ : L2.St) (H : Hp) (Q : VK) : Prop := tLc (iRng1 fun _ H R => R us H) g tt te vs σ H Q
def rLcL (K : PySem.W.Frag) (v : V) (g : TG) (tt : TT) (te : TE) (vs : List Nat) (σ : L2.St) (H : Hp) (Q : VK) : Prop := tLc (iList K fun _ H R => R v H) g tt te vs σ H Q
instance {vs : List Nat} : Step (tLc (iRng1 ta) g tt te vs σ H Q) (ta σ H fun us H1 => rLc1 us g tt te vs σ H1 Q) := ⟨fun q => q⟩
instance {vs : List Nat} : Step (tLc (iList K tl) g tt te vs σ H Q) (tl σ H fun v H1 => rLcL K v g tt te vs σ H1 Q) := ⟨fun q => q⟩
instance {QB : Bool → Hp → Prop} : Step (tYes σ H QB) (QB true H) := ⟨fun q => q⟩
def rW (D : Addr) (P : List V → Hp → Prop) (H' : Hp) : Prop := ∃ acc, H' D = some (.lst acc) ∧ P acc H'
def rApp (D : Addr) (W : Hp → Prop) (y : V) (H4 : Hp) : Prop := ∃ acc, H4 D = some (.lst acc) ∧ acc.length < sizeLine ∧ W (upd H4 D (.lst (acc ++ [y])))
theorem g_rapp {D : Addr} {P : List V → Hp → Prop} {y : V} {acc : List V} {H4 : Hp} (h : H4 D = some (.lst acc)) (hz : acc.length < 100000) (q : ∀ H5, ExB D H4 H5 → H5 D = some (.lst (acc ++ [y])) → P (acc ++ [y]) H5) : rApp D (rW D P) y H4 :=
  ⟨acc, h, Nat.lt_of_lt_of_le hz (by decide), _, upd_same, q _ ExB.upd upd_same⟩
theorem g_rW {D : Addr} {P : List V → Hp → Prop} {acc : List V} {H4 : Hp} (h : H4 D = some (.lst acc)) (q : P acc H4) : rW D P H4 := ⟨acc, h, q⟩
theorem lc1 {vs : List Nat} {n : Int} (Pv : Addr → Nat → List V → Hp → Prop) (hn : -(2 ^ 62) ≤ n ∧ n < 2 ^ 62) [hw : Wipe σ vs τ] (h0 : ∀ D H1, H D = none → Ex H H1 → H1 D = some (.lst []) → Pv D 0 [] H1)
    (hs : ∀ D (i : Nat) acc H', (i : Int) < n → H D = none → H' D = some (.lst acc) → Pv D i acc H' → g (.int (i : Int)) τ H' fun σ2 H2 => wipe σ2 vs = τ ∧ tt σ2 H2 fun b H3 =>
      if b = true then te σ2 H3 (rApp D (rW D (Pv D (i + 1)))) else rW D (Pv D (i + 1)) H3)
    (hd : ∀ D acc H', H D = none → H' D = some (.lst acc) → Pv D n.toNat acc H' → Q (.ref D) H') : rLc1 [.int n] g tt te vs σ H Q := by
  refine ⟨n, rfl, hn.1, hn.2, fun D hD => lc_range (lo := 0) (n := n.toNat) (fun i H' => rW D (Pv D i) H') ⟨[], upd_same, h0 D _ hD (Ex.new hD) upd_same⟩ (fun i H' hi p => ?_) (fun H' p => ?_)⟩
  · obtain ⟨acc, e, p⟩ := p
    rw [Int.zero_add, hw.eq]
    exact hs D i acc H' (by omega) hD e p
  · obtain ⟨acc, e, p⟩ := p
    exact hd D acc H' hD e p
theorem lcL {vs : List Nat} {a : Addr} {xs : List V} (Pv : Addr → Nat → List V → Hp → Prop) (hx : SqL K H a xs) [hw : Wipe σ vs τ] (h0 : ∀ D H1, H D = none → Ex H H1 → H1 D = some (.lst []) → Pv D 0 [] H1)
    (hl : ∀ D i acc H', i ≤ xs.length → H D = none → H' D = some (.lst acc) → Pv D i acc H' → SqL K H' a xs)
    (hs : ∀ D (i : Nat) x acc H', xs[i]? = some x → H D = none → H' D = some (.lst acc) → Pv D i acc H' → g x τ H' fun σ2 H2 => wipe σ2 vs = τ ∧ tt σ2 H2 fun b H3 =>
      if b = true then te σ2 H3 (rApp D (rW D (Pv D (i + 1)))) else rW D (Pv D (i + 1)) H3)
    (hd : ∀ D acc H', H D = none → H' D = some (.lst acc) → Pv D xs.length acc H' → Q (.ref D) H') : rLcL K (.ref a) g tt te vs σ H Q := by
  refine ⟨a, rfl, ⟨xs, hx⟩, fun D hD => lc_list (xs := xs) (fun i H' => rW D (Pv D i) H') ⟨[], upd_same, h0 D _ hD (Ex.new hD) upd_same⟩ (fun i H' hi p => ?_) (fun i x H' hi p => ?_) (fun H' p => ?_)⟩
  · obtain ⟨acc, e, p⟩ := p
    exact hl D i acc H' hi hD e p
  · obtain ⟨acc, e, p⟩ := p
    rw [hw.eq]
    exact hs D i x acc H' hi hD e p
  · obtain ⟨acc, e, p⟩ := p
    exact hd D acc H' hD e p
end

theorem rep_succ {i : Nat} : (List.replicate i true).map V.bl ++ [V.bl true] = (List.replicate (i + 1) true).map V.bl := by
  rw [List.replicate_succ', List.map_append]
  rfl
theorem rep_succD {i : Nat} {p : Prop} [Decidable p] (h : p) : (List.replicate i true).map V.bl ++ [V.bl (decide p)] = (List.replicate (i + 1) true).map V.bl := by
  rw [decide_eq_true h]
  exact rep_succ
section
variable {K : PySem.W.Frag} {σ τ : L2.St} {H : Hp} {Q : VK} {te : TE} {tt : TT} {g : TG}
/-- [e for x in xs], each True, what stood stands -/
theorem lcL_T {vs : List Nat} {a : Addr} {xs : List V} (hx : SqL K H a xs) (hz : xs.length < 100000) [hw : Wipe σ vs τ]
    (hs : ∀ D (i : Nat) x H', xs[i]? = some x → H D = none → Ex H H' → H' D = some (.lst ((List.replicate i true).map V.bl)) → ((List.replicate i true).map V.bl).length < 100000 → g x τ H' fun σ2 H2 => wipe σ2 vs = τ ∧ tt σ2 H2 fun b H3 =>
      if b = true then te σ2 H3 (rApp D (rW D fun acc H5 => acc = (List.replicate (i + 1) true).map V.bl ∧ Ex H H5)) else rW D (fun acc H5 => acc = (List.replicate (i + 1) true).map V.bl ∧ Ex H H5) H3)
    (hd : ∀ D H', H D = none → Ex H H' → H' D = some (.lst ((List.replicate xs.length true).map V.bl)) → Q (.ref D) H') : rLcL K (.ref a) g tt te vs σ H Q := by
  refine lcL (fun D i acc H' => acc = (List.replicate i true).map V.bl ∧ Ex H H') hx (fun D H1 _ e _ => ⟨rfl, e⟩) (fun D i acc H' _ _ _ p => p.2.l hx) (fun D i x acc H' hi hD hp p => ?_) (fun D acc H' hD hp p => ?_)
  · obtain ⟨rfl, e⟩ := p
    exact hs D i x H' hi hD e hp (by
      have := (List.getElem?_eq_some_iff.mp hi).1
      rw [List.length_map, List.length_replicate]
      omega)
  · obtain ⟨rfl, e⟩ := p
    exact hd D H' hD e hp
end

theorem app_I {P : Int → Prop} {ms : List Int} {m : Int} {i : Nat} {H H5 : Hp} (hl : ms.length = i) (hp : ∀ m ∈ ms, P m) (h : P m) (e : Ex H H5) : ∃ ns : List Int, ms.map V.int ++ [V.int m] = ns.map V.int ∧ ns.length = i + 1 ∧ (∀ m ∈ ns, P m) ∧ Ex H H5 :=
  ⟨ms ++ [m], by simp, by simp [hl], fun n hn => by
    rcases List.mem_append.mp hn with h1 | h1
    · exact hp n h1
    · rw [List.mem_singleton.mp h1]; exact h, e⟩
section
variable {K : PySem.W.Frag} {σ τ : L2.St} {H : Hp} {Q : VK} {te : TE} {tt : TT} {g : TG}
/-- [e for x in xs], each an int of which P holds -/
theorem lcL_I {vs : List Nat} {a : Addr} {xs : List V} (P : Int → Prop) (hx : SqL K H a xs) (hz : xs.length < 100000) [hw : Wipe σ vs τ]
    (hs : ∀ D (i : Nat) x (ms : List Int) H', xs[i]? = some x → H D = none → Ex H H' → H' D = some (.lst (ms.map V.int)) → ms.length = i → (∀ m ∈ ms, P m) → (ms.map V.int).length < 100000 → g x τ H' fun σ2 H2 => wipe σ2 vs = τ ∧ tt σ2 H2 fun b H3 =>
      if b = true then te σ2 H3 (rApp D (rW D fun acc H5 => ∃ ms : List Int, acc = ms.map V.int ∧ ms.length = i + 1 ∧ (∀ m ∈ ms, P m) ∧ Ex H H5)) else rW D (fun acc H5 => ∃ ms : List Int, acc = ms.map V.int ∧ ms.length = i + 1 ∧ (∀ m ∈ ms, P m) ∧ Ex H H5) H3)
    (hd : ∀ D H' (ms : List Int), H D = none → Ex H H' → H' D = some (.lst (ms.map V.int)) → ms.length = xs.length → (∀ m ∈ ms, P m) → Q (.ref D) H') : rLcL K (.ref a) g tt te vs σ H Q := by
  refine lcL (fun D i acc H' => ∃ ms : List Int, acc = ms.map V.int ∧ ms.length = i ∧ (∀ m ∈ ms, P m) ∧ Ex H H') hx (fun D H1 _ e _ => ⟨[], rfl, rfl, by simp, e⟩) (fun D i acc H' _ _ _ p => ?_) (fun D i x acc H' hi hD hp p => ?_) (fun D acc H' hD hp p => ?_)
  · obtain ⟨_, _, _, _, e⟩ := p
    exact e.l hx
  · obtain ⟨ms, rfl, hl, hP, e⟩ := p
    exact hs D i x ms H' hi hD e hp hl hP (by
      have := (List.getElem?_eq_some_iff.mp hi).1
      rw [List.length_map]
      omega)
  · obtain ⟨ms, rfl, hl, hP, e⟩ := p
    exact hd D H' ms hD e hp hl hP
end

section
variable {K : PySem.W.Frag} {σ : L2.St} {H : Hp} {R : L2.St → Hp → Prop} {v : V} {r : List V} {t : TG} {u : TGs}
instance : Step (gCons t u (v :: r) σ H R) (t v σ H fun σ' H' => u r σ' H' R) := ⟨fun q => ⟨v, r, rfl, q⟩⟩
instance : Step (gNil [] σ H R) (R σ H) := ⟨fun q => ⟨rfl, q⟩⟩
theorem g_gtup {a : Addr} {xs : List V} {n : Nat} (h : SqT K H a xs) (hn : xs.length = n) (q : u xs σ H R) : gTup K n u (.ref a) σ H R := ⟨a, xs, rfl, h, hn, q⟩
end
theorem g_str {H : Hp} {Q : VK} {i : Int} (h : -(2 ^ 200) < i ∧ i < 2 ^ 200) (q : (Str.ofString (toString i)).length ≤ 1921 → Q (.str (toString i)) H) : rStr [V.int i] H Q := by
  have h2 : i.natAbs.log2 < 1920 := Nat.lt_of_lt_of_le (PySem.Flt.log2_lt_of (k := 200) (by decide) (by omega)) (by decide)
  exact ⟨i, rfl, h2, q (PyProof.Rows.int_text_len_1921 h2)⟩
theorem g_all {K : PySem.W.Frag} {H : Hp} {Q : VK} {a : Addr} {bs : List Bool} (h : SqL K H a (bs.map V.bl)) (q : Q (.bl (bs.all _root_.id)) H) : rAll K [V.ref a] H Q := ⟨a, bs, rfl, h, q⟩
theorem g_allT {K : PySem.W.Frag} {H : Hp} {Q : VK} {a : Addr} {n : Nat} (h : SqL K H a ((List.replicate n true).map V.bl)) (q : Q (.bl true) H) : rAll K [V.ref a] H Q := ⟨a, _, rfl, h, by simpa using q⟩
theorem g_sum {K : PySem.W.Frag} {H : Hp} {Q : VK} {a : Addr} {ns : List Int} (h : SqL K H a (ns.map V.int)) (q : Q (.int ns.sum) H) : rSum K [V.ref a] H Q := ⟨a, ns, rfl, h, q⟩
theorem mulx128 {i j : Int} (h : -(2 ^ 300) < i ∧ i < 2 ^ 300) (h2 : -(2 ^ 300) < j ∧ j < 2 ^ 300) : CMulX i j := mulx_ok (a := 300) (b := 300) (by omega) (by omega) (by decide)
theorem q_int {H : Hp} {Q : VK} {a b : Int} (k : Q (.int a) H) (e : a = b) : Q (.int b) H := e ▸ k
theorem q_bl {H : Hp} {Q : VK} {a b : Bool} (k : Q (.bl a) H) (e : a = b) : Q (.bl b) H := e ▸ k
theorem q_dec {H : Hp} {Q : VK} {p : Prop} [Decidable p] (k : Q (.bl true) H) (e : p) : Q (.bl (decide p)) H := by rw [decide_eq_true e]; exact k
theorem q_decN {H : Hp} {Q : VK} {p : Prop} [Decidable p] (k : Q (.bl false) H) (e : ¬ p) : Q (.bl (decide p)) H := by rw [decide_eq_false e]; exact k
section
variable {K : PySem.W.Frag} {H : Hp} {Q : VK}
theorem g_isi {x c : V} {t u : Value} {b : Bool} (h1 : ClsV c u) (h2 : TyX K H x t) (h3 : PySem.W.kitOne K t u = some b) (q : Q (.bl b) H) : rIsi K [x, c] H Q := ⟨x, c, t, u, b, rfl, h1, h2, h3, q⟩
instance {i : Int} : Step (rIsi K [.int i, .ty "int"] H Q) (Q (.bl true) H) := ⟨g_isi (.ty _) (.base (.int i)) (kit_ty (by decide +kernel))⟩
instance {i : Int} : Step (rIsi K [.int i, .ty "bool"] H Q) (Q (.bl false) H) := ⟨g_isi (.ty _) (.base (.int i)) (kit_ty (by decide +kernel))⟩
instance {i : Bool} : Step (rIsi K [.bl i, .ty "int"] H Q) (Q (.bl true) H) := ⟨g_isi (.ty _) (.base (.bl i)) (kit_ty (by decide +kernel))⟩
instance {i : Bool} : Step (rIsi K [.bl i, .ty "bool"] H Q) (Q (.bl true) H) := ⟨g_isi (.ty _) (.base (.bl i)) (kit_ty (by decide +kernel))⟩
instance : Step (rIsi K [.non, .ty "int"] H Q) (Q (.bl false) H) := ⟨g_isi (.ty _) (.base .non) (kit_ty (by decide +kernel))⟩
instance : Step (rIsi K [.non, .ty "bool"] H Q) (Q (.bl false) H) := ⟨g_isi (.ty _) (.base .non) (kit_ty (by decide +kernel))⟩
instance {z : Str} : Step (rIsi K [.str z, .ty "str"] H Q) (Q (.bl true) H) := ⟨g_isi (.ty _) (.base (.str z)) (kit_ty (by decide +kernel))⟩
theorem g_isL {p : Addr} {xs : List V} (h : H p = some (.lst xs)) (q : Q (.bl true) H) : rIsi K [.ref p, .ty "list"] H Q := g_isi (.ty _) (.base (.lst h)) (kit_ty (by decide +kernel)) q
theorem g_isT {p : Addr} {xs : List V} (h : H p = some (.tup xs)) (q : Q (.bl true) H) : rIsi K [.ref p, .ty "tuple"] H Q := g_isi (.ty _) (.base (.tup h)) (kit_ty (by decide +kernel)) q
instance (priority := high) : Step (rInt [V.bl true] H Q) (Q (.int 1) H) := ⟨fun q => g_intB q⟩
instance (priority := high) : Step (rInt [V.bl false] H Q) (Q (.int 0) H) := ⟨fun q => g_intB q⟩
instance (priority := high) {p : Prop} [Decidable p] : Step (rInt [V.bl (decide p)] H Q) (Q (.int (if p then 1 else 0)) H) := ⟨fun q => g_intB (by
  by_cases h : p
  · rw [if_pos h] at q
    rw [decide_eq_true h]
    exact q
  · rw [if_neg h] at q
    rw [decide_eq_false h]
    exact q)⟩
end

/-! ### the same with the written part named (within a comprehension it must not speak of the block) -/
section
variable {X : Cx} {K : PySem.W.Frag}
theorem opAddK (h : X.K = K) : OpR X (binaryOp .Add) (rAdd K) := h ▸ opAdd
theorem opMulK (h : X.K = K) : OpR X (binaryOp .Mult) (rMul K) := h ▸ opMul
theorem opEqK (h : X.K = K) (hu : X.A.units + 64 < cLine) : OpR X (compareOp .Eq) (rEqX K) := h ▸ opEq hu
theorem opNeK (h : X.K = K) (hu : X.A.units + 64 < cLine) : OpR X (compareOp .NotEq) (rNeX K) := h ▸ opNe hu
theorem opInK (h : X.K = K) : OpR X (compareOp .In) (rIn K false) := h ▸ op_in_seq
theorem opNotInK (h : X.K = K) : OpR X (compareOp .NotIn) (rIn K true) := h ▸ op_notIn_seq
theorem ixSeqK (h : X.K = K) : IxR X (rIx K) := h ▸ ix_seq
theorem callLenK (h : X.K = K) : CallR X (.builtin "len") (rLen K) := h ▸ callLen
theorem callListOfK (h : X.K = K) : CallR X (.type "list") (rListOf K) := h ▸ callListOf
theorem slAnyK (h : X.K = K) : SlR X (rSlX K) := h ▸ slAny
theorem callSumK (h : X.K = K) (hc : X.calm = true) : CallR X (.builtin "sum") (rSum K) := h ▸ cr_sum hc
theorem callMinK (h : X.K = K) (hc : X.calm = true) : CallR X (.builtin "min") (rMin K) := h ▸ cr_min hc
theorem callMaxK (h : X.K = K) (hc : X.calm = true) : CallR X (.builtin "max") (rMax K) := h ▸ cr_max hc
theorem callAllK (h : X.K = K) (hc : X.calm = true) : CallR X (.builtin "all") (rAll K) := h ▸ cr_all hc
theorem callAnyK (h : X.K = K) (hc : X.calm = true) : CallR X (.builtin "any") (rAny K) := h ▸ cr_any hc
theorem callIsiK (h : X.K = K) : CallR X (.builtin "isinstance") (rIsi K) := h ▸ call_isi
theorem mtIndexK (h : X.K = K) : MtR X "list.index" (rIndex K) := h ▸ mt_index
variable {o e : Expr} {es : List Expr} {to : TE} {t : TA} {name : Str} {apos cpos : Pos} {T id : String} {r : V → List V → Hp → VK → Prop}
theorem pe_bm0K (h : X.K = K) (pa : PlainAttrs T) (slot : Slot T name id) (hty : typeOf (.builtin id) = pure (.type "method_descriptor")) (hm : MtR X id r) (ho : PE X o to)
    (hbase : attributeBase o name X.env (eval o X.env) = eval o X.env := by rfl) (hline : (apos.endLine == cpos.line) = true := by rfl) : PE X (.Call (.Attribute o name apos) [] [] cpos) (tBM0 K T r to) := h ▸ pe_bm0 pa slot hty hm ho hbase hline
theorem pe_bmK (h : X.K = K) (pa : PlainAttrs T) (slot : Slot T name id) (hty : typeOf (.builtin id) = pure (.type "method_descriptor")) (hm : MtR X id r) (ho : PE X o to) (ha : PA X (e :: es) t)
    (hbase : attributeBase o name X.env (eval o X.env) = eval o X.env := by rfl)
    (hfew : ((backTo cpos (starEach (e :: es) X.env)).all (fun x => !x.1) && (backToKw cpos (keywordEach [] X.env)).all (fun x => x.1.isSome)
      && decide ((e :: es).length + ([] : List Keyword).length + (if ([] : List Keyword).isEmpty then 0 else 1) < 30)) = true := by rfl)
    (hline : (apos.endLine == cpos.line) = true := by rfl) (hs : starEach (e :: es) X.env = (false, eval e X.env) :: starEach es X.env := by rfl) (hplain : (backTo cpos (starEach es X.env)).any (·.1) = false := by rfl) :
    PE X (.Call (.Attribute o name apos) (e :: es) [] cpos) (tBM K T r to t) := h ▸ pe_bm pa slot hty hm ho ha hbase hfew hline hs hplain
theorem pi_listK {tg l : Expr} {tl : TE} (h : X.K = K) (hl : PE X l tl) : PI X tg l (iList K tl) := h ▸ pi_list hl
end
theorem cdivW {j : Int} {i : Int} (h : 0 < j) (h2 : j < 2 ^ 200) : CDivW i j := wide_div (b := 200) h (by omega) (by decide) (by decide)

section
variable {K : PySem.W.Frag} {H : Hp} {Q : VK} {lo hi : Option Int}
theorem g_slL {p : Addr} {xs : List V} (h : SqL K H p xs) (q : ∀ p H2, H p = none → Ex H H2 → H2 p = some (.lst (cutV xs lo hi)) → Q (.ref p) H2) : rSlX K (.ref p) lo hi H Q :=
  .inl ⟨p, xs, rfl, h, g_new q⟩
theorem g_slS {z : Str} (h : z.length ≤ 100000) (q : Q (.str (cutS z lo hi)) H) : rSlX K (.str z) lo hi H Q :=
  .inr (.inl ⟨z, rfl, Nat.le_trans h (by decide), q⟩)
theorem g_listOf {p : Addr} {xs : List V} (h : SqL K H p xs) (q : ∀ p H2, H p = none → Ex H H2 → H2 p = some (.lst xs) → Q (.ref p) H2) :
    rListOf K [V.ref p] H Q := ⟨p, xs, rfl, .inl h, g_new q⟩
end
end Gx



set_option Elab.async false
set_option linter.all false
set_option maxRecDepth 100000
set_option maxHeartbeats 4000000
namespace Toy
open PySem PySem.Spec PyProof.Rows L2 Gx
def top (i : Nat) : Stmt := PySem.Challenge.pw_carrylog_k04_edges_of_segments.main.body.getD i (.Pass ⟨0, 0, 0, 0⟩)
section
variable {P : Program} {w : World} {K : PySem.W.Frag} {mg : Str → Option Value} {base : Heap}

local macro_rules | `(tactic| walk_at "ne") => `(tactic| first | assumption | (apply Ne.symm; assumption) | (refine' Gx.ne_new ?a ?n; (case n => assumption); (case a => walk_at "some")) | (apply Ne.symm; refine' Gx.ne_new ?a ?n; (case n => assumption); (case a => walk_at "some")))
local macro_rules | `(tactic| walk_at "hp") => `(tactic| first | assumption | exact L2.upd_same | (refine Gx.Ex.at (by assumption) ?_; walk_at "hp") | (refine Gx.ExB.at (by assumption) (by walk_at "ne") ?_; walk_at "hp"))
local macro_rules | `(tactic| walk_at "sq") => `(tactic| first | assumption | exact Gx.sq_of (by walk_at "hp") | (refine Gx.Ex.l (by assumption) ?_; walk_at "sq"))
local macro_rules | `(tactic| walk_at "st") => `(tactic| first | assumption | exact Gx.st_of (by walk_at "hp") | (refine Gx.Ex.t (by assumption) ?_; walk_at "st"))
local macro_rules | `(tactic| walk_at "call") => `(tactic| fail)
local macro_rules | `(tactic| walk_at "go1") => `(tactic| first
  | refine Gx.Step.run ?_
  | ((with_reducible show Gx.rMul _ _ _ _ _); first
    | with_reducible refine Gx.g_mulR (by omega) ?_
    | with_reducible refine Gx.g_mulL (by omega) ?_
    | with_reducible refine Gx.g_mulS (by omega) ?_
    | with_reducible refine Gx.g_mulX (Gx.mulx128 (by omega) (by omega)) ?_)
  | ((with_reducible show Gx.rMod _ _ _ _); with_reducible refine Gx.g_mod (by omega) ?_)
  | ((with_reducible show Gx.rDiv _ _ _ _); with_reducible refine Gx.g_div (Gx.cdivW (by omega) (by omega)) ?_)
  | ((with_reducible show L2.rIx _ _ _ _ _); first
    | with_reducible refine Gx.g_ixL (by walk_at "sq") (by with_unfolding_all rfl) ?_
    | with_reducible refine Gx.g_ixI (by walk_at "sq") (by omega) (by omega) ?_
    | with_reducible refine Gx.g_ixT (by walk_at "st") (by with_unfolding_all rfl) ?_)
  | ((with_reducible show Gx.rLen _ _ _ _); first
    | with_reducible refine Gx.g_len (Gx.len_l (by walk_at "sq")) ?_
    | with_reducible refine Gx.g_len (Gx.len_t (by walk_at "st")) ?_
    | with_reducible refine Gx.g_len (Gx.len_s (by omega)) ?_)
  | ((with_reducible show Gx.rNewL _ _ _); (with_reducible refine Gx.g_newL (by first | assumption | exact Nat.le_of_ble_eq_true rfl | omega | (simp only [List.length_append, List.length_cons, List.length_nil, List.length_map, List.length_replicate]; omega)) ?_; intro p_ H_ np_ e_ hp_))
  | ((with_reducible show Gx.rNewT _ _ _); (with_reducible refine Gx.g_newT (by first | assumption | exact Nat.le_of_ble_eq_true rfl | omega | (simp only [List.length_append, List.length_cons, List.length_nil, List.length_map, List.length_replicate]; omega)) ?_; intro p_ H_ np_ e_ hp_))
  | ((with_reducible show Gx.rSlX _ _ _ _ _ _); (with_reducible refine Gx.g_slL (by walk_at "sq") ?_; intro p_ H_ np_ e_ hp_))
  | ((with_reducible show Gx.rListOf _ _ _ _); (with_reducible refine Gx.g_listOf (by walk_at "sq") ?_; intro p_ H_ np_ e_ hp_))
  | ((with_reducible show L2.rSetL _ _ _ _ _); (with_reducible refine Gx.g_set (by walk_at "hp") (by with_unfolding_all rfl) ?_; intro H_ e_ hp_; simp only [Int.reduceToNat, List.set_cons_zero, List.set_cons_succ] at hp_))
  | ((with_reducible show L2.rAppend _ _ _ _); (with_reducible refine Gx.g_app (by walk_at "hp") (by first | assumption | exact Nat.le_of_ble_eq_true rfl | omega | (simp only [List.length_append, List.length_cons, List.length_nil, List.length_map, List.length_replicate]; omega)) ?_; intro H_ e_ hp_))
  | ((with_reducible show (L2.tyV _ "list" _ _ ∧ _)); with_reducible refine Gx.g_tyL (by walk_at "sq") ?_)
  | ((with_reducible show Gx.rPow _ _ _ _); with_reducible refine Gx.g_pow (Gx.cpow_ok (by decide) (by decide) (by decide)) (by simp only [Int.reduceToNat, Int.reducePow]; exact rfl) ?_)
  | ((with_reducible show Gx.rApp _ _ _ _); (with_reducible refine Gx.g_rapp (by walk_at "hp") (by first | assumption | exact Nat.le_of_ble_eq_true rfl | omega | (simp only [List.length_append, List.length_cons, List.length_nil, List.length_map, List.length_replicate]; omega)) ?_; intro H_ e_ hp_))
  | ((with_reducible show Gx.rW _ _ _); (with_reducible refine Gx.g_rW (by walk_at "hp") ?_))
  | ((with_reducible show L2.rSum _ _ _ _); (with_reducible refine Gx.g_sum (by walk_at "sq") ?_))
  | ((with_reducible show Gx.rStr _ _ _); (with_reducible refine Gx.g_str (by omega) ?_; intro hz_))
  | ((with_reducible show (L2.wipe _ _ = _ ∧ _)); refine ⟨rfl, ?_⟩)
  | ((with_reducible show L2.rAll _ _ _ _); first | refine Gx.g_allT (by walk_at "sq") ?_ | refine Gx.g_all (by walk_at "sq") ?_)
  | ((with_reducible show (List.length _ = _ ∧ List.length _ = _ ∧ _)); refine ⟨rfl, rfl, ?_⟩)
  | ((with_reducible show L2.rIsi _ [V.ref _, V.ty "list"] _ _); refine Gx.g_isL (by walk_at "hp") ?_)
  | ((with_reducible show L2.rIsi _ [V.ref _, V.ty "tuple"] _ _); refine Gx.g_isT (by walk_at "hp") ?_)
  | ((with_reducible show L2.gTup _ _ _ _ _ _ _); refine Gx.g_gtup (by walk_at "st") (by rfl) ?_)
  | walk_at "call")
local macro_rules | `(tactic| walk_at "go") => `(tactic| repeat walk_at "go1")
local macro_rules | `(tactic| walk_at "if1") => `(tactic| first
  | with_reducible refine Gx.g_ite (fun hI => ?_) (fun hI => ?_)
  | with_reducible refine Gx.g_iteN (fun hI => ?_) (fun hI => ?_)
  | with_reducible refine Gx.g_itB (fun hI => ?_) (fun hI => ?_)
  | with_reducible refine Gx.g_itNB (fun hI => ?_) (fun hI => ?_))
local macro_rules | `(tactic| walk_at "gos") => `(tactic| (walk_at "go"; first | (walk_at "if1" <;> first | (exfalso; omega) | walk_at "gos") | skip))
local macro_rules | `(tactic| walk_at "some") => `(tactic| first | (refine ⟨_, ?_⟩; walk_at "hp"))
local macro_rules | `(tactic| walk_at "fr") => `(tactic| first | assumption | (refine' Gx.Ex.none ?e ?n; (case n => assumption); (case e => walk_at "ex")) | (refine' Gx.ExB.none ?e ?n ?b; (case n => assumption); (case e => walk_at "exb"); (case b => walk_at "some")))
local macro_rules | `(tactic| walk_at "ex") => `(tactic| first | assumption | exact Gx.Ex.refl _ | (refine Gx.Ex.trans ?_ (by assumption); walk_at "ex") | (refine' Gx.Ex.mutB ?a ?n ?c; (case c => assumption); (case n => walk_at "fr"); (case a => walk_at "ex")))
local macro_rules | `(tactic| walk_at "exb") => `(tactic| first | assumption | exact Gx.ExB.refl _ _ | (refine Gx.ExB.trans ?_ (by assumption); walk_at "exb") | (refine Gx.ExB.trans ?_ (Gx.Ex.b (by assumption)); walk_at "exb") | (refine' Gx.ExB.mutB ?a ?n ?c; (case c => assumption); (case n => walk_at "fr"); (case a => walk_at "exb")))
local macro_rules | `(tactic| walk_at "sz") => `(tactic| first | assumption | exact Nat.le_of_ble_eq_true rfl | omega | (simp only [List.length_append, List.length_cons, List.length_nil, List.length_map, List.length_replicate]; omega))


def Bag (b : Addr) (H : Hp) : Prop := ∃ cell cnt seed : Int, H b = some (.lst [.int cell, .int cnt, .int seed])
theorem Bag.ex {b : Addr} {H H' : Hp} (e : Ex H H') (h : Bag b H) : Bag b H' := by
  obtain ⟨c, n, s, h⟩ := h
  exact ⟨c, n, s, e _ _ h⟩
theorem Bag.exb {a b : Addr} {H H' : Hp} (e : ExB a H H') (n : b ≠ a) (h : Bag b H) : Bag b H' := by
  obtain ⟨c, n', s, h⟩ := h
  exact ⟨c, n', s, e _ _ n h⟩
local macro_rules | `(tactic| walk_at "bx") => `(tactic| first | assumption | (refine Bag.ex (by assumption) ?_; walk_at "bx") | (refine Bag.exb (by assumption) (by walk_at "ne") ?_; walk_at "bx"))
theorem Bag.some {b : Addr} {H : Hp} (h : Bag b H) : ∃ o, H b = Option.some o := by
  obtain ⟨c, n, s, h⟩ := h
  exact ⟨_, h⟩
local macro_rules | `(tactic| walk_at "some") => `(tactic| exact Bag.some (by walk_at "bx"))
def spBag (K : PySem.W.Frag) : Sp := fun vs H Q _ => ∃ (a : Addr) (ns : List Int) (k : Int), vs = [.ref a, .int k] ∧ (SqL K H a (ns.map V.int) ∧ 0 ≤ k ∧ k < 2 ^ 40) ∧ ∀ b H', H b = none → Ex H H' → Bag b H' → Q (.ref b) H'
abbrev s_law_bag : Stmt := (top 14)
abbrev N_law_bag : List Str := ["_law_script", "_law_k", "_law_cell", "_law_seed"]
theorem sc_law_bag : FnScope N_law_bag ["_law_script", "_law_k"] (defScope s_law_bag) := ⟨rfl, rfl, rfl, by decide +kernel, rfl, by decide +kernel, by decide +kernel⟩
theorem cl_law_bag (T : Bl mg) (D : Df K mg "_law_bag" s_law_bag ["_law_script", "_law_k"])  : Cl P w K mg base 1 "_law_bag" ["_law_script", "_law_k"] (spBag K) := by
  have nd := sc_law_bag.nd
  refine D.ok sc_law_bag (fun vs H Q E h => ?_) (fun f cdv A outer s H vs Q E hr h => ?_)
  · obtain ⟨a, ns, k, rfl, _⟩ := h
    rfl
  · obtain ⟨a, ns, k, rfl, ⟨hs, hk, hk2⟩, c⟩ := h
    have hu := hu64 hr
    refine ⟨_, (pss_cons (ps_set (i := 2) nd rfl (Or.inl rfl) pe_int)
    (pss_cons (ps_set (i := 3) nd rfl (Or.inl rfl) (pe_op (opAddK (K := K) (by rfl)) (pe_op (opMulK (K := K) (by rfl)) (pe_op opMod (pe_callTy callInt (by rfl) T.int (by decide +kernel) (pa_cons (pe_callB (callSumK (K := K) (by rfl) rfl) (by rfl) T.sum (by decide +kernel) (pa_cons (pv 0) pa_nil)) pa_nil)) pe_int) pe_int) (pe_op (opMulK (K := K) (by rfl)) pe_int (pv 1))))
    (pss_cons (ps_if (pt_cmpR opLt (pv 1) (pe_callB (callLenK (K := K) (by rfl)) (by rfl) T.len (by decide +kernel) (pa_cons (pv 0) pa_nil)) (nomark _))
      (pss_cons (ps_set (i := 2) nd rfl (Or.inl rfl) (pe_callB callAbs (by rfl) T.abs (by decide +kernel) (pa_cons (pe_callTy callInt (by rfl) T.int (by decide +kernel) (pa_cons (pe_ix (ixSeqK (K := K) (by rfl)) (pv 0) (pv 1) (fun _ _ => rfl)) pa_nil)) pa_nil)))
    (pss_one (ps_set (i := 3) nd rfl (Or.inl rfl) (pe_op (opAddK (K := K) (by rfl)) (pe_op (opAddK (K := K) (by rfl)) (pe_op opMod (pe_callTy callInt (by rfl) T.int (by decide +kernel) (pa_cons (pv 2) pa_nil)) pe_int) (pe_op (opMulK (K := K) (by rfl)) pe_int (pe_callTy callInt (by rfl) T.int (by decide +kernel) (pa_cons (pe_cmpR opLt (pe_ix (ixSeqK (K := K) (by rfl)) (pv 0) (pv 1) (fun _ _ => rfl)) pe_int (nomark _)) pa_nil)))) (pe_op (opMulK (K := K) (by rfl)) pe_int (pv 1))))))
      pss_nil)
    (pss_cons (ps_if (pt_cmpR opLt (pv 2) (pe_op opPow pe_int pe_int) (nomark _))
      (pss_one (ps_set (i := 2) nd rfl (Or.inl rfl) pe_int))
      pss_nil)
    (pss_one (ps_ret (pe_lst (pa_cons (pv 2) (pa_cons pe_int (pa_cons (pv 3) pa_nil)))))))))), ?_⟩
    try dsimp only [L2.cxOf, L2.Cx.nox]
    simp only [L2.start, N_law_bag, List.map_cons, List.map_nil, List.length_cons, List.length_nil, Nat.reduceAdd, Nat.reduceSub, List.replicate_succ, List.replicate_zero, List.cons_append, List.nil_append]

    walk_at "gos"
    all_goals exact c _ _ (by walk_at "fr") (by walk_at "ex") ⟨_, _, _, by walk_at "hp"⟩
def spTake : Sp := fun vs H Q _ => ∃ (b : Addr) (size : Int), vs = [.ref b, .int size] ∧ (Bag b H ∧ 0 < size ∧ size < 2 ^ 200) ∧ ∀ d H', 0 ≤ d → d < size → ExB b H H' → Bag b H' → Q (.int d) H'
theorem use_take {b : Addr} {size : Int} {H : Hp} {Q : VK} {E : XK} (hb : Bag b H) (h1 : 0 < size) (h2 : size < 2 ^ 200) (q : ∀ d H', 0 ≤ d → d < size → ExB b H H' → Bag b H' → Q (.int d) H') : spTake ([.ref b, .int size] ++ []) H Q E := ⟨b, size, rfl, ⟨hb, h1, h2⟩, q⟩
abbrev s_law_take : Stmt := (top 15)
abbrev N_law_take : List Str := ["_law_bag_here", "_law_size", "_law_digit", "_law_found", "_law_turn", "_law_one", "_law_two"]
theorem sc_law_take : FnScope N_law_take ["_law_bag_here", "_law_size"] (defScope s_law_take) := ⟨rfl, rfl, rfl, by decide +kernel, rfl, by decide +kernel, by decide +kernel⟩
theorem cl_law_take (T : Bl mg) (D : Df K mg "_law_take" s_law_take ["_law_bag_here", "_law_size"])  : Cl P w K mg base 1 "_law_take" ["_law_bag_here", "_law_size"] spTake := by
  have nd := sc_law_take.nd
  refine D.ok sc_law_take (fun vs H Q E h => ?_) (fun f cdv A outer s H vs Q E hr h => ?_)
  · obtain ⟨b, size, rfl, _⟩ := h
    rfl
  · obtain ⟨b, size, rfl, ⟨⟨cell, cnt, seed, hb⟩, hm, hm2⟩, k⟩ := h
    have hu := hu64 hr
    refine ⟨_, (pss_cons (ps_if (pt_cmpR opGt (pe_ix (ixSeqK (K := K) (by rfl)) (pv 0) pe_int (fun _ _ => rfl)) pe_int (nomark _))
      (pss_cons (ps_set (i := 2) nd rfl (Or.inl rfl) (pe_op opMod (pe_callTy callInt (by rfl) T.int (by decide +kernel) (pa_cons (pe_ix (ixSeqK (K := K) (by rfl)) (pv 0) pe_int (fun _ _ => rfl)) pa_nil)) (pv 1)))
    (pss_cons (ps_asg (pe_op opDiv (pe_ix (ixSeqK (K := K) (by rfl)) (pv 0) pe_int (fun _ _ => rfl)) (pv 1)) (pg_sub (pv 0) pe_int set_list))
    (pss_one (ps_ret (pv 2)))))
      pss_nil)
    (pss_cons (ps_set (i := 3) nd rfl (Or.inl rfl) pe_int)
    (pss_cons (ps_for PassesOwn.never rfl (pi_range1 rfl T.range (pa_cons (pe_op (opAddK (K := K) (by rfl)) pe_int (pe_op opDiv (pe_callB (callLenK (K := K) (by rfl)) (by rfl) T.len (by decide +kernel) (pa_cons (pe_callTy callStr (by rfl) T.str (by decide +kernel) (pa_cons (pv 1) pa_nil)) pa_nil)) pe_int)) pa_nil)) (pg_name (i := 4) nd rfl (Or.inl rfl))
      (pss_cons (ps_asg (pe_op (opAddK (K := K) (by rfl)) (pe_ix (ixSeqK (K := K) (by rfl)) (pv 0) pe_int (fun _ _ => rfl)) pe_int) (pg_sub (pv 0) pe_int set_list))
    (pss_cons (ps_set (i := 5) nd rfl (Or.inl rfl) (pe_op opMod (pe_callTy callInt (by rfl) T.int (by decide +kernel) (pa_cons (pe_op (opAddK (K := K) (by rfl)) (pe_op (opAddK (K := K) (by rfl)) (pe_op (opMulK (K := K) (by rfl)) (pe_ix (ixSeqK (K := K) (by rfl)) (pv 0) pe_int (fun _ _ => rfl)) pe_int) (pe_op (opMulK (K := K) (by rfl)) (pe_ix (ixSeqK (K := K) (by rfl)) (pv 0) pe_int (fun _ _ => rfl)) pe_int)) pe_int) pa_nil)) pe_int))
    (pss_cons (ps_set (i := 6) nd rfl (Or.inl rfl) (pe_op opMod (pe_callTy callInt (by rfl) T.int (by decide +kernel) (pa_cons (pe_op (opAddK (K := K) (by rfl)) (pe_op (opAddK (K := K) (by rfl)) (pe_op (opMulK (K := K) (by rfl)) (pv 5) (pv 5)) (pe_op (opMulK (K := K) (by rfl)) (pe_ix (ixSeqK (K := K) (by rfl)) (pv 0) pe_int (fun _ _ => rfl)) pe_int)) pe_int) pa_nil)) pe_int))
    (pss_one (ps_set (i := 3) nd rfl (Or.inl rfl) (pe_op (opAddK (K := K) (by rfl)) (pe_op (opMulK (K := K) (by rfl)) (pv 3) pe_int) (pe_op opDiv (pe_op opMod (pe_callTy callInt (by rfl) T.int (by decide +kernel) (pa_cons (pe_op (opAddK (K := K) (by rfl)) (pe_op (opMulK (K := K) (by rfl)) (pv 6) (pv 6)) (pv 5)) pa_nil)) pe_int) pe_int))))))))
    (pss_one (ps_ret (pe_op opMod (pe_callTy callInt (by rfl) T.int (by decide +kernel) (pa_cons (pv 3) pa_nil)) (pv 1))))))), ?_⟩
    try dsimp only [L2.cxOf, L2.Cx.nox]
    simp only [L2.start, N_law_take, List.map_cons, List.map_nil, List.length_cons, List.length_nil, Nat.reduceAdd, Nat.reduceSub, List.replicate_succ, List.replicate_zero, List.cons_append, List.nil_append]

    walk_at "gos"
    · exact k _ _ (Int.emod_nonneg _ (by omega)) (Int.emod_lt_of_pos _ hm) (by walk_at "exb") ⟨_, _, _, by walk_at "hp"⟩
    · refine Gx.for1 (fun i σ' H' => ∃ (found cnt' : Int) (a3 a4 a5 a6 : Option V), σ' = [some (.ref b), some (.int size), a3, some (.int found), a4, a5, a6] ∧ ExB b H H' ∧ H' b = some (.lst [.int cell, .int cnt', .int seed])) (by omega) ⟨0, cnt, none, none, none, none, rfl, ExB.refl _ _, hb⟩ ?_ ?_
      · rintro i σ' H' hi ⟨found, cnt', a3, a4, a5, a6, rfl, e, hb'⟩
        walk_at "gos"
        exact ⟨_, _, _, _, _, _, rfl, by walk_at "exb", by walk_at "hp"⟩
      · rintro σ' H' ⟨found, cnt', a3, a4, a5, a6, rfl, e, hb'⟩
        walk_at "gos"
        exact k _ _ (Int.emod_nonneg _ (by omega)) (Int.emod_lt_of_pos _ hm) (by walk_at "exb") ⟨_, _, _, by walk_at "hp"⟩
local macro_rules | `(tactic| walk_at "call") => `(tactic| ((with_reducible show spTake _ _ _ _); refine use_take (by walk_at "bx") (by omega) (by omega) ?_; intro d_ H_ h0_ h1_ e_ hB_))

theorem div_le {d n : Int} (h : 0 ≤ d) (hn : 0 < n) : 0 ≤ d / n ∧ d / n ≤ d := ⟨Int.ediv_nonneg h (by omega), Int.ediv_le_self _ h⟩
def spNumber : Sp := fun vs H Q _ => ∃ (b : Addr) (most : Int), vs = [.ref b, .int most] ∧ (Bag b H ∧ 0 ≤ most ∧ most < 2 ^ 190) ∧ ∀ d H', 0 ≤ d → d ≤ most → ExB b H H' → Bag b H' → Q (.int d) H'
theorem use_number {b : Addr} {most : Int} {H : Hp} {Q : VK} {E : XK} (hb : Bag b H) (h1 : 0 ≤ most) (h2 : most < 2 ^ 190) (q : ∀ d H', 0 ≤ d → d ≤ most → ExB b H H' → Bag b H' → Q (.int d) H') : spNumber ([.ref b, .int most] ++ []) H Q E := ⟨b, most, rfl, ⟨hb, h1, h2⟩, q⟩
abbrev s_law_number : Stmt := (top 16)
abbrev N_law_number : List Str := ["_law_bag_here", "_law_most_here", "_law_way"]
theorem sc_law_number : FnScope N_law_number ["_law_bag_here", "_law_most_here"] (defScope s_law_number) := ⟨rfl, rfl, rfl, by decide +kernel, rfl, by decide +kernel, by decide +kernel⟩
theorem cl_law_number (T : Bl mg) (D : Df K mg "_law_number" s_law_number ["_law_bag_here", "_law_most_here"]) (C_law_take : Cl P w K mg base 1 "_law_take" ["_law_bag_here", "_law_size"] spTake) : Cl P w K mg base 2 "_law_number" ["_law_bag_here", "_law_most_here"] spNumber := by
  have nd := sc_law_number.nd
  refine D.ok sc_law_number (fun vs H Q E h => ?_) (fun f cdv A outer s H vs Q E hr h => ?_)
  · obtain ⟨b, most, rfl, _⟩ := h
    rfl
  · obtain ⟨b, most, rfl, ⟨hb, hm, hm2⟩, k⟩ := h
    have hu := hu64 hr
    refine ⟨_, (pss_cons (ps_set (i := 2) nd rfl (Or.inl rfl) (pe_cl C_law_take (by exact hr.mono (by decide)) (pa_cons (pv 0) (pa_cons pe_int pa_nil))))
    (pss_cons (ps_if (pt_cmpR opLt (pv 2) pe_int (nomark _))
      (pss_one (ps_ret (pe_callB (callMin2 rfl) (by rfl) T.min (by decide +kernel) (pa_cons (pv 1) (pa_cons (pe_cl C_law_take (by exact hr.mono (by decide)) (pa_cons (pv 0) (pa_cons pe_int pa_nil))) pa_nil)))))
      pss_nil)
    (pss_cons (ps_if (pt_cmpR (opEqK (K := K) (by rfl) (by exact hu)) (pv 2) pe_int (nomark _))
      (pss_one (ps_ret (pe_callB (callMin2 rfl) (by rfl) T.min (by decide +kernel) (pa_cons (pv 1) (pa_cons (pe_cl C_law_take (by exact hr.mono (by decide)) (pa_cons (pv 0) (pa_cons pe_int pa_nil))) pa_nil)))))
      pss_nil)
    (pss_cons (ps_if (pt_cmpR (opEqK (K := K) (by rfl) (by exact hu)) (pv 2) pe_int (nomark _))
      (pss_one (ps_ret (pe_op opSub (pv 1) (pe_cl C_law_take (by exact hr.mono (by decide)) (pa_cons (pv 0) (pa_cons (pe_callB (callMin2 rfl) (by rfl) T.min (by decide +kernel) (pa_cons (pe_op (opAddK (K := K) (by rfl)) (pv 1) pe_int) (pa_cons pe_int pa_nil))) pa_nil))))))
      pss_nil)
    (pss_cons (ps_if (pt_cmpR (opEqK (K := K) (by rfl) (by exact hu)) (pv 2) pe_int (nomark _))
      (pss_one (ps_ret (pe_op opDiv (pe_cl C_law_take (by exact hr.mono (by decide)) (pa_cons (pv 0) (pa_cons (pe_op (opAddK (K := K) (by rfl)) (pv 1) pe_int) pa_nil))) (pe_op (opAddK (K := K) (by rfl)) pe_int (pe_cl C_law_take (by exact hr.mono (by decide)) (pa_cons (pv 0) (pa_cons (pe_op opPow pe_int pe_int) pa_nil)))))))
      pss_nil)
    (pss_one (ps_ret (pe_cl C_law_take (by exact hr.mono (by decide)) (pa_cons (pv 0) (pa_cons (pe_op (opAddK (K := K) (by rfl)) (pv 1) pe_int) pa_nil)))))))))), ?_⟩
    try dsimp only [L2.cxOf, L2.Cx.nox]
    simp only [L2.start, N_law_number, List.map_cons, List.map_nil, List.length_cons, List.length_nil, Nat.reduceAdd, Nat.reduceSub, List.replicate_succ, List.replicate_zero, List.cons_append, List.nil_append]

    walk_at "gos"
    all_goals first
      | exact k _ _ (by omega) (by omega) (by walk_at "exb") (by walk_at "bx")
      | exact k _ _ (div_le (by omega) (by omega)).1 (Int.le_trans (div_le (by omega) (by omega)).2 (by omega)) (by walk_at "exb") (by walk_at "bx")
local macro_rules | `(tactic| walk_at "call") => `(tactic| ((with_reducible show spNumber _ _ _ _); refine use_number (by walk_at "bx") (by omega) (by omega) ?_; intro d_ H_ h0_ h1_ e_ hB_))

def cdiv (a b : Int) : Int := -((-a) / b)
def share (size budget : Int) : Int := budget * size / (budget + 1) + 1
def b2 (late : Bool) : Int := if late then 1 else 0
theorem cdiv_le {a b : Int} (h : 0 < b) : a ≤ b * cdiv a b := by
  have h1 := Int.ediv_mul_le (-a) (show b ≠ 0 by omega)
  unfold cdiv
  rw [Int.mul_neg, Int.mul_comm b]
  omega
theorem cdiv_gt {a b : Int} (h : 0 < b) : b * (cdiv a b - 1) < a := by
  have h1 := Int.lt_ediv_add_one_mul_self (-a) h
  have e : b * (cdiv a b - 1) = -(((-a) / b + 1) * b) := by
    unfold cdiv
    rw [Int.mul_comm b, ← Int.neg_mul]
    congr 1
    omega
  omega
theorem cdiv_uniq {a b c : Int} (h : 0 < b) (h1 : a ≤ b * c) (h2 : b * (c - 1) < a) : cdiv a b = c := by
  have h3 := cdiv_le (a := a) h
  have h4 := cdiv_gt (a := a) h
  have h5 : cdiv a b - 1 < c := Int.lt_of_mul_lt_mul_left (Int.lt_of_lt_of_le h4 h1) (Int.le_of_lt h)
  have h6 : c - 1 < cdiv a b := Int.lt_of_mul_lt_mul_left (Int.lt_of_lt_of_le h2 h3) (Int.le_of_lt h)
  omega
theorem cdiv_nonneg {a b : Int} (h : 0 ≤ a) (hb : 0 ≤ b) : 0 ≤ cdiv a b := by
  by_cases h0 : b = 0
  · subst h0
    unfold cdiv
    simp
  · have := cdiv_le (a := a) (b := b) (by omega)
    refine Int.not_lt.mp fun hlt => ?_
    have h2 := Int.mul_le_mul_of_nonneg_left (show cdiv a b ≤ -1 by omega) hb
    omega
theorem share_lo {s b : Int} (hb : 0 ≤ b) : (share s b - 1) * (b + 1) ≤ b * s := by
  have h := Int.ediv_mul_le (b * s) (show b + 1 ≠ 0 by omega)
  unfold share
  rw [Int.add_sub_cancel]
  exact h
theorem share_hi {s b : Int} (hb : 0 ≤ b) : b * s < share s b * (b + 1) := Int.lt_ediv_add_one_mul_self _ (by omega)
theorem share_1 {s b : Int} (hs : 1 ≤ s) (hb : 0 ≤ b) : 1 ≤ share s b := by
  have : 0 ≤ b * s / (b + 1) := Int.ediv_nonneg (Int.mul_nonneg hb (by omega)) (by omega)
  unfold share
  omega
theorem share_le {s b : Int} (hs : 1 ≤ s) (hb : 0 ≤ b) : share s b ≤ s := by
  have h := share_lo (s := s) hb
  have h1 : (share s b - 1) * (b + 1) < s * (b + 1) := by
    have : s * (b + 1) = b * s + s := by rw [Int.mul_add, Int.mul_comm s b, Int.mul_one]
    omega
  have := Int.lt_of_mul_lt_mul_right h1 (show 0 ≤ b + 1 by omega)
  omega
theorem share_0 {s : Int} : share s 0 = 1 := by unfold share; simp
/-- at least so many choices: share s w ≥ k + 1 iff w * s ≥ k * (w + 1) -/
theorem share_ge {s w k : Int} (hw : 0 ≤ w) (h : k * (w + 1) ≤ w * s) : k + 1 ≤ share s w := by
  have h2 := share_hi (s := s) hw
  have := Int.lt_of_mul_lt_mul_right (Int.lt_of_le_of_lt h h2) (show 0 ≤ w + 1 by omega)
  omega
theorem share_lt {s w k : Int} (hw : 0 ≤ w) (h : w * s < k * (w + 1)) : share s w ≤ k := by
  have h2 := share_lo (s := s) hw
  have := Int.lt_of_mul_lt_mul_right (Int.lt_of_le_of_lt h2 h) (show 0 ≤ w + 1 by omega)
  omega
theorem ediv_ge {a b c : Int} (hb : 0 < b) (h : b * c ≤ a) : c ≤ a / b := (Int.le_ediv_iff_mul_le hb).mpr (by rw [Int.mul_comm]; exact h)
theorem ediv_lt {a b c : Int} (hb : 0 < b) (h : a < b * c) : a / b < c := (Int.ediv_lt_iff_lt_mul hb).mpr (by rw [Int.mul_comm]; exact h)
theorem agrees1 {s b : Int} (hs : 1 ≤ s) (hb : 0 < b) : s < share s b + (share s b + b - 1) / b := by
  have h := share_hi (s := s) (Int.le_of_lt hb)
  have : s - share s b + 1 ≤ (share s b + b - 1) / b := by
    refine ediv_ge hb ?_
    have e : b * (s - share s b + 1) = b * s - share s b * b + b := by
      rw [Int.mul_add, Int.mul_sub, Int.mul_one, Int.mul_comm b (share s b)]
    have e2 : share s b * (b + 1) = share s b * b + share s b := by rw [Int.mul_add, Int.mul_one]
    omega
  omega
theorem agrees2 {s b : Int} (hs : 1 ≤ s) (hb : 0 < b) : share s b - 1 + (share s b + b - 2) / b ≤ s := by
  have h := share_lo (s := s) (Int.le_of_lt hb)
  have : (share s b + b - 2) / b < s - share s b + 2 := by
    refine ediv_lt hb ?_
    have e : b * (s - share s b + 2) = b * s - share s b * b + b * 2 := by
      rw [Int.mul_add, Int.mul_sub, Int.mul_comm b (share s b)]
    have e2 : (share s b - 1) * (b + 1) = share s b * b + share s b - b - 1 := by
      rw [Int.sub_mul, Int.mul_add, Int.mul_one, Int.one_mul]; omega
    omega
  omega
/-- segments: keys = limit - 1 + b2 late -/
def most (segs size budget : Int) (late : Bool) : Int := (segs - 1) * share size budget + 1 - b2 late
def fewest (limit size budget : Int) (late : Bool) : Int := cdiv (limit - 1 + b2 late) (share size budget) + 1
theorem b2_01 (late : Bool) : 0 ≤ b2 late ∧ b2 late ≤ 1 := by cases late <;> simp [b2]
theorem few_ok {limit size budget : Int} {late : Bool} (hl : 1 ≤ limit) (hs : 1 ≤ size) (hb : 0 ≤ budget) :
    1 ≤ fewest limit size budget late ∧ fewest limit size budget late ≤ limit + 1 ∧ limit ≤ most (fewest limit size budget late) size budget late ∧ (1 < fewest limit size budget late → most (fewest limit size budget late - 1) size budget late < limit) := by
  have h1 := share_1 hs hb
  have hb2 := b2_01 late
  have h2 := cdiv_le (a := limit - 1 + b2 late) (b := share size budget) (by omega)
  have h3 := cdiv_gt (a := limit - 1 + b2 late) (b := share size budget) (by omega)
  have hc0 : 0 ≤ cdiv (limit - 1 + b2 late) (share size budget) := by
    refine Int.not_lt.mp fun hlt => ?_
    have := Int.mul_le_mul_of_nonneg_left (show cdiv (limit - 1 + b2 late) (share size budget) ≤ -1 by omega) (show 0 ≤ share size budget by omega)
    omega
  have hc1 : cdiv (limit - 1 + b2 late) (share size budget) ≤ limit := by
    refine Int.not_lt.mp fun hlt => ?_
    have := Int.mul_le_mul_of_nonneg_right h1 (show 0 ≤ cdiv (limit - 1 + b2 late) (share size budget) - 1 by omega)
    omega
  unfold fewest most
  have e : (cdiv (limit - 1 + b2 late) (share size budget) + 1 - 1) * share size budget = share size budget * cdiv (limit - 1 + b2 late) (share size budget) := by
    rw [Int.add_sub_cancel, Int.mul_comm]
  have e2 : (cdiv (limit - 1 + b2 late) (share size budget) + 1 - 1 - 1) * share size budget = share size budget * (cdiv (limit - 1 + b2 late) (share size budget) - 1) := by
    rw [Int.add_sub_cancel, Int.mul_comm]
  rw [e, e2]
  refine ⟨by omega, by omega, by omega, fun _ => by omega⟩
def lsb (limit segs size : Int) (late : Bool) : Option Int :=
  if limit - 1 + b2 late = 0 then some 0 else if segs = 1 then none else
  if size < cdiv (limit - 1 + b2 late) (segs - 1) then none else
  some (cdiv (cdiv (limit - 1 + b2 late) (segs - 1) - 1) (size - (cdiv (limit - 1 + b2 late) (segs - 1) - 1)))
theorem lsb_none {limit segs size : Int} {late : Bool} (hl : 1 ≤ limit) (hg : 1 ≤ segs) (hs : 1 ≤ size) (h : (segs - 1) * size + 1 - b2 late < limit) : lsb limit segs size late = none := by
  have hb2 := b2_01 late
  have h0 : 0 ≤ (segs - 1) * size := Int.mul_nonneg (by omega) (by omega)
  unfold lsb
  rw [if_neg (by omega)]
  by_cases hg1 : segs = 1
  · rw [if_pos hg1]
  · rw [if_neg hg1]
    have h2 := cdiv_le (a := limit - 1 + b2 late) (b := segs - 1) (by omega)
    rw [if_pos]
    refine Int.not_le.mp fun hle => ?_
    have := Int.mul_le_mul_of_nonneg_left hle (show 0 ≤ segs - 1 by omega)
    omega
theorem lsb_some {limit segs size : Int} {late : Bool} (hl : 1 ≤ limit) (hg : 1 ≤ segs) (hs : 1 ≤ size) (h : limit ≤ (segs - 1) * size + 1 - b2 late) :
    ∃ w, lsb limit segs size late = some w ∧ 0 ≤ w ∧ w ≤ size ∧ limit ≤ most segs size w late ∧ (0 < w → most segs size (w - 1) late < limit) := by
  have hb2 := b2_01 late
  unfold lsb
  by_cases hk : limit - 1 + b2 late = 0
  · rw [if_pos hk]
    refine ⟨0, rfl, by omega, by omega, ?_, fun h => by omega⟩
    unfold most
    have := Int.mul_nonneg (show 0 ≤ segs - 1 by omega) (show 0 ≤ share size 0 by have := share_1 hs (Int.le_refl 0); omega)
    omega
  · rw [if_neg hk]
    have hg1 : segs ≠ 1 := fun e => by
      rw [e] at h
      simp at h
      omega
    rw [if_neg hg1]
    have hg2 : 0 < segs - 1 := by omega
    have h2 := cdiv_le (a := limit - 1 + b2 late) hg2
    have h3 := cdiv_gt (a := limit - 1 + b2 late) hg2
    generalize cdiv (limit - 1 + b2 late) (segs - 1) = sh at *
    have hsz : sh ≤ size := by
      have : (segs - 1) * (sh - 1) < (segs - 1) * size := by omega
      have := Int.lt_of_mul_lt_mul_left this (Int.le_of_lt hg2)
      omega
    have hsh : 1 ≤ sh := by
      refine Int.not_lt.mp fun hlt => ?_
      have := Int.mul_le_mul_of_nonneg_left (show sh ≤ 0 by omega) (Int.le_of_lt hg2)
      omega
    rw [if_neg (by omega)]
    have hd : 0 < size - (sh - 1) := by omega
    have h4 := cdiv_le (a := sh - 1) hd
    have h5 := cdiv_gt (a := sh - 1) hd
    generalize cdiv (sh - 1) (size - (sh - 1)) = w at *
    have hw0 : 0 ≤ w := by
      refine Int.not_lt.mp fun hlt => ?_
      have := Int.mul_le_mul_of_nonneg_left (show w ≤ -1 by omega) (Int.le_of_lt hd)
      omega
    have hw1 : w ≤ size := by
      refine Int.not_lt.mp fun hlt => ?_
      have := Int.mul_le_mul_of_nonneg_right (show 1 ≤ size - (sh - 1) by omega) (show 0 ≤ w - 1 by omega)
      omega
    refine ⟨w, rfl, hw0, hw1, ?_, fun hw => ?_⟩
    · have h6 : sh - 1 + 1 ≤ share size w := by
        refine share_ge hw0 ?_
        have e : (size - (sh - 1)) * w = w * size - (sh - 1) * w := by rw [Int.sub_mul, Int.mul_comm size w]
        have e2 : (sh - 1) * (w + 1) = (sh - 1) * w + (sh - 1) := by rw [Int.mul_add, Int.mul_one]
        omega
      have := Int.mul_le_mul_of_nonneg_left (show sh ≤ share size w by omega) (Int.le_of_lt hg2)
      unfold most
      omega
    · have h6 : share size (w - 1) ≤ sh - 1 := by
        refine share_lt (by omega) ?_
        have e : (size - (sh - 1)) * (w - 1) = (w - 1) * size - (sh - 1) * (w - 1) := by rw [Int.sub_mul, Int.mul_comm size (w - 1)]
        have e2 : (sh - 1) * (w - 1 + 1) = (sh - 1) * (w - 1) + (sh - 1) := by rw [Int.mul_add, Int.mul_one]
        omega
      have := Int.mul_le_mul_of_nonneg_left h6 (Int.le_of_lt hg2)
      unfold most
      omega

def spAtl : Sp := fun vs H Q _ => ∃ (v l : Int) (f : Str), vs = [.int v, .int l, .str f] ∧ l ≤ v ∧ Q .non H
theorem use_atl {v l : Int} {f : Str} {H : Hp} {Q : VK} {E : XK} (h : l ≤ v) (q : Q .non H) : spAtl ([.int v, .int l, .str f] ++ []) H Q E := ⟨v, l, f, rfl, h, q⟩
abbrev s_at_least : Stmt := (top 4)
abbrev N_at_least : List Str := ["value", "least", "field"]
theorem sc_at_least : FnScope N_at_least ["value", "least", "field"] (defScope s_at_least) := ⟨rfl, rfl, rfl, by decide +kernel, rfl, by decide +kernel, by decide +kernel⟩
theorem cl_at_least (T : Bl mg) (D : Df K mg "at_least" s_at_least ["value", "least", "field"])  : Cl P w K mg base 1 "at_least" ["value", "least", "field"] spAtl := by
  have nd := sc_at_least.nd
  refine D.ok sc_at_least (fun vs H Q E h => ?_) (fun f cdv A outer s H vs Q E hr h => ?_)
  · obtain ⟨v, l, f, rfl, _⟩ := h
    rfl
  · obtain ⟨v, l, f, rfl, h, k⟩ := h
    have hu := hu64 hr
    refine ⟨_, (pss_one (ps_if (pt_cmpR opLt (pv 0) (pv 1) (nomark _))
      (pss_one ps_never)
      pss_nil)), ?_⟩
    try dsimp only [L2.cxOf, L2.Cx.nox]
    simp only [L2.start, N_at_least, List.map_cons, List.map_nil, List.length_cons, List.length_nil, Nat.reduceAdd, Nat.reduceSub, List.replicate_succ, List.replicate_zero, List.cons_append, List.nil_append]

    walk_at "gos"
    exact k
local macro_rules | `(tactic| walk_at "call") => `(tactic| ((with_reducible show spAtl _ _ _ _); refine use_atl (by omega) ?_))
def spCdiv : Sp := fun vs H Q _ => ∃ (a b : Int), vs = [.int a, .int b] ∧ (0 < b ∧ b < 2 ^ 200) ∧ Q (.int (cdiv a b)) H
theorem use_cdiv {a b : Int} {H : Hp} {Q : VK} {E : XK} (h : 0 < b) (h2 : b < 2 ^ 200) (q : Q (.int (cdiv a b)) H) : spCdiv ([.int a, .int b] ++ []) H Q E := ⟨a, b, rfl, ⟨h, h2⟩, q⟩
abbrev s_ceil_div : Stmt := (top 5)
abbrev N_ceil_div : List Str := ["a", "b"]
theorem sc_ceil_div : FnScope N_ceil_div ["a", "b"] (defScope s_ceil_div) := ⟨rfl, rfl, rfl, by decide +kernel, rfl, by decide +kernel, by decide +kernel⟩
theorem cl_ceil_div (T : Bl mg) (D : Df K mg "ceil_div" s_ceil_div ["a", "b"])  : Cl P w K mg base 1 "ceil_div" ["a", "b"] spCdiv := by
  have nd := sc_ceil_div.nd
  refine D.ok sc_ceil_div (fun vs H Q E h => ?_) (fun f cdv A outer s H vs Q E hr h => ?_)
  · obtain ⟨a, b, rfl, _⟩ := h
    rfl
  · obtain ⟨a, b, rfl, ⟨hb, hb2⟩, k⟩ := h
    have hu := hu64 hr
    refine ⟨_, (pss_one (ps_ret (pe_un un_neg (pe_op opDiv (pe_un un_neg (pv 0)) (pv 1))))), ?_⟩
    try dsimp only [L2.cxOf, L2.Cx.nox]
    simp only [L2.start, N_ceil_div, List.map_cons, List.map_nil, List.length_cons, List.length_nil, Nat.reduceAdd, Nat.reduceSub, List.replicate_succ, List.replicate_zero, List.cons_append, List.nil_append]

    walk_at "gos"
    exact k
local macro_rules | `(tactic| walk_at "call") => `(tactic| ((with_reducible show spCdiv _ _ _ _); refine use_cdiv (by omega) (by omega) ?_))
def spShare : Sp := fun vs H Q _ => ∃ (size budget : Int), vs = [.int size, .int budget] ∧ (1 ≤ size ∧ size < 2 ^ 120 ∧ 0 ≤ budget ∧ budget < 2 ^ 120) ∧ Q (.int (share size budget)) H
theorem use_share {size budget : Int} {H : Hp} {Q : VK} {E : XK} (h : 1 ≤ size ∧ size < 2 ^ 120 ∧ 0 ≤ budget ∧ budget < 2 ^ 120) (q : 1 ≤ share size budget → share size budget ≤ size → Q (.int (share size budget)) H) : spShare ([.int size, .int budget] ++ []) H Q E :=
  ⟨size, budget, rfl, h, q (share_1 h.1 h.2.2.1) (share_le h.1 h.2.2.1)⟩
abbrev s_segment_share : Stmt := (top 7)
abbrev N_segment_share : List Str := ["size", "budget"]
theorem sc_segment_share : FnScope N_segment_share ["size", "budget"] (defScope s_segment_share) := ⟨rfl, rfl, rfl, by decide +kernel, rfl, by decide +kernel, by decide +kernel⟩
theorem cl_segment_share (T : Bl mg) (D : Df K mg "segment_share" s_segment_share ["size", "budget"]) (C_at_least : Cl P w K mg base 1 "at_least" ["value", "least", "field"] spAtl) : Cl P w K mg base 2 "segment_share" ["size", "budget"] spShare := by
  have nd := sc_segment_share.nd
  refine D.ok sc_segment_share (fun vs H Q E h => ?_) (fun f cdv A outer s H vs Q E hr h => ?_)
  · obtain ⟨size, budget, rfl, _⟩ := h
    rfl
  · obtain ⟨size, budget, rfl, ⟨h1, h2, h3, h4⟩, k⟩ := h
    have hu := hu64 hr
    refine ⟨_, (pss_cons (ps_expr (pe_cl C_at_least (by exact hr.mono (by decide)) (pa_cons (pv 0) (pa_cons pe_int (pa_cons pe_str pa_nil)))))
    (pss_cons (ps_expr (pe_cl C_at_least (by exact hr.mono (by decide)) (pa_cons (pv 1) (pa_cons pe_int (pa_cons pe_str pa_nil)))))
    (pss_one (ps_ret (pe_op (opAddK (K := K) (by rfl)) (pe_op opDiv (pe_op (opMulK (K := K) (by rfl)) (pv 1) (pv 0)) (pe_op (opAddK (K := K) (by rfl)) (pv 1) pe_int)) pe_int))))), ?_⟩
    try dsimp only [L2.cxOf, L2.Cx.nox]
    simp only [L2.start, N_segment_share, List.map_cons, List.map_nil, List.length_cons, List.length_nil, Nat.reduceAdd, Nat.reduceSub, List.replicate_succ, List.replicate_zero, List.cons_append, List.nil_append]

    walk_at "gos"
    exact k
local macro_rules | `(tactic| walk_at "call") => `(tactic| ((with_reducible show spShare _ _ _ _); refine use_share (by omega) ?_; intro hs1_ hs2_))
def spKeys : Sp := fun vs H Q _ => ∃ (limit : Int) (late : Bool), vs = [.int limit, .bl late] ∧ Q (.int (limit - 1 + b2 late)) H
theorem use_keys {limit : Int} {late : Bool} {H : Hp} {Q : VK} {E : XK} (q : Q (.int (limit - 1 + b2 late)) H) : spKeys ([.int limit, .bl late] ++ []) H Q E := ⟨limit, late, rfl, q⟩
abbrev s_keys_of_others : Stmt := (top 11)
abbrev N_keys_of_others : List Str := ["limit", "late"]
theorem sc_keys_of_others : FnScope N_keys_of_others ["limit", "late"] (defScope s_keys_of_others) := ⟨rfl, rfl, rfl, by decide +kernel, rfl, by decide +kernel, by decide +kernel⟩
theorem cl_keys_of_others (T : Bl mg) (D : Df K mg "_keys_of_others" s_keys_of_others ["limit", "late"])  : Cl P w K mg base 1 "_keys_of_others" ["limit", "late"] spKeys := by
  have nd := sc_keys_of_others.nd
  refine D.ok sc_keys_of_others (fun vs H Q E h => ?_) (fun f cdv A outer s H vs Q E hr h => ?_)
  · obtain ⟨limit, late, rfl, _⟩ := h
    rfl
  · obtain ⟨limit, late, rfl, k⟩ := h
    have hu := hu64 hr
    refine ⟨_, (pss_one (ps_ret (pe_ifExp (pt_val (pv 1)) (pv 0) (pe_op opSub (pv 0) pe_int)))), ?_⟩
    try dsimp only [L2.cxOf, L2.Cx.nox]
    simp only [L2.start, N_keys_of_others, List.map_cons, List.map_nil, List.length_cons, List.length_nil, Nat.reduceAdd, Nat.reduceSub, List.replicate_succ, List.replicate_zero, List.cons_append, List.nil_append]

    walk_at "gos"
    all_goals exact q_int k (by simp [b2, *] <;> omega)
local macro_rules | `(tactic| walk_at "call") => `(tactic| ((with_reducible show spKeys _ _ _ _); refine use_keys ?_))
def spLim : Sp := fun vs H Q _ => ∃ (segs size budget : Int) (late : Bool), vs = [.int segs, .int size, .int budget, .bl late] ∧ (1 ≤ segs ∧ segs < 2 ^ 120 ∧ 1 ≤ size ∧ size < 2 ^ 120 ∧ 0 ≤ budget ∧ budget < 2 ^ 120) ∧ Q (.int (most segs size budget late)) H
theorem use_lim {segs size budget : Int} {late : Bool} {H : Hp} {Q : VK} {E : XK} (h : 1 ≤ segs ∧ segs < 2 ^ 120 ∧ 1 ≤ size ∧ size < 2 ^ 120 ∧ 0 ≤ budget ∧ budget < 2 ^ 120) (q : Q (.int (most segs size budget late)) H) : spLim [.int segs, .int size, .int budget, .bl late] H Q E := ⟨segs, size, budget, late, rfl, h, q⟩
abbrev s_segments_limit : Stmt := (top 8)
abbrev N_segments_limit : List Str := ["segments", "size", "budget", "late", "others"]
theorem sc_segments_limit : FnScope N_segments_limit ["segments", "size", "budget", "late"] (defScope s_segments_limit) := ⟨rfl, rfl, rfl, by decide +kernel, rfl, by decide +kernel, by decide +kernel⟩
theorem cl_segments_limit (T : Bl mg) (D : DfK K mg "segments_limit" s_segments_limit [("late", .bl false)]) (C_segment_share : Cl P w K mg base 2 "segment_share" ["size", "budget"] spShare) (C_at_least : Cl P w K mg base 1 "at_least" ["value", "least", "field"] spAtl) : ClK P w K mg base 3 "segments_limit" s_segments_limit ["segments", "size", "budget", "late"] [("late", .bl false)] spLim := by
  have nd := sc_segments_limit.nd
  refine D.ok sc_segments_limit (fun vs H Q E h => ?_) (fun f cdv A outer s H vs Q E hr h => ?_)
  · obtain ⟨segs, size, budget, late, rfl, _⟩ := h
    rfl
  · obtain ⟨segs, size, budget, late, rfl, ⟨h1, h2, h3, h4, h5, h6⟩, k⟩ := h
    have hu := hu64 hr
    refine ⟨_, (pss_cons (ps_expr (pe_cl C_at_least (by exact hr.mono (by decide)) (pa_cons (pv 0) (pa_cons pe_int (pa_cons pe_str pa_nil)))))
    (pss_cons (ps_set (i := 4) nd rfl (Or.inl rfl) (pe_op (opMulK (K := K) (by rfl)) (pe_op opSub (pv 0) pe_int) (pe_cl C_segment_share (by exact hr.mono (by decide)) (pa_cons (pv 1) (pa_cons (pv 2) pa_nil)))))
    (pss_one (ps_ret (pe_ifExp (pt_val (pv 3)) (pv 4) (pe_op (opAddK (K := K) (by rfl)) (pv 4) pe_int)))))), ?_⟩
    try dsimp only [L2.cxOf, L2.Cx.nox]
    simp only [L2.start, N_segments_limit, List.map_cons, List.map_nil, List.length_cons, List.length_nil, Nat.reduceAdd, Nat.reduceSub, List.replicate_succ, List.replicate_zero, List.cons_append, List.nil_append]

    walk_at "gos"
    all_goals exact q_int k (by simp [most, b2, *] <;> omega)
local macro_rules | `(tactic| walk_at "call") => `(tactic| ((with_reducible show spLim _ _ _ _); refine use_lim (by omega) ?_))
def spFew : Sp := fun vs H Q _ => ∃ (limit size budget : Int) (late : Bool), vs = [.int limit, .int size, .int budget, .bl late] ∧ (1 ≤ limit ∧ 1 ≤ size ∧ size < 2 ^ 120 ∧ 0 ≤ budget ∧ budget < 2 ^ 120) ∧ Q (.int (fewest limit size budget late)) H
theorem use_few {limit size budget : Int} {late : Bool} {H : Hp} {Q : VK} {E : XK} (h : 1 ≤ limit ∧ 1 ≤ size ∧ size < 2 ^ 120 ∧ 0 ≤ budget ∧ budget < 2 ^ 120) (q : Q (.int (fewest limit size budget late)) H) : spFew [.int limit, .int size, .int budget, .bl late] H Q E := ⟨limit, size, budget, late, rfl, h, q⟩
abbrev s_least_segments : Stmt := (top 9)
abbrev N_least_segments : List Str := ["limit", "size", "budget", "late", "share"]
theorem sc_least_segments : FnScope N_least_segments ["limit", "size", "budget", "late"] (defScope s_least_segments) := ⟨rfl, rfl, rfl, by decide +kernel, rfl, by decide +kernel, by decide +kernel⟩
theorem cl_least_segments (T : Bl mg) (D : DfK K mg "least_segments" s_least_segments [("late", .bl false)]) (C_ceil_div : Cl P w K mg base 1 "ceil_div" ["a", "b"] spCdiv) (C_keys_of_others : Cl P w K mg base 1 "_keys_of_others" ["limit", "late"] spKeys) (C_segment_share : Cl P w K mg base 2 "segment_share" ["size", "budget"] spShare) (C_at_least : Cl P w K mg base 1 "at_least" ["value", "least", "field"] spAtl) : ClK P w K mg base 3 "least_segments" s_least_segments ["limit", "size", "budget", "late"] [("late", .bl false)] spFew := by
  have nd := sc_least_segments.nd
  refine D.ok sc_least_segments (fun vs H Q E h => ?_) (fun f cdv A outer s H vs Q E hr h => ?_)
  · obtain ⟨limit, size, budget, late, rfl, _⟩ := h
    rfl
  · obtain ⟨limit, size, budget, late, rfl, ⟨h1, h2, h3, h4, h5⟩, k⟩ := h
    have hu := hu64 hr
    refine ⟨_, (pss_cons (ps_expr (pe_cl C_at_least (by exact hr.mono (by decide)) (pa_cons (pv 0) (pa_cons pe_int (pa_cons pe_str pa_nil)))))
    (pss_cons (ps_set (i := 4) nd rfl (Or.inl rfl) (pe_cl C_segment_share (by exact hr.mono (by decide)) (pa_cons (pv 1) (pa_cons (pv 2) pa_nil))))
    (pss_one (ps_ret (pe_op (opAddK (K := K) (by rfl)) (pe_cl C_ceil_div (by exact hr.mono (by decide)) (pa_cons (pe_cl C_keys_of_others (by exact hr.mono (by decide)) (pa_cons (pv 0) (pa_cons (pv 3) pa_nil))) (pa_cons (pv 4) pa_nil))) pe_int))))), ?_⟩
    try dsimp only [L2.cxOf, L2.Cx.nox]
    simp only [L2.start, N_least_segments, List.map_cons, List.map_nil, List.length_cons, List.length_nil, Nat.reduceAdd, Nat.reduceSub, List.replicate_succ, List.replicate_zero, List.cons_append, List.nil_append]

    walk_at "gos"
    exact k
local macro_rules | `(tactic| walk_at "call") => `(tactic| ((with_reducible show spFew _ _ _ _); refine use_few (by omega) ?_))
def ov : Option Int → V
  | none => .non
  | some i => .int i
def spLsb : Sp := fun vs H Q _ => ∃ (limit segs size : Int) (late : Bool), vs = [.int limit, .int segs, .int size, .bl late] ∧ (1 ≤ limit ∧ 1 ≤ segs ∧ segs < 2 ^ 120 ∧ 1 ≤ size ∧ size < 2 ^ 120) ∧ Q (ov (lsb limit segs size late)) H
theorem use_lsb {limit segs size : Int} {late : Bool} {H : Hp} {Q : VK} {E : XK} (h : 1 ≤ limit ∧ 1 ≤ segs ∧ segs < 2 ^ 120 ∧ 1 ≤ size ∧ size < 2 ^ 120) (q : Q (ov (lsb limit segs size late)) H) : spLsb [.int limit, .int segs, .int size, .bl late] H Q E := ⟨limit, segs, size, late, rfl, h, q⟩
theorem q_v {H : Hp} {Q : VK} {a b : V} (k : Q a H) (e : a = b) : Q b H := e ▸ k
abbrev s_least_segment_budget : Stmt := (top 10)
abbrev N_least_segment_budget : List Str := ["limit", "segments", "size", "late", "keys", "share"]
theorem sc_least_segment_budget : FnScope N_least_segment_budget ["limit", "segments", "size", "late"] (defScope s_least_segment_budget) := ⟨rfl, rfl, rfl, by decide +kernel, rfl, by decide +kernel, by decide +kernel⟩
theorem cl_least_segment_budget (T : Bl mg) (D : DfK K mg "least_segment_budget" s_least_segment_budget [("late", .bl false)]) (C_ceil_div : Cl P w K mg base 1 "ceil_div" ["a", "b"] spCdiv) (C_keys_of_others : Cl P w K mg base 1 "_keys_of_others" ["limit", "late"] spKeys) (C_at_least : Cl P w K mg base 1 "at_least" ["value", "least", "field"] spAtl) : ClK P w K mg base 2 "least_segment_budget" s_least_segment_budget ["limit", "segments", "size", "late"] [("late", .bl false)] spLsb := by
  have nd := sc_least_segment_budget.nd
  refine D.ok sc_least_segment_budget (fun vs H Q E h => ?_) (fun f cdv A outer s H vs Q E hr h => ?_)
  · obtain ⟨limit, segs, size, late, rfl, _⟩ := h
    rfl
  · obtain ⟨limit, segs, size, late, rfl, ⟨h1, h2, h3, h4, h5⟩, k⟩ := h
    have hu := hu64 hr
    refine ⟨_, (pss_cons (ps_expr (pe_cl C_at_least (by exact hr.mono (by decide)) (pa_cons (pv 0) (pa_cons pe_int (pa_cons pe_str pa_nil)))))
    (pss_cons (ps_expr (pe_cl C_at_least (by exact hr.mono (by decide)) (pa_cons (pv 1) (pa_cons pe_int (pa_cons pe_str pa_nil)))))
    (pss_cons (ps_expr (pe_cl C_at_least (by exact hr.mono (by decide)) (pa_cons (pv 2) (pa_cons pe_int (pa_cons pe_str pa_nil)))))
    (pss_cons (ps_set (i := 4) nd rfl (Or.inl rfl) (pe_cl C_keys_of_others (by exact hr.mono (by decide)) (pa_cons (pv 0) (pa_cons (pv 3) pa_nil))))
    (pss_cons (ps_if (pt_cmpR (opEqK (K := K) (by rfl) (by exact hu)) (pv 4) pe_int (nomark _))
      (pss_one (ps_ret pe_int))
      pss_nil)
    (pss_cons (ps_if (pt_cmpR (opEqK (K := K) (by rfl) (by exact hu)) (pv 1) pe_int (nomark _))
      (pss_one (ps_ret pe_non))
      pss_nil)
    (pss_cons (ps_set (i := 5) nd rfl (Or.inl rfl) (pe_cl C_ceil_div (by exact hr.mono (by decide)) (pa_cons (pv 4) (pa_cons (pe_op opSub (pv 1) pe_int) pa_nil))))
    (pss_cons (ps_if (pt_cmpR opGt (pv 5) (pv 2) (nomark _))
      (pss_one (ps_ret pe_non))
      pss_nil)
    (pss_one (ps_ret (pe_cl C_ceil_div (by exact hr.mono (by decide)) (pa_cons (pe_op opSub (pv 5) pe_int) (pa_cons (pe_op opSub (pv 2) (pe_op opSub (pv 5) pe_int)) pa_nil))))))))))))), ?_⟩
    try dsimp only [L2.cxOf, L2.Cx.nox]
    simp only [L2.start, N_least_segment_budget, List.map_cons, List.map_nil, List.length_cons, List.length_nil, Nat.reduceAdd, Nat.reduceSub, List.replicate_succ, List.replicate_zero, List.cons_append, List.nil_append]

    have hb2 := b2_01 late
    have hc := cdiv_nonneg (a := limit - 1 + b2 late) (b := segs - 1) (by omega) (by omega)
    walk_at "gos"
    · exact q_v k (by simp [lsb, *, ov])
    · exact q_v k (by simp [lsb, *, ov] <;> omega)
    · exact q_v k (by simp [lsb, *, ov])
    · refine q_v k ?_
      unfold lsb
      rw [if_neg (by assumption), if_neg (by assumption), if_neg (by assumption)]
      rfl
local macro_rules | `(tactic| walk_at "call") => `(tactic| ((with_reducible show spLsb _ _ _ _); refine use_lsb (by omega) ?_))

def spIsNum : Sp := fun vs H Q _ => ∃ (x : V) (b : Bool), vs = [x] ∧ ((∃ i, x = .int i ∧ b = true) ∨ (x = .non ∧ b = false)) ∧ Q (.bl b) H
theorem use_isnum {i : Int} {H : Hp} {Q : VK} {E : XK} (q : Q (.bl true) H) : spIsNum ([.int i] ++ []) H Q E := ⟨.int i, true, rfl, .inl ⟨i, rfl, rfl⟩, q⟩
theorem use_isnumN {H : Hp} {Q : VK} {E : XK} (q : Q (.bl false) H) : spIsNum ([.non] ++ []) H Q E := ⟨.non, false, rfl, .inr ⟨rfl, rfl⟩, q⟩
abbrev s_law_is_number : Stmt := (top 13)
abbrev N_law_is_number : List Str := ["_law_told"]
theorem sc_law_is_number : FnScope N_law_is_number ["_law_told"] (defScope s_law_is_number) := ⟨rfl, rfl, rfl, by decide +kernel, rfl, by decide +kernel, by decide +kernel⟩
theorem cl_law_is_number (T : Bl mg) (D : Df K mg "_law_is_number" s_law_is_number ["_law_told"])  : Cl P w K mg base 1 "_law_is_number" ["_law_told"] spIsNum := by
  have nd := sc_law_is_number.nd
  refine D.ok sc_law_is_number (fun vs H Q E h => ?_) (fun f cdv A outer s H vs Q E hr h => ?_)
  · obtain ⟨x, b, rfl, _⟩ := h
    rfl
  · obtain ⟨x, b, rfl, hx, k⟩ := h
    have hu := hu64 hr
    refine ⟨_, (pss_one (ps_ret (pe_and (pe_callB (callIsiK (K := K) (by rfl)) (by rfl) T.isinstance (by decide +kernel) (pa_cons (pv 0) (pa_cons (pe_bltn (v := .ty "int") (by rfl) T.int (by decide +kernel) rfl) pa_nil))) (pe_one (pe_not (pe_callB (callIsiK (K := K) (by rfl)) (by rfl) T.isinstance (by decide +kernel) (pa_cons (pv 0) (pa_cons (pe_bltn (v := .ty "bool") (by rfl) T.bool (by decide +kernel) rfl) pa_nil)))))))), ?_⟩
    try dsimp only [L2.cxOf, L2.Cx.nox]
    simp only [L2.start, N_law_is_number, List.map_cons, List.map_nil, List.length_cons, List.length_nil, Nat.reduceAdd, Nat.reduceSub, List.replicate_succ, List.replicate_zero, List.cons_append, List.nil_append]

    rcases hx with ⟨i, rfl, rfl⟩ | ⟨rfl, rfl⟩
    · walk_at "gos"
      exact k
    · walk_at "gos"
      exact k
local macro_rules | `(tactic| walk_at "call") => `(tactic| ((with_reducible show spIsNum _ _ _ _); first | refine use_isnum ?_ | refine use_isnumN ?_))
abbrev s_law_share : Stmt := (top 17)
abbrev N_law_share : List Str := ["_law_size", "_law_budget"]
theorem sc_law_share : FnScope N_law_share ["_law_size", "_law_budget"] (defScope s_law_share) := ⟨rfl, rfl, rfl, by decide +kernel, rfl, by decide +kernel, by decide +kernel⟩
theorem cl_law_share (T : Bl mg) (D : Df K mg "_law_share" s_law_share ["_law_size", "_law_budget"])  : Cl P w K mg base 1 "_law_share" ["_law_size", "_law_budget"] spShare := by
  have nd := sc_law_share.nd
  refine D.ok sc_law_share (fun vs H Q E h => ?_) (fun f cdv A outer s H vs Q E hr h => ?_)
  · obtain ⟨size, budget, rfl, _⟩ := h
    rfl
  · obtain ⟨size, budget, rfl, ⟨h1, h2, h3, h4⟩, k⟩ := h
    have hu := hu64 hr
    refine ⟨_, (pss_one (ps_ret (pe_op (opAddK (K := K) (by rfl)) (pe_op opDiv (pe_op (opMulK (K := K) (by rfl)) (pv 1) (pv 0)) (pe_op (opAddK (K := K) (by rfl)) (pv 1) pe_int)) pe_int))), ?_⟩
    try dsimp only [L2.cxOf, L2.Cx.nox]
    simp only [L2.start, N_law_share, List.map_cons, List.map_nil, List.length_cons, List.length_nil, Nat.reduceAdd, Nat.reduceSub, List.replicate_succ, List.replicate_zero, List.cons_append, List.nil_append]

    walk_at "gos"
    exact k
abbrev s_law_most : Stmt := (top 18)
abbrev N_law_most : List Str := ["_law_segments", "_law_size", "_law_budget", "_law_written_first"]
theorem sc_law_most : FnScope N_law_most ["_law_segments", "_law_size", "_law_budget", "_law_written_first"] (defScope s_law_most) := ⟨rfl, rfl, rfl, by decide +kernel, rfl, by decide +kernel, by decide +kernel⟩
theorem cl_law_most (T : Bl mg) (D : Df K mg "_law_most" s_law_most ["_law_segments", "_law_size", "_law_budget", "_law_written_first"]) (C_law_share : Cl P w K mg base 1 "_law_share" ["_law_size", "_law_budget"] spShare) : Cl P w K mg base 2 "_law_most" ["_law_segments", "_law_size", "_law_budget", "_law_written_first"] spLim := by
  have nd := sc_law_most.nd
  refine D.ok sc_law_most (fun vs H Q E h => ?_) (fun f cdv A outer s H vs Q E hr h => ?_)
  · obtain ⟨segs, size, budget, late, rfl, _⟩ := h
    rfl
  · obtain ⟨segs, size, budget, late, rfl, ⟨h1, h2, h3, h4, h5, h6⟩, k⟩ := h
    have hu := hu64 hr
    refine ⟨_, (pss_one (ps_ret (pe_op opSub (pe_op (opAddK (K := K) (by rfl)) (pe_op (opMulK (K := K) (by rfl)) (pe_op opSub (pv 0) pe_int) (pe_cl C_law_share (by exact hr.mono (by decide)) (pa_cons (pv 1) (pa_cons (pv 2) pa_nil)))) pe_int) (pe_callTy callInt (by rfl) T.int (by decide +kernel) (pa_cons (pv 3) pa_nil))))), ?_⟩
    try dsimp only [L2.cxOf, L2.Cx.nox]
    simp only [L2.start, N_law_most, List.map_cons, List.map_nil, List.length_cons, List.length_nil, Nat.reduceAdd, Nat.reduceSub, List.replicate_succ, List.replicate_zero, List.cons_append, List.nil_append]

    walk_at "gos"
    all_goals exact q_int k (by cases late <;> simp [most, b2])
def spShA : Sp := fun vs H Q _ => ∃ (size budget : Int), vs = [.int size, .int budget] ∧ (1 ≤ size ∧ size < 2 ^ 120 ∧ 0 ≤ budget ∧ budget < 2 ^ 120) ∧ Q (.bl true) H
theorem use_shA {size budget : Int} {H : Hp} {Q : VK} {E : XK} (h : 1 ≤ size ∧ size < 2 ^ 120 ∧ 0 ≤ budget ∧ budget < 2 ^ 120) (q : Q (.bl true) H) : spShA ([.int size, .int budget] ++ []) H Q E := ⟨size, budget, rfl, h, q⟩
abbrev s_law_share_agrees : Stmt := (top 19)
abbrev N_law_share_agrees : List Str := ["_law_size", "_law_budget", "_law_told"]
theorem sc_law_share_agrees : FnScope N_law_share_agrees ["_law_size", "_law_budget"] (defScope s_law_share_agrees) := ⟨rfl, rfl, rfl, by decide +kernel, rfl, by decide +kernel, by decide +kernel⟩
theorem cl_law_share_agrees (T : Bl mg) (D : Df K mg "_law_share_agrees" s_law_share_agrees ["_law_size", "_law_budget"]) (C_law_is_number : Cl P w K mg base 1 "_law_is_number" ["_law_told"] spIsNum) (C_segment_share : Cl P w K mg base 2 "segment_share" ["size", "budget"] spShare) : Cl P w K mg base 3 "_law_share_agrees" ["_law_size", "_law_budget"] spShA := by
  have nd := sc_law_share_agrees.nd
  refine D.ok sc_law_share_agrees (fun vs H Q E h => ?_) (fun f cdv A outer s H vs Q E hr h => ?_)
  · obtain ⟨size, budget, rfl, _⟩ := h
    rfl
  · obtain ⟨size, budget, rfl, ⟨h1, h2, h3, h4⟩, k⟩ := h
    have hu := hu64 hr
    refine ⟨_, (pss_cons (ps_set (i := 2) nd rfl (Or.inl rfl) (pe_cl C_segment_share (by exact hr.mono (by decide)) (pa_cons (pv 0) (pa_cons (pv 1) pa_nil))))
    (pss_cons (ps_if (PW.pt (pw_or (pt_not (pt_val (pe_cl C_law_is_number (by exact hr.mono (by decide)) (pa_cons (pv 2) pa_nil)))) (pw_or1 (pt_cmpR opLt (pv 2) pe_int (nomark _)))))
      (pss_one (ps_ret pe_bl))
      pss_nil)
    (pss_cons (ps_if (PW.pt (pw_or (pt_cmpR opGe (pe_op (opMulK (K := K) (by rfl)) (pv 1) (pv 0)) (pe_op (opMulK (K := K) (by rfl)) (pv 2) (pe_op (opAddK (K := K) (by rfl)) (pv 1) pe_int)) (nomark _)) (pw_or1 (pt_cmpR opLt (pe_op (opMulK (K := K) (by rfl)) (pv 1) (pv 0)) (pe_op (opMulK (K := K) (by rfl)) (pe_op opSub (pv 2) pe_int) (pe_op (opAddK (K := K) (by rfl)) (pv 1) pe_int)) (nomark _)))))
      (pss_one (ps_ret pe_bl))
      pss_nil)
    (pss_cons (ps_if (pt_cmpR (opEqK (K := K) (by rfl) (by exact hu)) (pv 1) pe_int (nomark _))
      (pss_one (ps_ret (pe_cmpR (opEqK (K := K) (by rfl) (by exact hu)) (pv 2) pe_int (nomark _))))
      pss_nil)
    (pss_cons (ps_if (pt_cmpR opLe (pe_op (opAddK (K := K) (by rfl)) (pv 2) (pe_op opDiv (pe_op opSub (pe_op (opAddK (K := K) (by rfl)) (pv 2) (pv 1)) pe_int) (pv 1))) (pv 0) (nomark _))
      (pss_one (ps_ret pe_bl))
      pss_nil)
    (pss_one (ps_ret (pe_cmpR opLe (pe_op (opAddK (K := K) (by rfl)) (pe_op opSub (pv 2) pe_int) (pe_op opDiv (pe_op opSub (pe_op (opAddK (K := K) (by rfl)) (pv 2) (pv 1)) pe_int) (pv 1))) (pv 0) (nomark _))))))))), ?_⟩
    try dsimp only [L2.cxOf, L2.Cx.nox]
    simp only [L2.start, N_law_share_agrees, List.map_cons, List.map_nil, List.length_cons, List.length_nil, Nat.reduceAdd, Nat.reduceSub, List.replicate_succ, List.replicate_zero, List.cons_append, List.nil_append]

    have f1 := share_lo (s := size) h3
    have f2 := share_hi (s := size) h3
    have f3 := share_1 h1 h3
    have f4 := share_le h1 h3
    by_cases hb : 0 < budget
    · have f5 := agrees1 h1 hb
      have f6 := agrees2 h1 hb
      walk_at "gos"
      exact q_dec k f6
    · walk_at "gos"
      refine q_dec k ?_
      have e : budget = 0 := by omega
      rw [e, share_0]
local macro_rules | `(tactic| walk_at "call") => `(tactic| ((with_reducible show spShA _ _ _ _); refine use_shA (by omega) ?_))
def spMoA : Sp := fun vs H Q _ => ∃ (segs size budget : Int) (late : Bool), vs = [.int segs, .int size, .int budget, .bl late] ∧ (1 ≤ segs ∧ segs < 2 ^ 120 ∧ 1 ≤ size ∧ size < 2 ^ 120 ∧ 0 ≤ budget ∧ budget < 2 ^ 120) ∧ ∀ H', Ex H H' → Q (.bl true) H'
theorem use_moA {segs size budget : Int} {late : Bool} {H : Hp} {Q : VK} {E : XK} (h : 1 ≤ segs ∧ segs < 2 ^ 120 ∧ 1 ≤ size ∧ size < 2 ^ 120 ∧ 0 ≤ budget ∧ budget < 2 ^ 120) (q : ∀ H', Ex H H' → Q (.bl true) H') : spMoA ([.int segs, .int size, .int budget, .bl late] ++ []) H Q E := ⟨segs, size, budget, late, rfl, h, q⟩
abbrev s_law_most_agrees : Stmt := (top 20)
abbrev N_law_most_agrees : List Str := ["_law_segments", "_law_size", "_law_budget", "_law_written_first", "_law_told", "_law_due", "_law_one"]
theorem sc_law_most_agrees : FnScope N_law_most_agrees ["_law_segments", "_law_size", "_law_budget", "_law_written_first"] (defScope s_law_most_agrees) := ⟨rfl, rfl, rfl, by decide +kernel, rfl, by decide +kernel, by decide +kernel⟩
theorem cl_law_most_agrees (T : Bl mg) (D : Df K mg "_law_most_agrees" s_law_most_agrees ["_law_segments", "_law_size", "_law_budget", "_law_written_first"]) (C_law_is_number : Cl P w K mg base 1 "_law_is_number" ["_law_told"] spIsNum) (C_law_most : Cl P w K mg base 2 "_law_most" ["_law_segments", "_law_size", "_law_budget", "_law_written_first"] spLim) (C_segments_limit : ClK P w K mg base 3 "segments_limit" s_segments_limit ["segments", "size", "budget", "late"] [("late", .bl false)] spLim) : Cl P w K mg base 4 "_law_most_agrees" ["_law_segments", "_law_size", "_law_budget", "_law_written_first"] spMoA := by
  have nd := sc_law_most_agrees.nd
  refine D.ok sc_law_most_agrees (fun vs H Q E h => ?_) (fun f cdv A outer s H vs Q E hr h => ?_)
  · obtain ⟨segs, size, budget, late, rfl, _⟩ := h
    rfl
  · obtain ⟨segs, size, budget, late, rfl, ⟨h1, h2, h3, h4, h5, h6⟩, k⟩ := h
    have hu := hu64 hr
    refine ⟨_, (pss_cons (ps_set (i := 4) nd rfl (Or.inl rfl) (pe_lst (pa_cons (pe_clk (st := s_segments_limit) (ps := ["segments", "size", "budget", "late"]) (kws := [("late", .bl false)]) (x := "segments_limit") C_segments_limit (by exact hr.mono (by decide)) 3 ["late"] [] (fun us mv ws => (us ++ ((ws.drop 0).take 1))) (by decide) (by decide) (fun r1 r2 r3 => (Vals.append r1 ((r3.drop 0).take 1))) (fun _ _ _ _ _ _ us mv ws h1 h2 h3 => match us, mv, ws, h1, h2, h3 with | [_, _, _], [], [_], _, _, _ => rfl) (pa_cons (pv 0) (pa_cons (pv 1) (pa_cons (pv 2) pa_nil))) (pk_cons (pv 3) pk_nil)) pa_nil)))
    (pss_cons (ps_if (pt_not (pt_val (pv 3)))
      (pss_one (ps_expr (pe_bmK (K := K) (by rfl) PySem.F.plainAttrs_list PySem.F.slot_list_append PySem.F.type_list_append mt_append (pv 4) (pa_cons (pe_clk0 (st := s_segments_limit) (ps := ["segments", "size", "budget", "late"]) (kws := [("late", .bl false)]) (x := "segments_limit") C_segments_limit (by exact hr.mono (by decide)) 3 (by decide) (by decide) (fun _ _ _ _ _ _ us ks h1 h2 => match us, ks, h1, h2 with | [_, _, _], [_], _, _ => ⟨_, _, _, _, _, _, rfl, rfl, rfl⟩) (pa_cons (pv 0) (pa_cons (pv 1) (pa_cons (pv 2) pa_nil)))) pa_nil))))
      pss_nil)
    (pss_cons (ps_set (i := 5) nd rfl (Or.inr rfl) (pe_cl C_law_most (by exact hr.mono (by decide)) (pa_cons (pv 0) (pa_cons (pv 1) (pa_cons (pv 2) (pa_cons (pv 3) pa_nil))))))
    (pss_one (ps_ret (pe_callB (callAllK (K := K) (by rfl) rfl) (by rfl) T.all (by decide +kernel) (pa_cons (pe_lc (own := [("_law_one", 6)]) (g := gName 6) rfl nd (pi_listK (K := K) (by rfl) (pv 4)) (blkOk_by (own := [("_law_one", 6)]) (N := N_law_most_agrees) (sc := defScope s_law_most_agrees) (by decide +kernel)) (fun _ _ _ _ _ => (pg_name (i := 6) nd rfl (Or.inl rfl))) (fun _ _ _ _ _ => pts_nil) (fun _ _ _ _ _ => (pe_and (pe_cl C_law_is_number (by exact hr.mono (by decide)) (pa_cons (pv 6) pa_nil)) (pe_one (pe_cmpR (opEqK (K := K) (by rfl) (by exact hu)) (pv 6) (pv 5) (nomark _)))))) pa_nil))))))), ?_⟩
    try dsimp only [L2.cxOf, L2.Cx.nox]
    simp only [L2.start, N_law_most_agrees, List.map_cons, List.map_nil, List.length_cons, List.length_nil, Nat.reduceAdd, Nat.reduceSub, List.replicate_succ, List.replicate_zero, List.cons_append, List.nil_append]

    cases late
    all_goals
      walk_at "gos"
      refine Gx.lcL_T (by walk_at "sq") (by walk_at "sz") (fun D i x H' hx hD e hp hz => ?_) (fun D H' hD e hp => ?_)
      · rcases i with _ | _ | i
        all_goals first
          | (exfalso; simp at hx; done)
          | (cases (Option.some.inj hx); walk_at "gos"; exact ⟨Gx.rep_succD rfl, by walk_at "ex"⟩)
      · walk_at "gos"
        exact k _ (by walk_at "ex")
local macro_rules | `(tactic| walk_at "call") => `(tactic| ((with_reducible show spMoA _ _ _ _); refine use_moA (by omega) ?_; intro H_ e_))
def spSeA : Sp := fun vs H Q _ => ∃ (limit size budget : Int) (late : Bool), vs = [.int limit, .int size, .int budget, .bl late] ∧ (1 ≤ limit ∧ limit ≤ 10 ^ 30 ∧ 1 ≤ size ∧ size < 2 ^ 120 ∧ 0 ≤ budget ∧ budget < 2 ^ 120) ∧ ∀ H', Ex H H' → Q (.bl true) H'
theorem use_seA {limit size budget : Int} {late : Bool} {H : Hp} {Q : VK} {E : XK} (h : 1 ≤ limit ∧ limit ≤ 10 ^ 30 ∧ 1 ≤ size ∧ size < 2 ^ 120 ∧ 0 ≤ budget ∧ budget < 2 ^ 120) (q : ∀ H', Ex H H' → Q (.bl true) H') : spSeA ([.int limit, .int size, .int budget, .bl late] ++ []) H Q E := ⟨limit, size, budget, late, rfl, h, q⟩
abbrev s_law_segments_agree : Stmt := (top 21)
abbrev N_law_segments_agree : List Str := ["_law_limit", "_law_size", "_law_budget", "_law_written_first", "_law_told", "_law_one", "_law_fewest"]
theorem sc_law_segments_agree : FnScope N_law_segments_agree ["_law_limit", "_law_size", "_law_budget", "_law_written_first"] (defScope s_law_segments_agree) := ⟨rfl, rfl, rfl, by decide +kernel, rfl, by decide +kernel, by decide +kernel⟩
theorem cl_law_segments_agree (T : Bl mg) (D : Df K mg "_law_segments_agree" s_law_segments_agree ["_law_limit", "_law_size", "_law_budget", "_law_written_first"]) (C_law_most_agrees : Cl P w K mg base 4 "_law_most_agrees" ["_law_segments", "_law_size", "_law_budget", "_law_written_first"] spMoA) (C_law_most : Cl P w K mg base 2 "_law_most" ["_law_segments", "_law_size", "_law_budget", "_law_written_first"] spLim) (C_law_is_number : Cl P w K mg base 1 "_law_is_number" ["_law_told"] spIsNum) (C_least_segments : ClK P w K mg base 3 "least_segments" s_least_segments ["limit", "size", "budget", "late"] [("late", .bl false)] spFew) : Cl P w K mg base 5 "_law_segments_agree" ["_law_limit", "_law_size", "_law_budget", "_law_written_first"] spSeA := by
  have nd := sc_law_segments_agree.nd
  refine D.ok sc_law_segments_agree (fun vs H Q E h => ?_) (fun f cdv A outer s H vs Q E hr h => ?_)
  · obtain ⟨limit, size, budget, late, rfl, _⟩ := h
    rfl
  · obtain ⟨limit, size, budget, late, rfl, ⟨h1, h2, h3, h4, h5, h6⟩, k⟩ := h
    have hu := hu64 hr
    refine ⟨_, (pss_cons (ps_set (i := 4) nd rfl (Or.inl rfl) (pe_lst (pa_cons (pe_clk (st := s_least_segments) (ps := ["limit", "size", "budget", "late"]) (kws := [("late", .bl false)]) (x := "least_segments") C_least_segments (by exact hr.mono (by decide)) 3 ["late"] [] (fun us mv ws => (us ++ ((ws.drop 0).take 1))) (by decide) (by decide) (fun r1 r2 r3 => (Vals.append r1 ((r3.drop 0).take 1))) (fun _ _ _ _ _ _ us mv ws h1 h2 h3 => match us, mv, ws, h1, h2, h3 with | [_, _, _], [], [_], _, _, _ => rfl) (pa_cons (pv 0) (pa_cons (pv 1) (pa_cons (pv 2) pa_nil))) (pk_cons (pv 3) pk_nil)) pa_nil)))
    (pss_cons (ps_if (pt_not (pt_val (pv 3)))
      (pss_one (ps_expr (pe_bmK (K := K) (by rfl) PySem.F.plainAttrs_list PySem.F.slot_list_append PySem.F.type_list_append mt_append (pv 4) (pa_cons (pe_clk0 (st := s_least_segments) (ps := ["limit", "size", "budget", "late"]) (kws := [("late", .bl false)]) (x := "least_segments") C_least_segments (by exact hr.mono (by decide)) 3 (by decide) (by decide) (fun _ _ _ _ _ _ us ks h1 h2 => match us, ks, h1, h2 with | [_, _, _], [_], _, _ => ⟨_, _, _, _, _, _, rfl, rfl, rfl⟩) (pa_cons (pv 0) (pa_cons (pv 1) (pa_cons (pv 2) pa_nil)))) pa_nil))))
      pss_nil)
    (pss_cons (ps_if (PW.pt (pw_or (pt_not (pt_val (pe_callB (callAllK (K := K) (by rfl) rfl) (by rfl) T.all (by decide +kernel) (pa_cons (pe_lc (own := [("_law_one", 5)]) (g := gName 5) rfl nd (pi_listK (K := K) (by rfl) (pv 4)) (blkOk_by (own := [("_law_one", 5)]) (N := N_law_segments_agree) (sc := defScope s_law_segments_agree) (by decide +kernel)) (fun _ _ _ _ _ => (pg_name (i := 5) nd rfl (Or.inl rfl))) (fun _ _ _ _ _ => pts_nil) (fun _ _ _ _ _ => (pe_cl C_law_is_number (by exact hr.mono (by decide)) (pa_cons (pv 5) pa_nil)))) pa_nil)))) (pw_or1 (pt_cmpR (opNeK (K := K) (by rfl) (by exact hu)) (pe_ix (ixSeqK (K := K) (by rfl)) (pv 4) pe_int (fun _ _ => rfl)) (pe_ix (ixSeqK (K := K) (by rfl)) (pv 4) (pe_op opSub (pe_callB (callLenK (K := K) (by rfl)) (by rfl) T.len (by decide +kernel) (pa_cons (pv 4) pa_nil)) pe_int) (fun _ _ => rfl)) (nomark _)))))
      (pss_one (ps_ret pe_bl))
      pss_nil)
    (pss_cons (ps_set (i := 6) nd rfl (Or.inl rfl) (pe_ix (ixSeqK (K := K) (by rfl)) (pv 4) pe_int (fun _ _ => rfl)))
    (pss_cons (ps_if (PW.pt (pw_or (pt_cmpR opLt (pv 6) pe_int (nomark _)) (pw_or1 (pt_cmpR opGt (pv 0) (pe_cl C_law_most (by exact hr.mono (by decide)) (pa_cons (pv 6) (pa_cons (pv 1) (pa_cons (pv 2) (pa_cons (pv 3) pa_nil))))) (nomark _)))))
      (pss_one (ps_ret pe_bl))
      pss_nil)
    (pss_cons (ps_if (PW.pt (pw_and (pt_cmpR opGt (pv 6) pe_int (nomark _)) (pw_and1 (pt_cmpR opLe (pv 0) (pe_cl C_law_most (by exact hr.mono (by decide)) (pa_cons (pe_op opSub (pv 6) pe_int) (pa_cons (pv 1) (pa_cons (pv 2) (pa_cons (pv 3) pa_nil))))) (nomark _)))))
      (pss_one (ps_ret pe_bl))
      pss_nil)
    (pss_one (ps_ret (pe_or (pe_cmpR opGt (pv 6) (pe_op opPow pe_int pe_int) (nomark _)) (pe_one (pe_cl C_law_most_agrees (by exact hr.mono (by decide)) (pa_cons (pv 6) (pa_cons (pv 1) (pa_cons (pv 2) (pa_cons (pv 3) pa_nil))))))))))))))), ?_⟩
    try dsimp only [L2.cxOf, L2.Cx.nox]
    simp only [L2.start, N_law_segments_agree, List.map_cons, List.map_nil, List.length_cons, List.length_nil, Nat.reduceAdd, Nat.reduceSub, List.replicate_succ, List.replicate_zero, List.cons_append, List.nil_append]

    obtain ⟨f1, f2, f3, f4⟩ := few_ok (late := late) h1 h3 h5
    cases late
    all_goals
      walk_at "gos"
      refine Gx.lcL_T (by walk_at "sq") (by walk_at "sz") (fun D i x H' hx hD e hp hz => ?_) (fun D H' hD e hp => ?_)
      · rcases i with _ | _ | i
        all_goals first
          | (exfalso; simp at hx; done)
          | (cases (Option.some.inj hx); walk_at "gos"; exact ⟨Gx.rep_succ, by walk_at "ex"⟩)
      · walk_at "gos"
        all_goals exact k _ (by walk_at "ex")
local macro_rules | `(tactic| walk_at "call") => `(tactic| ((with_reducible show spSeA _ _ _ _); refine use_seA (by omega) ?_; intro H_ e_))
def spBuA : Sp := fun vs H Q _ => ∃ (limit segs size : Int) (late : Bool), vs = [.int limit, .int segs, .int size, .bl late] ∧ (1 ≤ limit ∧ limit ≤ 10 ^ 30 ∧ 1 ≤ segs ∧ segs < 2 ^ 110 ∧ 1 ≤ size ∧ size < 2 ^ 110) ∧ ∀ H', Ex H H' → Q (.bl true) H'
theorem use_buA {limit segs size : Int} {late : Bool} {H : Hp} {Q : VK} {E : XK} (h : 1 ≤ limit ∧ limit ≤ 10 ^ 30 ∧ 1 ≤ segs ∧ segs < 2 ^ 110 ∧ 1 ≤ size ∧ size < 2 ^ 110) (q : ∀ H', Ex H H' → Q (.bl true) H') : spBuA ([.int limit, .int segs, .int size, .bl late] ++ []) H Q E := ⟨limit, segs, size, late, rfl, h, q⟩
abbrev s_law_budget_agrees : Stmt := (top 22)
abbrev N_law_budget_agrees : List Str := ["_law_limit", "_law_segments", "_law_size", "_law_written_first", "_law_told", "_law_one", "_law_budget"]
theorem sc_law_budget_agrees : FnScope N_law_budget_agrees ["_law_limit", "_law_segments", "_law_size", "_law_written_first"] (defScope s_law_budget_agrees) := ⟨rfl, rfl, rfl, by decide +kernel, rfl, by decide +kernel, by decide +kernel⟩
theorem cl_law_budget_agrees (T : Bl mg) (D : Df K mg "_law_budget_agrees" s_law_budget_agrees ["_law_limit", "_law_segments", "_law_size", "_law_written_first"]) (C_law_most_agrees : Cl P w K mg base 4 "_law_most_agrees" ["_law_segments", "_law_size", "_law_budget", "_law_written_first"] spMoA) (C_law_most : Cl P w K mg base 2 "_law_most" ["_law_segments", "_law_size", "_law_budget", "_law_written_first"] spLim) (C_law_is_number : Cl P w K mg base 1 "_law_is_number" ["_law_told"] spIsNum) (C_least_segment_budget : ClK P w K mg base 2 "least_segment_budget" s_least_segment_budget ["limit", "segments", "size", "late"] [("late", .bl false)] spLsb) : Cl P w K mg base 5 "_law_budget_agrees" ["_law_limit", "_law_segments", "_law_size", "_law_written_first"] spBuA := by
  have nd := sc_law_budget_agrees.nd
  refine D.ok sc_law_budget_agrees (fun vs H Q E h => ?_) (fun f cdv A outer s H vs Q E hr h => ?_)
  · obtain ⟨limit, segs, size, late, rfl, _⟩ := h
    rfl
  · obtain ⟨limit, segs, size, late, rfl, ⟨h1, h2, h3, h4, h5, h6⟩, k⟩ := h
    have hu := hu64 hr
    refine ⟨_, (pss_cons (ps_set (i := 4) nd rfl (Or.inl rfl) (pe_lst (pa_cons (pe_clk (st := s_least_segment_budget) (ps := ["limit", "segments", "size", "late"]) (kws := [("late", .bl false)]) (x := "least_segment_budget") C_least_segment_budget (by exact hr.mono (by decide)) 3 ["late"] [] (fun us mv ws => (us ++ ((ws.drop 0).take 1))) (by decide) (by decide) (fun r1 r2 r3 => (Vals.append r1 ((r3.drop 0).take 1))) (fun _ _ _ _ _ _ us mv ws h1 h2 h3 => match us, mv, ws, h1, h2, h3 with | [_, _, _], [], [_], _, _, _ => rfl) (pa_cons (pv 0) (pa_cons (pv 1) (pa_cons (pv 2) pa_nil))) (pk_cons (pv 3) pk_nil)) pa_nil)))
    (pss_cons (ps_if (pt_not (pt_val (pv 3)))
      (pss_one (ps_expr (pe_bmK (K := K) (by rfl) PySem.F.plainAttrs_list PySem.F.slot_list_append PySem.F.type_list_append mt_append (pv 4) (pa_cons (pe_clk0 (st := s_least_segment_budget) (ps := ["limit", "segments", "size", "late"]) (kws := [("late", .bl false)]) (x := "least_segment_budget") C_least_segment_budget (by exact hr.mono (by decide)) 3 (by decide) (by decide) (fun _ _ _ _ _ _ us ks h1 h2 => match us, ks, h1, h2 with | [_, _, _], [_], _, _ => ⟨_, _, _, _, _, _, rfl, rfl, rfl⟩) (pa_cons (pv 0) (pa_cons (pv 1) (pa_cons (pv 2) pa_nil)))) pa_nil))))
      pss_nil)
    (pss_cons (ps_if (pt_cmpR opGt (pv 0) (pe_op opSub (pe_op (opAddK (K := K) (by rfl)) (pe_op (opMulK (K := K) (by rfl)) (pe_op opSub (pv 1) pe_int) (pv 2)) pe_int) (pe_callTy callInt (by rfl) T.int (by decide +kernel) (pa_cons (pv 3) pa_nil))) (nomark _))
      (pss_one (ps_ret (pe_callB (callAllK (K := K) (by rfl) rfl) (by rfl) T.all (by decide +kernel) (pa_cons (pe_lc (own := [("_law_one", 5)]) (g := gName 5) rfl nd (pi_listK (K := K) (by rfl) (pv 4)) (blkOk_by (own := [("_law_one", 5)]) (N := N_law_budget_agrees) (sc := defScope s_law_budget_agrees) (by decide +kernel)) (fun _ _ _ _ _ => (pg_name (i := 5) nd rfl (Or.inl rfl))) (fun _ _ _ _ _ => pts_nil) (fun _ _ _ _ _ => (pe_cmpR opIsN (pv 5) pe_non (nomark _)))) pa_nil))))
      pss_nil)
    (pss_cons (ps_if (PW.pt (pw_or (pt_not (pt_val (pe_callB (callAllK (K := K) (by rfl) rfl) (by rfl) T.all (by decide +kernel) (pa_cons (pe_lc (own := [("_law_one", 5)]) (g := gName 5) rfl nd (pi_listK (K := K) (by rfl) (pv 4)) (blkOk_by (own := [("_law_one", 5)]) (N := N_law_budget_agrees) (sc := defScope s_law_budget_agrees) (by decide +kernel)) (fun _ _ _ _ _ => (pg_name (i := 5) nd rfl (Or.inl rfl))) (fun _ _ _ _ _ => pts_nil) (fun _ _ _ _ _ => (pe_cl C_law_is_number (by exact hr.mono (by decide)) (pa_cons (pv 5) pa_nil)))) pa_nil)))) (pw_or1 (pt_cmpR (opNeK (K := K) (by rfl) (by exact hu)) (pe_ix (ixSeqK (K := K) (by rfl)) (pv 4) pe_int (fun _ _ => rfl)) (pe_ix (ixSeqK (K := K) (by rfl)) (pv 4) (pe_op opSub (pe_callB (callLenK (K := K) (by rfl)) (by rfl) T.len (by decide +kernel) (pa_cons (pv 4) pa_nil)) pe_int) (fun _ _ => rfl)) (nomark _)))))
      (pss_one (ps_ret pe_bl))
      pss_nil)
    (pss_cons (ps_set (i := 6) nd rfl (Or.inl rfl) (pe_ix (ixSeqK (K := K) (by rfl)) (pv 4) pe_int (fun _ _ => rfl)))
    (pss_cons (ps_if (PW.pt (pw_or (pt_cmpR opLt (pv 6) pe_int (nomark _)) (pw_or1 (pt_cmpR opGt (pv 0) (pe_cl C_law_most (by exact hr.mono (by decide)) (pa_cons (pv 1) (pa_cons (pv 2) (pa_cons (pv 6) (pa_cons (pv 3) pa_nil))))) (nomark _)))))
      (pss_one (ps_ret pe_bl))
      pss_nil)
    (pss_cons (ps_if (PW.pt (pw_and (pt_cmpR opGt (pv 6) pe_int (nomark _)) (pw_and1 (pt_cmpR opLe (pv 0) (pe_cl C_law_most (by exact hr.mono (by decide)) (pa_cons (pv 1) (pa_cons (pv 2) (pa_cons (pe_op opSub (pv 6) pe_int) (pa_cons (pv 3) pa_nil))))) (nomark _)))))
      (pss_one (ps_ret pe_bl))
      pss_nil)
    (pss_one (ps_ret (pe_or (pe_cmpR opGt (pv 6) (pe_op opPow pe_int pe_int) (nomark _)) (pe_one (pe_cl C_law_most_agrees (by exact hr.mono (by decide)) (pa_cons (pv 1) (pa_cons (pv 2) (pa_cons (pv 6) (pa_cons (pv 3) pa_nil)))))))))))))))), ?_⟩
    try dsimp only [L2.cxOf, L2.Cx.nox]
    simp only [L2.start, N_law_budget_agrees, List.map_cons, List.map_nil, List.length_cons, List.length_nil, Nat.reduceAdd, Nat.reduceSub, List.replicate_succ, List.replicate_zero, List.cons_append, List.nil_append]

    have hb2 := b2_01 late
    have eb : (if late = true then (1 : Int) else 0) = b2 late := rfl
    by_cases hc : (segs - 1) * size + 1 - b2 late < limit
    · have f := lsb_none h1 h3 h5 hc
      cases late
      all_goals
        simp only [b2, if_true, if_false, Bool.false_eq_true] at hc hb2 eb
        walk_at "gos"
        simp only [f, ov] at *
        refine Gx.lcL_T (by walk_at "sq") (by walk_at "sz") (fun D i x H' hx hD e hp hz => ?_) (fun D H' hD e hp => ?_)
        · rcases i with _ | _ | i
          all_goals first
            | (exfalso; simp at hx; done)
            | (cases (Option.some.inj hx); walk_at "gos"; exact ⟨Gx.rep_succ, by walk_at "ex"⟩)
        · walk_at "gos"
          exact k _ (by walk_at "ex")
    · obtain ⟨w_, f, f1, f2, f3, f4⟩ := lsb_some h1 h3 h5 (Int.not_lt.mp hc)
      cases late
      all_goals
        simp only [b2, if_true, if_false, Bool.false_eq_true] at hc hb2 eb
        walk_at "gos"
        simp only [f, ov] at *
        refine Gx.lcL_T (by walk_at "sq") (by walk_at "sz") (fun D i x H' hx hD e hp hz => ?_) (fun D H' hD e hp => ?_)
        · rcases i with _ | _ | i
          all_goals first
            | (exfalso; simp at hx; done)
            | (cases (Option.some.inj hx); walk_at "gos"; exact ⟨Gx.rep_succ, by walk_at "ex"⟩)
        · walk_at "gos"
          all_goals exact k _ (by walk_at "ex")

def spHouse : Sp := fun vs H Q _ => ∃ (b : Addr), vs = [.ref b] ∧ Bag b H ∧ ∀ t segs size budget H', H t = none → ExB b H H' → Bag b H' → H' t = some (.tup [.int segs, .int size, .int budget]) → (1 ≤ segs ∧ segs < 2 ^ 110 ∧ 1 ≤ size ∧ size < 2 ^ 110 ∧ 0 ≤ budget ∧ budget < 2 ^ 110) → Q (.ref t) H'
theorem use_house {b : Addr} {H : Hp} {Q : VK} {E : XK} (hb : Bag b H) (q : ∀ t segs size budget H', H t = none → ExB b H H' → Bag b H' → H' t = some (.tup [.int segs, .int size, .int budget]) → (1 ≤ segs ∧ segs < 2 ^ 110 ∧ 1 ≤ size ∧ size < 2 ^ 110 ∧ 0 ≤ budget ∧ budget < 2 ^ 110) → Q (.ref t) H') : spHouse ([.ref b] ++ []) H Q E := ⟨b, rfl, hb, q⟩
abbrev s_law_house : Stmt := (top 23)
abbrev N_law_house : List Str := ["_law_bag_here", "_law_way", "_law_segments", "_law_size", "_law_near", "_law_budget"]
theorem sc_law_house : FnScope N_law_house ["_law_bag_here"] (defScope s_law_house) := ⟨rfl, rfl, rfl, by decide +kernel, rfl, by decide +kernel, by decide +kernel⟩
theorem cl_law_house (T : Bl mg) (D : Df K mg "_law_house" s_law_house ["_law_bag_here"]) (C_law_number : Cl P w K mg base 2 "_law_number" ["_law_bag_here", "_law_most_here"] spNumber) (C_law_take : Cl P w K mg base 1 "_law_take" ["_law_bag_here", "_law_size"] spTake) : Cl P w K mg base 3 "_law_house" ["_law_bag_here"] spHouse := by
  have nd := sc_law_house.nd
  refine D.ok sc_law_house (fun vs H Q E h => ?_) (fun f cdv A outer s H vs Q E hr h => ?_)
  · obtain ⟨b, rfl, _⟩ := h
    rfl
  · obtain ⟨b, rfl, hb, k⟩ := h
    have hu := hu64 hr
    refine ⟨_, (pss_cons (ps_set (i := 1) nd rfl (Or.inl rfl) (pe_cl C_law_take (by exact hr.mono (by decide)) (pa_cons (pv 0) (pa_cons pe_int pa_nil))))
    (pss_cons (ps_if (pt_cmpR (opEqK (K := K) (by rfl) (by exact hu)) (pv 1) pe_int (nomark _))
      (pss_cons (ps_set (i := 2) nd rfl (Or.inl rfl) (pe_op (opAddK (K := K) (by rfl)) pe_int (pe_cl C_law_number (by exact hr.mono (by decide)) (pa_cons (pv 0) (pa_cons (pe_op opSub (pe_op opPow pe_int pe_int) pe_int) pa_nil)))))
    (pss_one (ps_set (i := 3) nd rfl (Or.inl rfl) (pe_op (opAddK (K := K) (by rfl)) pe_int (pe_cl C_law_number (by exact hr.mono (by decide)) (pa_cons (pv 0) (pa_cons (pe_op opSub (pe_op opPow pe_int pe_int) pe_int) pa_nil)))))))
      (pss_one (ps_if (pt_cmpR (opEqK (K := K) (by rfl) (by exact hu)) (pv 1) pe_int (nomark _))
      (pss_cons (ps_set (i := 2) nd rfl (Or.inl rfl) (pe_op (opAddK (K := K) (by rfl)) pe_int (pe_cl C_law_take (by exact hr.mono (by decide)) (pa_cons (pv 0) (pa_cons pe_int pa_nil)))))
    (pss_one (ps_set (i := 3) nd rfl (Or.inl rfl) (pe_op (opAddK (K := K) (by rfl)) pe_int (pe_cl C_law_number (by exact hr.mono (by decide)) (pa_cons (pv 0) (pa_cons (pe_op opSub (pe_op opPow pe_int pe_int) pe_int) pa_nil)))))))
      (pss_cons (ps_set (i := 2) nd rfl (Or.inl rfl) (pe_op (opAddK (K := K) (by rfl)) pe_int (pe_cl C_law_take (by exact hr.mono (by decide)) (pa_cons (pv 0) (pa_cons pe_int pa_nil)))))
    (pss_one (ps_set (i := 3) nd rfl (Or.inl rfl) (pe_op (opAddK (K := K) (by rfl)) pe_int (pe_cl C_law_take (by exact hr.mono (by decide)) (pa_cons (pv 0) (pa_cons pe_int pa_nil))))))))))
    (pss_cons (ps_set (i := 4) nd rfl (Or.inl rfl) (pe_cl C_law_take (by exact hr.mono (by decide)) (pa_cons (pv 0) (pa_cons pe_int pa_nil))))
    (pss_cons (ps_if (pt_cmpR (opEqK (K := K) (by rfl) (by exact hu)) (pv 4) pe_int (nomark _))
      (pss_one (ps_set (i := 5) nd rfl (Or.inl rfl) (pe_cl C_law_number (by exact hr.mono (by decide)) (pa_cons (pv 0) (pa_cons (pe_op opPow pe_int pe_int) pa_nil)))))
      (pss_one (ps_if (pt_cmpR (opEqK (K := K) (by rfl) (by exact hu)) (pv 4) pe_int (nomark _))
      (pss_one (ps_set (i := 5) nd rfl (Or.inl rfl) (pe_callB (callMax2 rfl) (by rfl) T.max (by decide +kernel) (pa_cons pe_int (pa_cons (pe_op (opAddK (K := K) (by rfl)) (pe_op opSub (pv 3) pe_int) (pe_cl C_law_take (by exact hr.mono (by decide)) (pa_cons (pv 0) (pa_cons pe_int pa_nil)))) pa_nil)))))
      (pss_one (ps_if (pt_cmpR (opEqK (K := K) (by rfl) (by exact hu)) (pv 4) pe_int (nomark _))
      (pss_one (ps_set (i := 5) nd rfl (Or.inl rfl) (pe_op opDiv (pv 3) (pe_op (opAddK (K := K) (by rfl)) pe_int (pe_cl C_law_take (by exact hr.mono (by decide)) (pa_cons (pv 0) (pa_cons pe_int pa_nil)))))))
      (pss_one (ps_set (i := 5) nd rfl (Or.inl rfl) (pe_cl C_law_take (by exact hr.mono (by decide)) (pa_cons (pv 0) (pa_cons pe_int pa_nil))))))))))
    (pss_one (ps_ret (pe_tup (pa_cons (pv 2) (pa_cons (pv 3) (pa_cons (pv 5) pa_nil)))))))))), ?_⟩
    try dsimp only [L2.cxOf, L2.Cx.nox]
    simp only [L2.start, N_law_house, List.map_cons, List.map_nil, List.length_cons, List.length_nil, Nat.reduceAdd, Nat.reduceSub, List.replicate_succ, List.replicate_zero, List.cons_append, List.nil_append]

    walk_at "gos"
    all_goals first
      | exact k _ _ _ _ _ (by walk_at "fr") (by walk_at "exb") (by walk_at "bx") (by walk_at "hp") (by omega)
      | (refine k _ _ _ _ _ (by walk_at "fr") (by walk_at "exb") (by walk_at "bx") (by walk_at "hp") ⟨by omega, by omega, by omega, by omega, (div_le (by omega) (by omega)).1, Int.lt_of_le_of_lt (div_le (by omega) (by omega)).2 (by omega)⟩)
local macro_rules | `(tactic| walk_at "call") => `(tactic| ((with_reducible show spHouse _ _ _ _); refine use_house (by walk_at "bx") ?_; intro t_ segs_ size_ budget_ H_ np_ e_ hB_ hp_ hb_))
def spLims : Sp := fun vs H Q _ => ∃ (b : Addr) (segs size budget : Int) (late : Bool), vs = [.ref b, .int segs, .int size, .int budget, .bl late] ∧ (Bag b H ∧ 1 ≤ segs ∧ segs < 2 ^ 110 ∧ 1 ≤ size ∧ size < 2 ^ 110 ∧ 0 ≤ budget ∧ budget < 2 ^ 110) ∧ ∀ p (ms : List Int) H', H p = none → ExB b H H' → Bag b H' → H' p = some (.lst (ms.map V.int)) → (∀ m ∈ ms, 1 ≤ m ∧ m ≤ 10 ^ 30) → Q (.ref p) H'
theorem use_lims {b : Addr} {segs size budget : Int} {late : Bool} {H : Hp} {Q : VK} {E : XK} (hb : Bag b H) (h : 1 ≤ segs ∧ segs < 2 ^ 110 ∧ 1 ≤ size ∧ size < 2 ^ 110 ∧ 0 ≤ budget ∧ budget < 2 ^ 110)
    (q : ∀ p (ms : List Int) H', H p = none → ExB b H H' → Bag b H' → H' p = some (.lst (ms.map V.int)) → (∀ m ∈ ms, 1 ≤ m ∧ m ≤ 10 ^ 30) → Q (.ref p) H') : spLims ([.ref b, .int segs, .int size, .int budget, .bl late] ++ []) H Q E := ⟨b, segs, size, budget, late, rfl, ⟨hb, h⟩, q⟩
abbrev s_law_limits : Stmt := (top 24)
abbrev N_law_limits : List Str := ["_law_bag_here", "_law_segments", "_law_size", "_law_budget", "_law_written_first", "_law_edge", "_law_greatest", "_law_limits_here", "_law_limit"]
theorem sc_law_limits : FnScope N_law_limits ["_law_bag_here", "_law_segments", "_law_size", "_law_budget", "_law_written_first"] (defScope s_law_limits) := ⟨rfl, rfl, rfl, by decide +kernel, rfl, by decide +kernel, by decide +kernel⟩
theorem cl_law_limits (T : Bl mg) (D : Df K mg "_law_limits" s_law_limits ["_law_bag_here", "_law_segments", "_law_size", "_law_budget", "_law_written_first"]) (C_law_take : Cl P w K mg base 1 "_law_take" ["_law_bag_here", "_law_size"] spTake) (C_law_number : Cl P w K mg base 2 "_law_number" ["_law_bag_here", "_law_most_here"] spNumber) (C_law_most : Cl P w K mg base 2 "_law_most" ["_law_segments", "_law_size", "_law_budget", "_law_written_first"] spLim) : Cl P w K mg base 3 "_law_limits" ["_law_bag_here", "_law_segments", "_law_size", "_law_budget", "_law_written_first"] spLims := by
  have nd := sc_law_limits.nd
  refine D.ok sc_law_limits (fun vs H Q E h => ?_) (fun f cdv A outer s H vs Q E hr h => ?_)
  · obtain ⟨b, segs, size, budget, late, rfl, _⟩ := h
    rfl
  · obtain ⟨b, segs, size, budget, late, rfl, ⟨hb, h1, h2, h3, h4, h5, h6⟩, k⟩ := h
    have hu := hu64 hr
    refine ⟨_, (pss_cons (ps_set (i := 5) nd rfl (Or.inl rfl) (pe_cl C_law_most (by exact hr.mono (by decide)) (pa_cons (pv 1) (pa_cons (pv 2) (pa_cons (pv 3) (pa_cons (pv 4) pa_nil))))))
    (pss_cons (ps_set (i := 6) nd rfl (Or.inl rfl) (pe_op opSub (pe_op (opAddK (K := K) (by rfl)) (pe_op (opMulK (K := K) (by rfl)) (pe_op opSub (pv 1) pe_int) (pv 2)) pe_int) (pe_callTy callInt (by rfl) T.int (by decide +kernel) (pa_cons (pv 4) pa_nil))))
    (pss_cons (ps_set (i := 7) nd rfl (Or.inl rfl) (pe_lst (pa_cons (pv 5) (pa_cons (pe_op (opAddK (K := K) (by rfl)) (pv 5) pe_int) (pa_cons (pe_op (opAddK (K := K) (by rfl)) (pe_op opSub (pv 5) pe_int) (pe_cl C_law_take (by exact hr.mono (by decide)) (pa_cons (pv 0) (pa_cons pe_int pa_nil)))) (pa_cons (pv 6) (pa_cons (pe_op (opAddK (K := K) (by rfl)) (pv 6) pe_int) pa_nil)))))))
    (pss_cons (ps_expr (pe_bmK (K := K) (by rfl) PySem.F.plainAttrs_list PySem.F.slot_list_append PySem.F.type_list_append mt_append (pv 7) (pa_cons (pe_op (opAddK (K := K) (by rfl)) pe_int (pe_cl C_law_number (by exact hr.mono (by decide)) (pa_cons (pv 0) (pa_cons (pe_op opSub (pe_op opPow pe_int pe_int) pe_int) pa_nil)))) pa_nil)))
    (pss_cons (ps_expr (pe_bmK (K := K) (by rfl) PySem.F.plainAttrs_list PySem.F.slot_list_append PySem.F.type_list_append mt_append (pv 7) (pa_cons (pe_op (opAddK (K := K) (by rfl)) pe_int (pe_cl C_law_take (by exact hr.mono (by decide)) (pa_cons (pv 0) (pa_cons pe_int pa_nil)))) pa_nil)))
    (pss_one (ps_ret (pe_lc (own := [("_law_limit", 8)]) (g := gName 8) rfl nd (pi_listK (K := K) (by rfl) (pv 7)) (blkOk_by (own := [("_law_limit", 8)]) (N := N_law_limits) (sc := defScope s_law_limits) (by decide +kernel)) (fun _ _ _ _ _ => (pg_name (i := 8) nd rfl (Or.inl rfl))) (fun _ _ _ _ _ => pts_nil) (fun _ _ _ _ _ => (pe_callB (callMax2 rfl) (by rfl) T.max (by decide +kernel) (pa_cons pe_int (pa_cons (pe_callB (callMin2 rfl) (by rfl) T.min (by decide +kernel) (pa_cons (pe_op opPow pe_int pe_int) (pa_cons (pv 8) pa_nil))) pa_nil)))))))))))), ?_⟩
    try dsimp only [L2.cxOf, L2.Cx.nox]
    simp only [L2.start, N_law_limits, List.map_cons, List.map_nil, List.length_cons, List.length_nil, Nat.reduceAdd, Nat.reduceSub, List.replicate_succ, List.replicate_zero, List.cons_append, List.nil_append]

    cases late
    all_goals
      walk_at "gos"
      refine Gx.lcL_I (fun m => 1 ≤ m ∧ m ≤ 10 ^ 30) (by walk_at "sq") (by walk_at "sz") (fun D i x ms H' hx hD e hp hl hP hz => ?_) (fun D H' ms hD e hp hl hP => ?_)
      · obtain ⟨v, rfl⟩ : ∃ v, x = V.int v := by
          have := List.mem_of_getElem? hx
          simp at this
          rcases this with h | h | h | h | h | h | h <;> exact ⟨_, h⟩
        walk_at "gos"
        refine Gx.app_I hl hP ?_ (by walk_at "ex")
        omega
      · exact k _ ms _ (by walk_at "fr") (by walk_at "exb") (by walk_at "bx") hp hP
local macro_rules | `(tactic| walk_at "call") => `(tactic| ((with_reducible show spLims _ _ _ _); refine use_lims (by walk_at "bx") (by omega) ?_; intro p_ ms_ H_ np_ e_ hB_ hp_ hP_))
local macro_rules | `(tactic| walk_at "call") => `(tactic| ((with_reducible show spBuA _ _ _ _); refine use_buA (by omega) ?_; intro H_ e_))
def spCase : Sp := fun vs H Q _ => ∃ (b : Addr), vs = [.ref b] ∧ Bag b H ∧ ∀ H', ExB b H H' → Q (.bl true) H'
theorem use_case {b : Addr} {H : Hp} {Q : VK} {E : XK} (hb : Bag b H) (q : ∀ H', ExB b H H' → Q (.bl true) H') : spCase ([.ref b] ++ []) H Q E := ⟨b, rfl, hb, q⟩
abbrev s_law_case : Stmt := (top 25)
abbrev N_law_case : List Str := ["_law_bag_here", "_law_segments", "_law_size", "_law_budget", "_law_written_first", "_law_limit"]
theorem sc_law_case : FnScope N_law_case ["_law_bag_here"] (defScope s_law_case) := ⟨rfl, rfl, rfl, by decide +kernel, rfl, by decide +kernel, by decide +kernel⟩
theorem cl_law_case (T : Bl mg) (D : Df K mg "_law_case" s_law_case ["_law_bag_here"]) (C_law_limits : Cl P w K mg base 3 "_law_limits" ["_law_bag_here", "_law_segments", "_law_size", "_law_budget", "_law_written_first"] spLims) (C_law_budget_agrees : Cl P w K mg base 5 "_law_budget_agrees" ["_law_limit", "_law_segments", "_law_size", "_law_written_first"] spBuA) (C_law_segments_agree : Cl P w K mg base 5 "_law_segments_agree" ["_law_limit", "_law_size", "_law_budget", "_law_written_first"] spSeA) (C_law_most_agrees : Cl P w K mg base 4 "_law_most_agrees" ["_law_segments", "_law_size", "_law_budget", "_law_written_first"] spMoA) (C_law_share_agrees : Cl P w K mg base 3 "_law_share_agrees" ["_law_size", "_law_budget"] spShA) (C_law_house : Cl P w K mg base 3 "_law_house" ["_law_bag_here"] spHouse) : Cl P w K mg base 6 "_law_case" ["_law_bag_here"] spCase := by
  have nd := sc_law_case.nd
  refine D.ok sc_law_case (fun vs H Q E h => ?_) (fun f cdv A outer s H vs Q E hr h => ?_)
  · obtain ⟨b, rfl, _⟩ := h
    rfl
  · obtain ⟨b, rfl, hb, k⟩ := h
    have hu := hu64 hr
    refine ⟨_, (pss_cons (ps_asg (pe_cl C_law_house (by exact hr.mono (by decide)) (pa_cons (pv 0) pa_nil)) (pg_tup rfl (pgs_cons (pg_name (i := 1) nd rfl (Or.inl rfl)) (pgs_cons (pg_name (i := 2) nd rfl (Or.inl rfl)) (pgs_cons (pg_name (i := 3) nd rfl (Or.inl rfl)) pgs_nil)))))
    (pss_cons (ps_if (pt_not (pt_val (pe_cl C_law_share_agrees (by exact hr.mono (by decide)) (pa_cons (pv 2) (pa_cons (pv 3) pa_nil)))))
      (pss_one (ps_ret pe_bl))
      pss_nil)
    (pss_cons (ps_for PassesOwn.never rfl (pi_listK (K := K) (by rfl) (pe_lst (pa_cons pe_bl (pa_cons pe_bl pa_nil)))) (pg_name (i := 4) nd rfl (Or.inl rfl))
      (pss_cons (ps_if (pt_not (pt_val (pe_cl C_law_most_agrees (by exact hr.mono (by decide)) (pa_cons (pv 1) (pa_cons (pv 2) (pa_cons (pv 3) (pa_cons (pv 4) pa_nil)))))))
      (pss_one (ps_ret pe_bl))
      pss_nil)
    (pss_one (ps_for PassesOwn.never rfl (pi_listK (K := K) (by rfl) (pe_cl C_law_limits (by exact hr.mono (by decide)) (pa_cons (pv 0) (pa_cons (pv 1) (pa_cons (pv 2) (pa_cons (pv 3) (pa_cons (pv 4) pa_nil))))))) (pg_name (i := 5) nd rfl (Or.inl rfl))
      (pss_cons (ps_if (pt_not (pt_val (pe_cl C_law_segments_agree (by exact hr.mono (by decide)) (pa_cons (pv 5) (pa_cons (pv 2) (pa_cons (pv 3) (pa_cons (pv 4) pa_nil)))))))
      (pss_one (ps_ret pe_bl))
      pss_nil)
    (pss_one (ps_if (pt_not (pt_val (pe_cl C_law_budget_agrees (by exact hr.mono (by decide)) (pa_cons (pv 5) (pa_cons (pv 1) (pa_cons (pv 2) (pa_cons (pv 4) pa_nil)))))))
      (pss_one (ps_ret pe_bl))
      pss_nil)))))))
    (pss_one (ps_ret pe_bl))))), ?_⟩
    try dsimp only [L2.cxOf, L2.Cx.nox]
    simp only [L2.start, N_law_case, List.map_cons, List.map_nil, List.length_cons, List.length_nil, Nat.reduceAdd, Nat.reduceSub, List.replicate_succ, List.replicate_zero, List.cons_append, List.nil_append]

    walk_at "gos"
    rename_i t segs size budget H1 n1 e1 hB1 hp1 hb1 p H2 n2 e2 hp2
    refine Gx.forLB (b := b) (fun i σ' H' => ∃ s4 s5, σ' = [some (.ref b), some (.int segs), some (.int size), some (.int budget), s4, s5] ∧ Bag b H') (by walk_at "sq") (by walk_at "ne") ⟨_, _, rfl, by walk_at "bx"⟩ ?_ ?_
    · rintro i x σ' H' hx e ⟨s4, s5, rfl, hB⟩
      obtain ⟨late, rfl⟩ : ∃ late, x = V.bl late := by
        have := List.mem_of_getElem? hx
        simp at this
        rcases this with h | h <;> exact ⟨_, h⟩
      walk_at "gos"
      rename_i H3 e3 p3 ms H4 n4 e4 hB4 hp4 hP4
      refine Gx.forLB (b := b) (fun i σ' H' => ∃ s5, σ' = [some (.ref b), some (.int segs), some (.int size), some (.int budget), some (.bl late), s5] ∧ Bag b H') (by walk_at "sq") (by walk_at "ne") ⟨_, rfl, by walk_at "bx"⟩ ?_ ?_
      · rintro i x σ' H' hx e ⟨s5, rfl, hB⟩
        obtain ⟨m, rfl, hm⟩ : ∃ m, x = V.int m ∧ 1 ≤ m ∧ m ≤ 10 ^ 30 := by
          have := List.mem_of_getElem? hx
          obtain ⟨m, h1, h2⟩ := List.mem_map.mp this
          exact ⟨m, h2.symm, hP4 m h1⟩
        walk_at "gos"
        exact ⟨by walk_at "exb", _, rfl, by walk_at "bx"⟩
      · rintro σ' H' e ⟨s5, rfl, hB⟩
        walk_at "gos"
        exact ⟨by walk_at "exb", _, _, rfl, by walk_at "bx"⟩
    · rintro σ' H' e ⟨s4, s5, rfl, hB⟩
      walk_at "gos"
      exact k _ (by walk_at "exb")
local macro_rules | `(tactic| walk_at "call") => `(tactic| ((with_reducible show spCase _ _ _ _); refine use_case (by walk_at "bx") ?_; intro H_ e_))
theorem use_bag {K : PySem.W.Frag} {a : Addr} {ns : List Int} {k : Int} {H : Hp} {Q : VK} {E : XK} (hs : SqL K H a (ns.map V.int)) (h : 0 ≤ k ∧ k < 2 ^ 40) (q : ∀ b H', H b = none → Ex H H' → Bag b H' → Q (.ref b) H') : spBag K ([.ref a, .int k] ++ []) H Q E := ⟨a, ns, k, rfl, ⟨hs, h⟩, q⟩
local macro_rules | `(tactic| walk_at "call") => `(tactic| ((with_reducible show spBag _ _ _ _ _); refine use_bag (by walk_at "sq") (by omega) ?_; intro b_ H_ np_ e_ hB_))
def spLaw (K : PySem.W.Frag) : Sp := fun vs H Q _ => ∃ (a : Addr) (ns : List Int), vs = [.ref a] ∧ SqL K H a (ns.map V.int) ∧ ns.length ≤ 63 ∧ (∀ z ∈ ns, Builtin.Int.intBits z ≤ 1048576) ∧ ∀ H', Q (.bl true) H'
abbrev s_law : Stmt := (top 26)
abbrev N_law : List Str := ["_law_script", "_law_k"]
theorem sc_law : FnScope N_law ["_law_script"] (defScope s_law) := ⟨rfl, rfl, rfl, by decide +kernel, rfl, by decide +kernel, by decide +kernel⟩
theorem ok_law {f : Addr} {fd : FuncData} (T : Bl mg) (F : Fun K "law" "law" s_law f fd) (C_law_case : Cl P w K mg base 6 "_law_case" ["_law_bag_here"] spCase) (C_law_bag : Cl P w K mg base 1 "_law_bag" ["_law_script", "_law_k"] (spBag K)) : FnOk P w K mg base CX0 7 f fd ["_law_script"] (spLaw K) := by
  have nd := sc_law.nd
  refine F.ok sc_law (fun vs H Q E h => ?_) (fun cdv A outer s H vs Q E hr h => ?_)
  · obtain ⟨a, ns, rfl, _⟩ := h
    rfl
  · obtain ⟨a, ns, rfl, hs, hl, hbits, k⟩ := h
    have hu := hu64 hr
    refine ⟨_, (pss_cons (ps_for PassesOwn.never rfl (pi_range1 rfl T.range (pa_cons (pe_callB (callMax2 rfl) (by rfl) T.max (by decide +kernel) (pa_cons pe_int (pa_cons (pe_callB (callMin2 rfl) (by rfl) T.min (by decide +kernel) (pa_cons pe_int (pa_cons (pe_callB (callLenK (K := K) (by rfl)) (by rfl) T.len (by decide +kernel) (pa_cons (pv 0) pa_nil)) pa_nil))) pa_nil))) pa_nil)) (pg_name (i := 1) nd rfl (Or.inl rfl))
      (pss_one (ps_if (pt_not (pt_val (pe_cl C_law_case (by exact hr.mono (by decide)) (pa_cons (pe_cl C_law_bag (by exact hr.mono (by decide)) (pa_cons (pv 0) (pa_cons (pv 1) pa_nil))) pa_nil))))
      (pss_one (ps_ret pe_bl))
      pss_nil)))
    (pss_one (ps_ret pe_bl))), ?_⟩
    try dsimp only [L2.cxOf, L2.Cx.nox]
    simp only [L2.start, N_law, List.map_cons, List.map_nil, List.length_cons, List.length_nil, Nat.reduceAdd, Nat.reduceSub, List.replicate_succ, List.replicate_zero, List.cons_append, List.nil_append]

    have hl2 : ((ns.map V.int).length : Int) ≤ 63 := by rw [List.length_map]; omega
    walk_at "gos"
    refine Gx.for1 (fun i σ' H' => ∃ s1, σ' = [some (.ref a), s1] ∧ Ex H H') (by omega) ⟨_, rfl, Ex.refl _⟩ ?_ ?_
    · rintro i σ' H' hi ⟨s1, rfl, e⟩
      walk_at "gos"
      exact ⟨_, rfl, by walk_at "ex"⟩
    · rintro σ' H' ⟨s1, rfl, e⟩
      walk_at "gos"
      exact k _

end
theorem all_mk {l : PySem.W.OpenLaw} {w : World} {K : PySem.W.Frag} {h : Heap} {mg : Str → Option Value} {fa : Addr} (X : K.In h) (G : h.Ns mainGlobals mg) (hfa : mg "law" = some (.ref fa)) (T : Bl mg) (D_law_bag : Df K mg "_law_bag" s_law_bag ["_law_script", "_law_k"]) (D_law_take : Df K mg "_law_take" s_law_take ["_law_bag_here", "_law_size"]) (D_law_number : Df K mg "_law_number" s_law_number ["_law_bag_here", "_law_most_here"]) (D_at_least : Df K mg "at_least" s_at_least ["value", "least", "field"]) (D_ceil_div : Df K mg "ceil_div" s_ceil_div ["a", "b"]) (D_segment_share : Df K mg "segment_share" s_segment_share ["size", "budget"]) (D_keys_of_others : Df K mg "_keys_of_others" s_keys_of_others ["limit", "late"]) (D_segments_limit : DfK K mg "segments_limit" s_segments_limit [("late", .bl false)]) (D_least_segments : DfK K mg "least_segments" s_least_segments [("late", .bl false)]) (D_least_segment_budget : DfK K mg "least_segment_budget" s_least_segment_budget [("late", .bl false)]) (D_law_is_number : Df K mg "_law_is_number" s_law_is_number ["_law_told"]) (D_law_share : Df K mg "_law_share" s_law_share ["_law_size", "_law_budget"]) (D_law_most : Df K mg "_law_most" s_law_most ["_law_segments", "_law_size", "_law_budget", "_law_written_first"]) (D_law_share_agrees : Df K mg "_law_share_agrees" s_law_share_agrees ["_law_size", "_law_budget"]) (D_law_most_agrees : Df K mg "_law_most_agrees" s_law_most_agrees ["_law_segments", "_law_size", "_law_budget", "_law_written_first"]) (D_law_segments_agree : Df K mg "_law_segments_agree" s_law_segments_agree ["_law_limit", "_law_size", "_law_budget", "_law_written_first"]) (D_law_budget_agrees : Df K mg "_law_budget_agrees" s_law_budget_agrees ["_law_limit", "_law_segments", "_law_size", "_law_written_first"]) (D_law_house : Df K mg "_law_house" s_law_house ["_law_bag_here"]) (D_law_limits : Df K mg "_law_limits" s_law_limits ["_law_bag_here", "_law_segments", "_law_size", "_law_budget", "_law_written_first"]) (D_law_case : Df K mg "_law_case" s_law_case ["_law_bag_here"]) (D_law : Df K mg "law" s_law ["_law_script"]) :
    ∃ fd : FuncData, (∀ (s : Shared) (u : Value), BindsTo s fd ⟨[u], []⟩ [("_law_script", u)]) ∧ ∀ base : Heap, K.In base → base.Ns mainGlobals mg → FnOk l.prog w K mg base CX0 7 fa fd ["_law_script"] (spLaw K) := by
  obtain ⟨f, fd, h1, F, h3⟩ := D_law.ex
  have e := hfa.symm.trans h1
  cases e
  refine ⟨fd, fun s u => .of_eq (h3 [u] rfl), fun base _ _ => ?_⟩
  have C_law_bag : Cl l.prog w K mg base 1 "_law_bag" ["_law_script", "_law_k"] (spBag K) := cl_law_bag T D_law_bag 
  have C_law_take : Cl l.prog w K mg base 1 "_law_take" ["_law_bag_here", "_law_size"] spTake := cl_law_take T D_law_take 
  have C_law_number : Cl l.prog w K mg base 2 "_law_number" ["_law_bag_here", "_law_most_here"] spNumber := cl_law_number T D_law_number C_law_take
  have C_at_least : Cl l.prog w K mg base 1 "at_least" ["value", "least", "field"] spAtl := cl_at_least T D_at_least 
  have C_ceil_div : Cl l.prog w K mg base 1 "ceil_div" ["a", "b"] spCdiv := cl_ceil_div T D_ceil_div 
  have C_segment_share : Cl l.prog w K mg base 2 "segment_share" ["size", "budget"] spShare := cl_segment_share T D_segment_share C_at_least
  have C_keys_of_others : Cl l.prog w K mg base 1 "_keys_of_others" ["limit", "late"] spKeys := cl_keys_of_others T D_keys_of_others 
  have C_segments_limit : ClK l.prog w K mg base 3 "segments_limit" s_segments_limit ["segments", "size", "budget", "late"] [("late", .bl false)] spLim := cl_segments_limit T D_segments_limit C_segment_share C_at_least
  have C_least_segments : ClK l.prog w K mg base 3 "least_segments" s_least_segments ["limit", "size", "budget", "late"] [("late", .bl false)] spFew := cl_least_segments T D_least_segments C_ceil_div C_keys_of_others C_segment_share C_at_least
  have C_least_segment_budget : ClK l.prog w K mg base 2 "least_segment_budget" s_least_segment_budget ["limit", "segments", "size", "late"] [("late", .bl false)] spLsb := cl_least_segment_budget T D_least_segment_budget C_ceil_div C_keys_of_others C_at_least
  have C_law_is_number : Cl l.prog w K mg base 1 "_law_is_number" ["_law_told"] spIsNum := cl_law_is_number T D_law_is_number 
  have C_law_share : Cl l.prog w K mg base 1 "_law_share" ["_law_size", "_law_budget"] spShare := cl_law_share T D_law_share 
  have C_law_most : Cl l.prog w K mg base 2 "_law_most" ["_law_segments", "_law_size", "_law_budget", "_law_written_first"] spLim := cl_law_most T D_law_most C_law_share
  have C_law_share_agrees : Cl l.prog w K mg base 3 "_law_share_agrees" ["_law_size", "_law_budget"] spShA := cl_law_share_agrees T D_law_share_agrees C_law_is_number C_segment_share
  have C_law_most_agrees : Cl l.prog w K mg base 4 "_law_most_agrees" ["_law_segments", "_law_size", "_law_budget", "_law_written_first"] spMoA := cl_law_most_agrees T D_law_most_agrees C_law_is_number C_law_most C_segments_limit
  have C_law_segments_agree : Cl l.prog w K mg base 5 "_law_segments_agree" ["_law_limit", "_law_size", "_law_budget", "_law_written_first"] spSeA := cl_law_segments_agree T D_law_segments_agree C_law_most_agrees C_law_most C_law_is_number C_least_segments
  have C_law_budget_agrees : Cl l.prog w K mg base 5 "_law_budget_agrees" ["_law_limit", "_law_segments", "_law_size", "_law_written_first"] spBuA := cl_law_budget_agrees T D_law_budget_agrees C_law_most_agrees C_law_most C_law_is_number C_least_segment_budget
  have C_law_house : Cl l.prog w K mg base 3 "_law_house" ["_law_bag_here"] spHouse := cl_law_house T D_law_house C_law_number C_law_take
  have C_law_limits : Cl l.prog w K mg base 3 "_law_limits" ["_law_bag_here", "_law_segments", "_law_size", "_law_budget", "_law_written_first"] spLims := cl_law_limits T D_law_limits C_law_take C_law_number C_law_most
  have C_law_case : Cl l.prog w K mg base 6 "_law_case" ["_law_bag_here"] spCase := cl_law_case T D_law_case C_law_limits C_law_budget_agrees C_law_segments_agree C_law_most_agrees C_law_share_agrees C_law_house
  exact ok_law T F C_law_case C_law_bag
theorem walk {l : PySem.W.OpenLaw} {q : Program} {loose : List Str} {XP : (Str → Option Value) → Heap → Prop} {YP : World → Heap → Prop} {d : DefRec} {K : Params → PySem.W.Frag} (hn : l.most = some 63) (hdf : d.params.defaults = [])
    (hY : ∀ (w : World) (h : Heap), YP w h → (K w.params).In h)
    (F : ∀ (w : World) (mg : Str → Option Value) (fa : Addr) (h : Heap), (K w.params).In h → h.Ns mainGlobals mg → mg d.name = some (.ref fa) →
      ∃ fd : FuncData, (∀ (s : Shared) (u : Value), BindsTo s fd ⟨[u], []⟩ [("_law_script", u)]) ∧ ∀ base : Heap, (K w.params).In base → base.Ns mainGlobals mg → FnOk l.prog w (K w.params) mg base CX0 7 fa fd ["_law_script"] (spLaw (K w.params))) :
    PySem.W.WalkO q loose XP YP l.row.toRowW d [] (fun f vs => PySem.call f vs) :=
  L2.walk_ofB (n := 63) (k := 7) (x := "_law_script") (CX := fun _ => CX0) (sp := fun w => spLaw (K w.params)) hn (by decide) hdf ⟨rfl, by decide, by decide⟩ hY F (fun _ _ a ns hl hb _ hS => ⟨a, ns, rfl, hS, hl, hb, fun _ => rfl⟩) fun _ _ _ _ _ z => z
end Toy
open PySem PySem.W PyProof.Rows in
set_option maxRecDepth 100000 in
set_option maxHeartbeats 0 in
theorem PySem.Challenge.cw_carrylog_k04_edges_of_segments_holds : PySem.Challenge.rw_carrylog_k04_edges_of_segments.Holds := by
  w_on; o_law; k_head; (case hw => w_witness2)
  k_fill
  refine Toy.walk (l := PySem.Challenge.rw_carrylog_k04_edges_of_segments) rfl rfl (fun w h Y => PySem.W.kIn_of Y) ?F
  case F =>
    intro w mg fa h KX G hmg
    refine' Toy.all_mk KX G hmg ?T ?d0 ?d1 ?d2 ?d3 ?d4 ?d5 ?d6 ?d7 ?d8 ?d9 ?d10 ?d11 ?d12 ?d13 ?d14 ?d15 ?d16 ?d17 ?d18 ?d19 ?d20
    case T =>
      constructor
      all_goals (refine PySem.W.mg_none_of KX G ?_; k_is)
    (case d0 => (refine' Gx.df_mk KX G ?a ?l ?c ?k (fun us hl => match us, hl with | [_, _], _ => rfl); (case a => k_is); (case l => k_is); (case c => k_is); (case k => k_is)))
    (case d1 => (refine' Gx.df_mk KX G ?a ?l ?c ?k (fun us hl => match us, hl with | [_, _], _ => rfl); (case a => k_is); (case l => k_is); (case c => k_is); (case k => k_is)))
    (case d2 => (refine' Gx.df_mk KX G ?a ?l ?c ?k (fun us hl => match us, hl with | [_, _], _ => rfl); (case a => k_is); (case l => k_is); (case c => k_is); (case k => k_is)))
    (case d3 => (refine' Gx.df_mk KX G ?a ?l ?c ?k (fun us hl => match us, hl with | [_, _, _], _ => rfl); (case a => k_is); (case l => k_is); (case c => k_is); (case k => k_is)))
    (case d4 => (refine' Gx.df_mk KX G ?a ?l ?c ?k (fun us hl => match us, hl with | [_, _], _ => rfl); (case a => k_is); (case l => k_is); (case c => k_is); (case k => k_is)))
    (case d5 => (refine' Gx.df_mk KX G ?a ?l ?c ?k (fun us hl => match us, hl with | [_, _], _ => rfl); (case a => k_is); (case l => k_is); (case c => k_is); (case k => k_is)))
    (case d6 => (refine' Gx.df_mk KX G ?a ?l ?c ?k (fun us hl => match us, hl with | [_, _], _ => rfl); (case a => k_is); (case l => k_is); (case c => k_is); (case k => k_is)))
    (case d7 => (refine' Gx.dfk_mk KX G ?a ?l ?c ?k ?d; (case a => k_is); (case l => k_is); (case c => k_is); (case k => k_is); (case d => (intro q hq; rcases List.mem_cons.mp hq with rfl | hq; exact ⟨_, by k_is, rfl⟩; cases hq))))
    (case d8 => (refine' Gx.dfk_mk KX G ?a ?l ?c ?k ?d; (case a => k_is); (case l => k_is); (case c => k_is); (case k => k_is); (case d => (intro q hq; rcases List.mem_cons.mp hq with rfl | hq; exact ⟨_, by k_is, rfl⟩; cases hq))))
    (case d9 => (refine' Gx.dfk_mk KX G ?a ?l ?c ?k ?d; (case a => k_is); (case l => k_is); (case c => k_is); (case k => k_is); (case d => (intro q hq; rcases List.mem_cons.mp hq with rfl | hq; exact ⟨_, by k_is, rfl⟩; cases hq))))
    (case d10 => (refine' Gx.df_mk KX G ?a ?l ?c ?k (fun us hl => match us, hl with | [_], _ => rfl); (case a => k_is); (case l => k_is); (case c => k_is); (case k => k_is)))
    (case d11 => (refine' Gx.df_mk KX G ?a ?l ?c ?k (fun us hl => match us, hl with | [_, _], _ => rfl); (case a => k_is); (case l => k_is); (case c => k_is); (case k => k_is)))
    (case d12 => (refine' Gx.df_mk KX G ?a ?l ?c ?k (fun us hl => match us, hl with | [_, _, _, _], _ => rfl); (case a => k_is); (case l => k_is); (case c => k_is); (case k => k_is)))
    (case d13 => (refine' Gx.df_mk KX G ?a ?l ?c ?k (fun us hl => match us, hl with | [_, _], _ => rfl); (case a => k_is); (case l => k_is); (case c => k_is); (case k => k_is)))
    (case d14 => (refine' Gx.df_mk KX G ?a ?l ?c ?k (fun us hl => match us, hl with | [_, _, _, _], _ => rfl); (case a => k_is); (case l => k_is); (case c => k_is); (case k => k_is)))
    (case d15 => (refine' Gx.df_mk KX G ?a ?l ?c ?k (fun us hl => match us, hl with | [_, _, _, _], _ => rfl); (case a => k_is); (case l => k_is); (case c => k_is); (case k => k_is)))
    (case d16 => (refine' Gx.df_mk KX G ?a ?l ?c ?k (fun us hl => match us, hl with | [_, _, _, _], _ => rfl); (case a => k_is); (case l => k_is); (case c => k_is); (case k => k_is)))
    (case d17 => (refine' Gx.df_mk KX G ?a ?l ?c ?k (fun us hl => match us, hl with | [_], _ => rfl); (case a => k_is); (case l => k_is); (case c => k_is); (case k => k_is)))
    (case d18 => (refine' Gx.df_mk KX G ?a ?l ?c ?k (fun us hl => match us, hl with | [_, _, _, _, _], _ => rfl); (case a => k_is); (case l => k_is); (case c => k_is); (case k => k_is)))
    (case d19 => (refine' Gx.df_mk KX G ?a ?l ?c ?k (fun us hl => match us, hl with | [_], _ => rfl); (case a => k_is); (case l => k_is); (case c => k_is); (case k => k_is)))
    (case d20 => (refine' Gx.df_mk KX G ?a ?l ?c ?k (fun us hl => match us, hl with | [_], _ => rfl); (case a => k_is); (case l => k_is); (case c => k_is); (case k => k_is)))
#print axioms PySem.Challenge.cw_carrylog_k04_edges_of_segments_holds

