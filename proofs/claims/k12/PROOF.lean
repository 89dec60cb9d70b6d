import PyProof.Rows.All
import Wide.All
import OpenK.AllK
import Wide.FinOn
import HandS.ForMost
import HandS.Wide
import HandS.WideBits
import HandS.IsInst
import HandS.StrMore
import HandS.TupAny
import HandS.EndBits
import PyProof.StrOps2
import KE.OsRunLaw
import HandS.Style
import HandS.Iter
import HandS.Comp
import HandS.Zip
import HandS.Codes
import KE.GoesMore
import PyProof.EnumMake
import PyProof.Draws
import HandS.Defaults
import HandS.MakeKwOnly
import HandS.ExcInit
import HandS.ExcSuper
import HandS.NestedK
import HandS.ClsMeth
import KE.KSuper
import KE.KExcSuper
import HandS.FStr
import HandS.WordsExc
import HandS.ExcIs
import HandS.ExcField
import HandS.HotCalls
import KE.KExcIs
import KE.KIsAll
import HandS.ExcInitHot
import HandS.TryOnly
import HandS.Star
import HandS.Property
import KE.KTupSum
import HandS.Gcd
import Flt.RightSqrt
import HandS.GenList
import HandS.Replace
import PyProof.Rows.StrStrike
import KE.KMathGC
import HandS.Conv
import HandS.ReplaceDef
import HandS.ReplaceLit
import PyProof.ReprNest
import HandS.Text
import HandS.DictComp
import HandS.Finally
import HandS.ListItems
import HandS.SortInts
import HandS.WordsDict
import PyProof.Rows.SortStr
import PyProof.Rows.SortKeyStr
import PySem.Challenge.RW_carrylog_k12_whole_ring_tables
set_option Elab.async false
set_option linter.all false
set_option maxRecDepth 100000
section
local macro_rules
  | `(tactic| refine $t:term) => do
    match t with
    | `($f:ident $args*) =>
      if args.size > 12 then
        let a := args.pop
        let h := Lean.mkIdent `h
        `(tactic| refine' $f $a* (by exact $h))
      else Lean.Macro.throwUnsupported
    | _ => Lean.Macro.throwUnsupported
open PySem PySem.W PyProof.Rows in
set_option maxRecDepth 100000 in
set_option maxHeartbeats 0 in
noncomputable def Toy.hdL : { C : Prop // C → PySem.Challenge.rw_carrylog_k12_whole_ring_tables.Holds } := by
  refine' ⟨_, fun h => ?x⟩
  case x => w_on; o_law; k_headL; (case hw => w_witness2)
end

set_option Elab.async false
set_option linter.all false
set_option maxRecDepth 100000
set_option maxHeartbeats 2000000
/-! Gx: short words over the hand layer: callable defs by name (Df, Cl), operators by the values' kinds, steps of a reading (g_..), heaps that only grow (Ex, ExB). -/
namespace Gx
open PySem PySem.Spec PyProof.Rows L2

/-- n times the text z -/
def repS (z : Str) (n : Nat) : Str := ⟨((List.replicate n z.cps.toList).flatten).toArray⟩
theorem foldl_app (l : List (Array Nat)) : ∀ a : Array Nat, (l.foldl (· ++ ·) a).toList = a.toList ++ (l.map Array.toList).flatten := by
  induction l with
  | nil => intro a; simp
  | cons x r ih => intro a; rw [List.foldl_cons, ih]; simp
theorem repS_fold (z : Str) (n : Nat) : (⟨(List.replicate n z.cps).foldl (· ++ ·) #[]⟩ : Str) = repS z n := by
  unfold repS
  congr 1
  apply Array.toList_inj.mp
  rw [foldl_app]
  simp
theorem repS_one (z : Str) : repS z 1 = z := by
  unfold repS
  simp
theorem repS_nil (z : Str) (n : Nat) (h : z.length = 0) : repS z n = z := by
  obtain ⟨a⟩ := z
  have h' : a = #[] := Array.size_eq_zero_iff.mp h
  subst h'
  unfold repS
  simp
theorem repS_zero (z : Str) : repS z 0 = Str.empty := by
  unfold repS
  simp
  rfl
theorem repS_length (z : Str) (n : Nat) : (repS z n).length = z.length * n := by
  unfold repS Str.length
  simp [Nat.mul_comm]
section
variable {P : Program} {w : World} {K : PySem.W.Frag} {mg : Str → Option Value} {base : Heap}
/-- the def x of the text st as the top left it -/
structure Df (K : PySem.W.Frag) (mg : Str → Option Value) (x : Str) (st : Stmt) (ps : List Str) : Prop where
  ex : ∃ (f : Addr) (fd : FuncData), mg x = some (.ref f) ∧ Fun K x x st f fd ∧ ∀ us : List Value, us.length = ps.length → bindArgs fd ⟨us, []⟩ = pure (ps.zip us)
/-- the def x may be called -/
structure Cl (P : Program) (w : World) (K : PySem.W.Frag) (mg : Str → Option Value) (base : Heap) (k : Nat) (x : Str) (ps : List Str) (sp : Sp) : Prop where
  ex : ∃ (f : Addr) (fd : FuncData), mg x = some (.ref f) ∧ PySem.W.keepIn K (.ref f) = true ∧ (∀ us : List Value, us.length = ps.length → bindArgs fd ⟨us, []⟩ = pure (ps.zip us)) ∧ FnOk P w K mg base CX0 k f fd ps sp
theorem df_mk {h : Heap} {x : Str} {st : Stmt} {ps : List Str} {f : Addr} {oc : Value} {od an : Option Addr} {osl : Array (Option Value)} {kV doc pm cdv ct : Value} (X : K.In h) (G : h.Ns mainGlobals mg)
    (a : PySem.W.nsIn K mainGlobals x = some (some (.ref f))) (l : K.lookup f = some ⟨oc, od, .func (PySem.W.fnOf x x (defArgs st) (defBody st) (defScope st) .none kV doc pm an cdv ct), osl⟩)
    (c : PySem.W.codeIn K cdv x = true) (k : PySem.W.keepIn K (.ref f) = true)
    (b : ∀ us : List Value, us.length = ps.length → bindArgs (PySem.W.fnOf x x (defArgs st) (defBody st) (defScope st) .none kV doc pm an cdv ct) ⟨us, []⟩ = pure (ps.zip us)) : Df K mg x st ps :=
  ⟨f, _, PySem.W.mg_of X G a, fun_mk l c k, b⟩
theorem Df.ok {x : Str} {st : Stmt} {N ps : List Str} {k : Nat} {sp : Sp} (D : Df K mg x st ps) (S : FnScope N ps (defScope st)) (len : ∀ vs H Q E, sp vs H Q E → vs.length = ps.length)
    (hbody : ∀ (f : Addr) (cdv : Value) (A : Around) (outer : List Env) (s : Shared) (H : Hp) (vs : List V) (Q : VK) (E : XK), Room k (A.deeper (envOfC x (defScope st) s.heap.objs.size f cdv)) → sp vs H Q E →
      ∃ t, PSs (cxOf CX0 P w K mg base N x (defScope st) f cdv A outer s H E).nox (defBody st) t ∧ t { nx := fun _ H' => Q .non H', rt := Q } (start N vs) H) : Cl P w K mg base (k + 1) x ps sp := by
  obtain ⟨f, fd, h1, h2, h3⟩ := D.ex
  exact ⟨f, fd, h1, h2.kp, h3, h2.ok S len fun cdv A outer s H vs Q E hr h => hbody f cdv A outer s H vs Q E hr h⟩
theorem Cl.mono {x : Str} {ps : List Str} {j k : Nat} {sp : Sp} (C : Cl P w K mg base j x ps sp) (h : j ≤ k) : Cl P w K mg base k x ps sp := by
  obtain ⟨f, fd, h1, h2, h3, h4⟩ := C.ex
  exact ⟨f, fd, h1, h2, h3, h4.mono h⟩
end

section
variable {X : Cx} {x : Str} {p pos : Pos} {e a b : Expr} {es : List Expr} {t : TA} {ta tb : TE} {k : Nat} {ps : List Str} {sp : Sp}
theorem pe_cl (C : Cl X.prog X.w X.K X.mg X.base k x ps sp) (hr : Room k X.A) (ha : PA X (e :: es) t) (hg : Gl X x := by rfl) (hdb : (x == ("__debug__" : Str)) = false := by decide)
    (he : starEach (e :: es) X.env = (false, eval e X.env) :: starEach es X.env := by rfl) (hpl : (backTo pos (starEach es X.env)).any (·.1) = false := by rfl) :
    PE X (.Call (.Name x p) (e :: es) [] pos) (tCall sp [] E0 t) := by
  obtain ⟨f, fd, h1, h2, h3, h4⟩ := C.ex
  exact pe_call h4 hr hg h1 h2 (Binds.all h3) .nil pass0 ha hdb he hpl
theorem pe_cl0 (C : Cl X.prog X.w X.K X.mg X.base k x ps sp) (hr : Room k X.A) (hg : Gl X x := by rfl) (hdb : (x == ("__debug__" : Str)) = false := by decide) :
    PE X (.Call (.Name x p) [] [] pos) (tCall sp [] E0 tNil) := by
  obtain ⟨f, fd, h1, h2, h3, h4⟩ := C.ex
  exact pe_call0 h4 hr hg h1 h2 (Binds.all h3) .nil pass0 hdb
end


/-! ### keyword-only parameters -/
section
variable {P : Program} {w : World} {K : PySem.W.Frag} {mg : Str → Option Value} {base : Heap}
structure DfK (K : PySem.W.Frag) (mg : Str → Option Value) (x : Str) (st : Stmt) (kws : List (Str × V)) : Prop where
  ex : ∃ (f : Addr) (fd : FuncData), mg x = some (.ref f) ∧ FunD K x x (defArgs st) (defBody st) (defScope st) [] kws f fd
structure ClK (P : Program) (w : World) (K : PySem.W.Frag) (mg : Str → Option Value) (base : Heap) (k : Nat) (x : Str) (st : Stmt) (ps : List Str) (kws : List (Str × V)) (sp : Sp) : Prop where
  ex : ∃ (f : Addr) (fd : FuncData), mg x = some (.ref f) ∧ FunD K x x (defArgs st) (defBody st) (defScope st) [] kws f fd ∧ FnOk P w K mg base CX0 k f fd ps sp
theorem dfk_mk {h : Heap} {x : Str} {st : Stmt} {f D : Addr} {oc : Value} {od an : Option Addr} {osl : Array (Option Value)} {doc pm cdv ct : Value} {kws : List (Str × V)} (X : K.In h) (G : h.Ns mainGlobals mg)
    (a : PySem.W.nsIn K mainGlobals x = some (some (.ref f))) (l : K.lookup f = some ⟨oc, od, .func (PySem.W.fnOf x x (defArgs st) (defBody st) (defScope st) .none (.ref D) doc pm an cdv ct), osl⟩)
    (c : PySem.W.codeIn K cdv x = true) (k : PySem.W.keepIn K (.ref f) = true) (d : ∀ q ∈ kws, ∃ u, PySem.W.nsIn K D q.1 = some (some u) ∧ RelV q.2 u) : DfK K mg x st kws :=
  ⟨f, _, PySem.W.mg_of X G a, ⟨⟨oc, od, .none, .ref D, doc, pm, an, cdv, ct, osl, rfl, l, c, .inl ⟨rfl, rfl⟩, .inr ⟨D, rfl, d⟩⟩, k⟩⟩
theorem DfK.ok {x : Str} {st : Stmt} {N ps : List Str} {kws : List (Str × V)} {k : Nat} {sp : Sp} (D : DfK K mg x st kws) (S : FnScope N ps (defScope st)) (len : ∀ vs H Q E, sp vs H Q E → vs.length = ps.length)
    (hbody : ∀ (f : Addr) (cdv : Value) (A : Around) (outer : List Env) (s : Shared) (H : Hp) (vs : List V) (Q : VK) (E : XK), Room k (A.deeper (envOfC x (defScope st) s.heap.objs.size f cdv)) → sp vs H Q E →
      ∃ t, PSs (cxOf CX0 P w K mg base N x (defScope st) f cdv A outer s H E).nox (defBody st) t ∧ t { nx := fun _ H' => Q .non H', rt := Q } (start N vs) H) : ClK P w K mg base (k + 1) x st ps kws sp := by
  obtain ⟨f, fd, h1, h2⟩ := D.ex
  exact ⟨f, fd, h1, h2, h2.ok S len fun cdv A outer s H vs Q E hr h => by
    obtain ⟨t, a, b⟩ := hbody f cdv A outer s H vs Q E hr h
    exact ⟨t, a.nox, b⟩⟩
end
section
variable {X : Cx} {x : Str} {p pos : Pos} {e : Expr} {es : List Expr} {kw : List Keyword} {t tk : TA} {k : Nat} {ps : List Str} {sp : Sp} {st : Stmt} {kws : List (Str × V)}
theorem pe_clk0 (C : ClK X.prog X.w X.K X.mg X.base k x st ps kws sp) (hr : Room k X.A) (n : Nat) (hk : kws ≠ []) (hn : n + kws.length = ps.length)
    (h : ∀ (D : Addr) (doc pm : Value) (an : Option Addr) (cdv ct : Value) (us ks : List Value), us.length = n → ks.length = kws.length →
      KwChain D ((kws.map (·.1)).zip ks) (bindArgs (PySem.W.fnOf x x (defArgs st) (defBody st) (defScope st) .none (.ref D) doc pm an cdv ct) ⟨us, []⟩) (ps.zip (us ++ ks)))
    (ha : PA X (e :: es) t) (hg : Gl X x := by rfl) (hdb : (x == ("__debug__" : Str)) = false := by decide)
    (he : starEach (e :: es) X.env = (false, eval e X.env) :: starEach es X.env := by rfl) (hpl : (backTo pos (starEach es X.env)).any (·.1) = false := by rfl) :
    PE X (.Call (.Name x p) (e :: es) [] pos) (tCall sp (kws.map (·.2)) E0 t) := by
  obtain ⟨f, fd, h1, h2, h4⟩ := C.ex
  obtain ⟨ds, r, b⟩ := h2.binds0 n hk hn h
  exact pe_call h4 hr hg h1 h2.kp b r pass0 ha hdb he hpl
theorem pe_clk (C : ClK X.prog X.w X.K X.mg X.base k x st ps kws sp) (hr : Room k X.A) (n : Nat) (ks : List Str) (ms : List (Str × V)) (g : {α : Type} → List α → List α → List α → List α) (hk : kws ≠ []) (hms : ∀ q ∈ ms, q ∈ kws)
    (hrel : ∀ {vs mz zs : List V} {us mv ws : List Value}, Vals vs us → Vals mz mv → Vals zs ws → Vals (g vs mz zs) (g us mv ws))
    (h : ∀ (D : Addr) (doc pm : Value) (an : Option Addr) (cdv ct : Value) (us mv ws : List Value), us.length = n → mv.length = ms.length → ws.length = ks.length →
      KwChain D ((ms.map (·.1)).zip mv) (bindArgs (PySem.W.fnOf x x (defArgs st) (defBody st) (defScope st) .none (.ref D) doc pm an cdv ct) ⟨us, ks.zip ws⟩) (ps.zip (g us mv ws)))
    (ha : PA X (e :: es) t) (hkw : PK X kw tk) (hg : Gl X x := by rfl) (hall : (backToKw pos (keywordEach kw X.env)).all (·.1.isSome) = true := by rfl) (hks : (backToKw pos (keywordEach kw X.env)).filterMap (·.1) = ks := by rfl)
    (hdb : (x == ("__debug__" : Str)) = false := by decide) (he : starEach (e :: es) X.env = (false, eval e X.env) :: starEach es X.env := by rfl)
    (hpl : ((backTo pos (starEach (e :: es) X.env)).any (·.1) || (backToKw pos (keywordEach kw X.env)).any (·.1.isNone)) = false := by rfl) :
    PE X (.Call (.Name x p) (e :: es) kw pos) (tCallN n ks.length sp (fun vs zs => g vs (ms.map (·.2)) zs) E0 t tk) := by
  obtain ⟨f, fd, h1, h2, h4⟩ := C.ex
  obtain ⟨mv, b⟩ := h2.kbinds0 n ks ms g hk hms hrel h
  exact pe_callN h4 hr hg h1 h2.kp b pass0 ha hkw hall hks hdb he hpl
end

/-! ### operators by the kinds of the values -/
section
variable {X : Cx}
def rRepS : R2 := fun x y H Q => ∃ (z : Str) (n : Int), x = .str z ∧ y = .int n ∧ (n < 2 ^ 40 ∧ -(2 ^ 40) ≤ n ∧ z.length * n.toNat ≤ 100000) ∧ Q (.str (repS z n.toNat)) H
theorem op_repS : OpR X (binaryOp .Mult) rRepS := by
  intro pins s σ H x y v u Q I rx ry h
  obtain ⟨z, n, rfl, rfl, ⟨h1, h2, h3⟩, q⟩ := h
  obtain ⟨t, rfl⟩ := rx
  obtain ⟨t', rfl⟩ := ry
  have hs : sizeLine = 16777216 := sizeLine_eq
  have hz : Builtin.Str.tooLong (z.length * n.toNat) = false := by
    unfold Builtin.Str.tooLong
    exact decide_eq_false (by omega)
  refine PySem.P.mul_str ?_ (fun h4 h5 => ?_) (fun _ _ => hz) ?_
  · rw [decide_eq_false (by omega), decide_eq_false (by omega)]; rfl
  · intro h6
    have h7 : 0 < n := by omega
    have h8 : ((z.length : Int)) * n ≤ 100000 := by
      have : ((z.length * n.toNat : Nat) : Int) ≤ 100000 := by omega
      rw [Int.natCast_mul, Int.toNat_of_nonneg (by omega)] at this
      exact this
    have h9 : ((2 ^ 63 - 1 : Int) / n + 1) ≤ (z.length : Int) := by omega
    have ha : ((2 ^ 63 - 1 : Int) / n + 1) * n ≤ (z.length : Int) * n := Int.mul_le_mul_of_nonneg_right h9 (by omega)
    have hb : (2 ^ 63 - 1 : Int) < ((2 ^ 63 - 1 : Int) / n + 1) * n := Int.lt_ediv_add_one_mul_self _ h7
    omega
  · by_cases h4 : n < 1
    · rw [if_pos h4]
      refine ⟨by decide, .str Str.empty, H, I.tok _, ⟨_, rfl⟩, ?_⟩
      have e : n.toNat = 0 := by omega
      rw [e, repS_zero] at q
      exact q
    · rw [if_neg h4]
      by_cases h5 : (n == 1 || z.length == 0) = true
      · rw [if_pos h5]
        refine ⟨.str z, H, I, ⟨_, rfl⟩, ?_⟩
        have e : repS z n.toNat = z := by
          rw [Bool.or_eq_true] at h5
          rcases h5 with h5 | h5
          · have e : n.toNat = 1 := by
              have := beq_iff_eq.mp h5
              omega
            rw [e, repS_one]
          · exact repS_nil _ _ (beq_iff_eq.mp h5)
        rw [e] at q
        exact q
      · rw [if_neg h5, repS_fold]
        refine ⟨by rw [repS_length]; omega, .str _, H, I.tok _, ⟨_, rfl⟩, q⟩
end
def rAdd (K : PySem.W.Frag) : R2 := fun x y H Q => rI0 (fun i j => .int (i + j)) x y H Q ∨ (∃ i j, x = .str i ∧ y = .str j ∧ i.length + j.length ≤ sizeLine ∧ Q (.str (i ++ j)) H) ∨ rCat x y H Q ∨ rCatA K x y H Q
def rMul (K : PySem.W.Frag) : R2 := fun x y H Q => rI CMul (fun i j => .int (i * j)) x y H Q ∨ rI CMulX (fun i j => .int (i * j)) x y H Q ∨ rRepS x y H Q ∨ rRep x y H Q
def rSub : R2 := rI0 fun i j => .int (i - j)
def rMod : R2 := rI (fun _ j => 0 < j) fun i j => .int (i % j)
def rDiv : R2 := rI CDivW fun i j => .int (i / j)
def rPow : R2 := rI CPow fun i j => .int (i ^ j.toNat)
def rEqX (K : PySem.W.Frag) : R2 := fun x y H Q => rEq x y H Q ∨ rEqD K x y H Q
def rNeX (K : PySem.W.Frag) : R2 := fun x y H Q => rNe x y H Q ∨ rNeD K x y H Q
def rLt : R2 := rI0 fun i j => .bl (decide (i < j))
def rLe : R2 := rI0 fun i j => .bl (decide (i ≤ j))
def rGt : R2 := rI0 fun i j => .bl (decide (j < i))
def rGe : R2 := rI0 fun i j => .bl (decide (j ≤ i))
def rIsN : R2 := fun x y H Q => y = .non ∧ Q (.bl (decide (x = .non))) H
def rNotN : R2 := fun x y H Q => y = .non ∧ Q (.bl (!decide (x = .non))) H
section
variable {X : Cx}
theorem opAdd : OpR X (binaryOp .Add) (rAdd X.K) := op_add.or (op_add_str.or (op_cat.or op_catA))
theorem opMul : OpR X (binaryOp .Mult) (rMul X.K) := op_mul.or (op_mulX.or (op_repS.or op_rep))
theorem opSub : OpR X (binaryOp .Sub) rSub := op_sub
theorem opMod : OpR X (binaryOp .Mod) rMod := op_mod
theorem opDiv : OpR X (binaryOp .FloorDiv) rDiv := op_fdivW
theorem opPow : OpR X (binaryOp .Pow) rPow := op_pow
theorem opEq (hu : X.A.units + 64 < cLine) : OpR X (compareOp .Eq) (rEqX X.K) := op_eq.or (op_eqD hu)
theorem opNe (hu : X.A.units + 64 < cLine) : OpR X (compareOp .NotEq) (rNeX X.K) := op_ne.or (op_neD hu)
theorem opLt : OpR X (compareOp .Lt) rLt := op_lt
theorem opLe : OpR X (compareOp .LtE) rLe := op_le
theorem opGt : OpR X (compareOp .Gt) rGt := op_gt
theorem opGe : OpR X (compareOp .GtE) rGe := op_ge
theorem opIsN : OpR X (compareOp .Is) rIsN := op_isN
theorem opNotN : OpR X (compareOp .IsNot) rNotN := op_notN
def rInt : List V → Hp → VK → Prop := fun xs H Q => (∃ i, xs = [.int i] ∧ Q (.int i) H) ∨ ∃ k, xs = [.bl k] ∧ Q (.int (if k then 1 else 0)) H
def rAbs : List V → Hp → VK → Prop := fun xs H Q => ∃ i, xs = [.int i] ∧ Q (.int (if i < 0 then -i else i)) H
def rMax2 : List V → Hp → VK → Prop := fun xs H Q => ∃ i j, xs = [.int i, .int j] ∧ Q (.int (if j > i then j else i)) H
def rMin2 : List V → Hp → VK → Prop := fun xs H Q => ∃ i j, xs = [.int i, .int j] ∧ Q (.int (if j < i then j else i)) H
def rLen (K : PySem.W.Frag) : List V → Hp → VK → Prop := fun xs H Q => ∃ x n, xs = [x] ∧ LenV K x H n ∧ Q (.int n) H
def rListOf (K : PySem.W.Frag) : List V → Hp → VK → Prop := fun xs H Q => ∃ p ys, xs = [.ref p] ∧ (SqL K H p ys ∨ SqT K H p ys) ∧ ∀ l, H l = none → Q (.ref l) (upd H l (.lst ys))
def rStr : List V → Hp → VK → Prop := fun xs H Q => ∃ i, xs = [.int i] ∧ i.natAbs.log2 < 1920 ∧ Q (.str (toString i)) H
theorem callStr : CallR X (.type "str") rStr := call_str_int
theorem callInt : CallR X (.type "int") rInt := call_int1
theorem callAbs : CallR X (.builtin "abs") rAbs := call_abs
theorem callMax2 (hc : X.calm = true) : CallR X (.builtin "max") rMax2 := call_max2 hc
theorem callMin2 (hc : X.calm = true) : CallR X (.builtin "min") rMin2 := call_min2 hc
theorem callLen : CallR X (.builtin "len") (rLen X.K) := call_len
theorem callListOf : CallR X (.type "list") (rListOf X.K) := call_list_of
def rSlX (K : PySem.W.Frag) : V → Option Int → Option Int → Hp → VK → Prop := fun x lo hi H Q => rSlL K x lo hi H Q ∨ rSlS x lo hi H Q ∨ rSlA K x lo hi H Q
theorem slAny : SlR X (rSlX X.K) := sl_list.or (sl_str.or sl_tupA)
theorem hu64 {A : Around} {k : Nat} (hr : Room k A) : A.units + 64 < cLine := by
  have := hr.un
  omega
end

/-- the built-in names are not the module's own -/
structure Bl (mg : Str → Option Value) : Prop where
  abs : mg "abs" = none
  all : mg "all" = none
  any : mg "any" = none
  bool : mg "bool" = none
  dict : mg "dict" = none
  divmod : mg "divmod" = none
  enumerate : mg "enumerate" = none
  int : mg "int" = none
  isinstance : mg "isinstance" = none
  len : mg "len" = none
  list : mg "list" = none
  max : mg "max" = none
  min : mg "min" = none
  range : mg "range" = none
  repr : mg "repr" = none
  reversed : mg "reversed" = none
  sorted : mg "sorted" = none
  str : mg "str" = none
  sum : mg "sum" = none
  tuple : mg "tuple" = none
  zip : mg "zip" = none
  ValueError' : mg "ValueError" = none

/-! ### heaps -/
/-- what stood stands, but for what is in bs -/
def Imm (o : HO) : Prop := (∃ xs, o = .tup xs) ∨ (∃ a, o = .own a) ∨ ∃ C dx t, o = .ins C dx [("_budgets", .ref t)]
theorem Imm.lst {xs : List V} (h : Imm (.lst xs)) : False := by
  rcases h with ⟨_, h⟩ | ⟨_, h⟩ | ⟨_, _, _, h⟩ <;> cases h
class Chg (bs : outParam (List Addr)) (H : outParam Hp) (H' : Hp) : Prop where
  keep : ∀ a o, a ∉ bs → H a = some o → H' a = some o
  live : ∀ a, H' a = none → H a = none
  imm : ∀ a o, Imm o → H a = some o → H' a = some o
abbrev Ex (H : Hp) (H' : Hp) : Prop := Chg [] H H'
abbrev ExB (b : Addr) (H : Hp) (H' : Hp) : Prop := Chg [b] H H'
class Nw (H : outParam Hp) (p : Addr) : Prop where
  eq : H p = none
class At (H : Hp) (p : Addr) (o : outParam HO) : Prop where
  eq : H p = some o
class Live (H : Hp) (p : Addr) : Prop where
  ex : ∃ o, H p = some o
class NeC (p q : Addr) : Prop where
  ne : p ≠ q
class NotIn (p : Addr) (bs : List Addr) : Prop where
  out : p ∉ bs
class Anc (H H' : Hp) : Prop where
  none : ∀ a, H' a = none → H a = none
class Nu (H : Hp) (p : Addr) : Prop where
  eq : H p = none
class InNew (c : Addr) (bs : List Addr) (H : Hp) : Prop where
  or : c ∈ bs ∨ H c = none
class SubC (cs bs : List Addr) (H : Hp) : Prop where
  sub : ∀ c ∈ cs, c ∈ bs ∨ H c = none
class RelC (bs : List Addr) (H H' : Hp) : Prop where
  keep : ∀ a o, a ∉ bs → H a = some o → H' a = some o
  imm : ∀ a o, Imm o → H a = some o → H' a = some o
class SqC (K : PySem.W.Frag) (H : Hp) (p : Addr) (xs : outParam (List V)) : Prop where
  sq : SqL K H p xs
class StC (K : PySem.W.Frag) (H : Hp) (p : Addr) (xs : outParam (List V)) : Prop where
  st : SqT K H p xs
section
variable {H H' H1 H0 : Hp} {p q b c : Addr} {o : HO} {bs cs : List Addr} {K : PySem.W.Frag} {xs : List V}
instance : NotIn p [] := ⟨by simp⟩
instance [h : NeC p b] [k : NotIn p bs] : NotIn p (b :: bs) := ⟨by
  intro e
  rcases List.mem_cons.mp e with e | e
  · exact h.ne e
  · exact k.out e⟩
instance (priority := low) atStep [r : Chg cs H1 H] [n : NotIn p cs] [h : At H1 p o] : At H p o := ⟨r.keep p o n.out h.eq⟩
instance ancRefl : Anc H H := ⟨fun _ h => h⟩
instance (priority := low) ancStep [r : Chg cs H1 H'] [k : Anc H H1] : Anc H H' := ⟨fun a h => k.none a (r.live a h)⟩
instance nuOf [n : Nw H1 p] [k : Anc H H1] : Nu H p := ⟨k.none p n.eq⟩
instance liveAt [h : At H p o] : Live H p := ⟨⟨o, h.eq⟩⟩
instance (priority := low) liveStep [r : Chg cs H1 H] [h : Live H1 p] : Live H p := ⟨by
  cases e : H p with
  | none => obtain ⟨o, h⟩ := h.ex; rw [r.live p e] at h; cases h
  | some o => exact ⟨o, rfl⟩⟩
instance neNew [n : Nw H q] [h : Live H p] : NeC p q := ⟨by
  obtain ⟨o, h⟩ := h.ex
  intro e
  rw [e, n.eq] at h
  cases h⟩
instance neNew' [n : Nw H q] [h : Live H p] : NeC q p := ⟨(neNew (H := H)).ne.symm⟩
instance inHere : InNew c (c :: bs) H := ⟨.inl (List.mem_cons_self ..)⟩
instance (priority := low) inThere [h : InNew c bs H] : InNew c (b :: bs) H := ⟨h.or.imp (List.mem_cons_of_mem _) _root_.id⟩
instance inNew [h : Nu H c] : InNew c bs H := ⟨.inr h.eq⟩
instance : SubC [] bs H := ⟨by simp⟩
instance [h : InNew c bs H] [k : SubC cs bs H] : SubC (c :: cs) bs H := ⟨by
  intro d hd
  rcases List.mem_cons.mp hd with e | e
  · rw [e]; exact h.or
  · exact k.sub d e⟩
instance relRefl : RelC bs H H := ⟨fun _ _ _ h => h, fun _ _ _ h => h⟩
instance (priority := low) relStep [r : Chg cs H1 H'] [s : SubC cs bs H] [k : RelC bs H H1] : RelC bs H H' := ⟨fun a o n h => r.keep a o (fun hc => by
  rcases s.sub a hc with e | e
  · exact n e
  · rw [e] at h; cases h) (k.keep a o n h), fun a o i h => r.imm a o i (k.imm a o i h)⟩
theorem rel [r : RelC bs H H'] [k : Anc H H'] : Chg bs H H' := ⟨r.keep, k.none, r.imm⟩
theorem new [h : Nu H p] : Nw H p := ⟨h.eq⟩
theorem at_ [h : At H p o] : At H p o := h
theorem ne_ [h : NeC p q] : p ≠ q := h.ne
instance sqAt [h : At H p (.lst xs)] : SqC K H p xs := ⟨.inl (.inl h.eq)⟩
instance stAt [h : At H p (.tup xs)] : StC K H p xs := ⟨.inl (.inl h.eq)⟩
theorem Chg.rd {a : Addr} {u : HO} (e : Chg bs H H') (n : a ∉ bs) (h : Rd H a u) : Rd H' a u := by
  rcases h with h | ⟨o, h⟩
  · exact .inl (e.keep a _ n h)
  · exact .inr ⟨o, e.keep a _ n h⟩
theorem Chg.l {a : Addr} (e : Chg bs H H') (n : a ∉ bs) (h : SqL K H a xs) : SqL K H' a xs := by
  rcases h with h | h
  · exact .inl (e.rd n h)
  · exact .inr h
theorem Chg.t {a : Addr} (e : Chg bs H H') (n : a ∉ bs) (h : SqT K H a xs) : SqT K H' a xs := by
  rcases h with h | h
  · exact .inl (e.rd n h)
  · exact .inr h
instance (priority := low) sqStep [r : Chg cs H1 H] [n : NotIn p cs] [h : SqC K H1 p xs] : SqC K H p xs := ⟨r.l n.out h.sq⟩
instance (priority := low) stStep [r : Chg cs H1 H] [n : NotIn p cs] [h : StC K H1 p xs] : StC K H p xs := ⟨r.t n.out h.st⟩
theorem Chg.refl (bs : List Addr) (H : Hp) : Chg bs H H := ⟨fun _ _ _ h => h, fun _ h => h, fun _ _ _ h => h⟩
theorem Ex.refl (H : Hp) : Ex H H := Chg.refl _ H
theorem ExB.refl (b : Addr) (H : Hp) : ExB b H H := Chg.refl _ H
theorem Chg.trans {H1 H2 : Hp} (a : Chg bs H H1) (c : Chg bs H1 H2) : Chg bs H H2 := ⟨fun x o n h => c.keep x o n (a.keep x o n h), fun x h => a.live x (c.live x h), fun x o i h => c.imm x o i (a.imm x o i h)⟩
theorem Ex.l {a : Addr} (e : Ex H H') (h : SqL K H a xs) : SqL K H' a xs := Chg.l e (by simp) h
theorem Ex.t {a : Addr} (e : Ex H H') (h : SqT K H a xs) : SqT K H' a xs := Chg.t e (by simp) h
theorem ExB.l {a b : Addr} (e : ExB b H H') (n : a ≠ b) (h : SqL K H a xs) : SqL K H' a xs := Chg.l e (by simpa using n) h
theorem Ex.mk (h : H p = none) : Ex H (upd H p o) := ⟨fun a u _ e => by
  rw [upd_ne (ne_of_none e h)]
  exact e, fun a e => by
  by_cases z : a = p
  · rw [z]; exact h
  · rw [upd_ne z] at e; exact e, fun a u _ e => by
  rw [upd_ne (ne_of_none e h)]
  exact e⟩
theorem ExB.upd (h : H b = some (.lst xs)) : ExB b H (upd H b o) := ⟨fun a u n e => by
  rw [upd_ne (by simpa using n)]
  exact e, fun a e => by
  by_cases z : a = b
  · rw [z, upd_same] at e; cases e
  · rw [upd_ne z] at e; exact e, fun a u i e => by
  by_cases z : a = b
  · rw [z, h] at e
    cases e
    exact i.lst.elim
  · rw [upd_ne z]; exact e⟩
instance (priority := low) atTup [r : Chg cs H1 H] [h : At H1 p (.tup xs)] : At H p (.tup xs) := ⟨r.imm p _ (.inl ⟨xs, rfl⟩) h.eq⟩
/-- a Round of these budgets at a -/
class RdC (C : outParam Addr) (H : Hp) (a : Addr) (bs : outParam (List Int)) : Prop where
  ex : ∃ dx t, H a = some (.ins C dx [("_budgets", .ref t)]) ∧ H t = some (.tup (bs.map V.int))
instance (priority := low) rdStep {C a : Addr} {bs : List Int} [r : Chg cs H1 H] [h : RdC C H1 a bs] : RdC C H a bs := ⟨by
  obtain ⟨dx, t, h1, h2⟩ := h.ex
  exact ⟨dx, t, r.imm _ _ (.inr (.inr ⟨_, _, _, rfl⟩)) h1, r.imm _ _ (.inl ⟨_, rfl⟩) h2⟩⟩
theorem rd_live {C a : Addr} {bs : List Int} (h : RdC C H a bs) : Live H a := ⟨by
  obtain ⟨dx, t, h1, h2⟩ := h.ex
  exact ⟨_, h1⟩⟩
end

/-! ### steps of a reading -/
section
variable {K : PySem.W.Frag} {σ : L2.St} {H H1 H2 : Hp} {Q : VK} {QB : Bool → Hp → Prop} {QL : List V → Hp → Prop} {v x y : V} {i j : Nat} {te ta tb : TE} {tt tu : TT} {tl tr : TA} {r : R2} {D : Ends} {t u : TS} {b c : Bool} {sp : Sp} {dvs : List V} {E : XK}
theorem g_var (h : σ[i]? = some (some v)) (q : Q v H) : tVar i σ H Q := ⟨v, h, q⟩
theorem g_c (q : Q v H) : tC v σ H Q := q
theorem g_op (q : ta σ H fun x H1 => tb σ H1 fun y H2 => r x y H2 Q) : tOp r ta tb σ H Q := q
theorem g_un {r : V → Hp → VK → Prop} (q : ta σ H fun x H1 => r x H1 Q) : tUn r ta σ H Q := q
theorem g_test (q : te σ H fun x H' => ∃ k, x = .bl k ∧ QB k H') : tTest te σ H QB := q
theorem g_tB (q : te σ H fun x H' => ∃ k, x = .bl k ∧ QB k H') : tB te σ H QB := q
theorem g_not (q : tt σ H fun c H1 => QB (!c) H1) : tNot tt σ H QB := q
theorem g_and (q : tt σ H fun c H1 => if c = true then tu σ H1 QB else QB false H1) : tAnd tt tu σ H QB := q
theorem g_or (q : tt σ H fun c H1 => if c = true then QB true H1 else tu σ H1 QB) : tOr tt tu σ H QB := q
theorem g_notV (q : te σ H fun x H1 => ∃ c, x = .bl c ∧ Q (.bl (!c)) H1) : tNotV te σ H Q := q
theorem g_andV (q : ta σ H fun x H1 => ∃ c, x = .bl c ∧ if c = true then tb σ H1 Q else Q (.bl false) H1) : tAndV ta tb σ H Q := q
theorem g_orV (q : ta σ H fun x H1 => ∃ c, x = .bl c ∧ if c = true then Q (.bl true) H1 else tb σ H1 Q) : tOrV ta tb σ H Q := q
theorem g_if (q : tt σ H fun c H1 => if c = true then ta σ H1 Q else tb σ H1 Q) : tIf tt ta tb σ H Q := q
theorem g_ifs (q : tt σ H fun c H1 => if c = true then t D σ H1 else u D σ H1) : tIfS tt t u D σ H := q
theorem g_ex {R : Bool → Prop} (q : R b) : ∃ k, V.bl b = .bl k ∧ R k := ⟨b, rfl, q⟩
theorem g_seq (q : t { D with nx := u D } σ H) : tSeq t u D σ H := q
theorem g_seqM {a : L2.St → Hp → Prop} {rt : VK} {bk ct : L2.St → Hp → Prop} (q : t (Ends.mk (u (Ends.mk a rt bk ct)) rt bk ct) σ H) : tSeq t u (Ends.mk a rt bk ct) σ H := q
theorem g_asg (q : te σ H fun x H1 => D.nx (σ.set i (some x)) H1) : tAsg te (gName i) D σ H := q
theorem g_asgG {g : TG} (q : te σ H fun x H1 => g x σ H1 D.nx) : tAsg te g D σ H := q
theorem g_ret (q : te σ H D.rt) : tRet te D σ H := q
theorem g_drop (q : te σ H fun _ H1 => D.nx σ H1) : tDrop te D σ H := q
theorem g_next (q : D.nx σ H) : tNext D σ H := q
theorem g_nx {a : L2.St → Hp → Prop} {rt : VK} {bk ct : L2.St → Hp → Prop} (q : a σ H) : (Ends.mk a rt bk ct).nx σ H := q
theorem g_rt {a : L2.St → Hp → Prop} {rt : VK} {bk ct : L2.St → Hp → Prop} (q : rt v H) : (Ends.mk a rt bk ct).rt v H := q
theorem g_call (q : tl σ H fun vs H1 => sp (vs ++ dvs) H1 Q E) : tCall sp dvs E tl σ H Q := q
theorem g_cons (q : te σ H fun x H1 => tl σ H1 fun xs H2 => QL (x :: xs) H2) : tCons te tl σ H QL := q
theorem g_nil (q : QL [] H) : tNil σ H QL := q
theorem g_cb {r : List V → Hp → VK → Prop} (q : tl σ H fun vs H1 => r vs H1 Q) : tCB r tl σ H Q := q
theorem g_lst (q : tl σ H fun xs H1 => xs.length ≤ sizeLine ∧ ∀ p, H1 p = none → Q (.ref p) (upd H1 p (.lst xs))) : tLst tl σ H Q := q
theorem g_tup (q : tl σ H fun xs H1 => xs.length ≤ sizeLine ∧ ∀ p, H1 p = none → Q (.ref p) (upd H1 p (.tup xs))) : tTup tl σ H Q := q
theorem g_sz {n : Nat} {R : Prop} (h : n ≤ 100000) (q : R) : n ≤ sizeLine ∧ R := ⟨Nat.le_trans h (by decide), q⟩
theorem g_len {y : V} {n : Nat} (h : LenV K y H n) (q : Q (.int n) H) : rLen K [y] H Q := ⟨y, n, rfl, h, q⟩
theorem len_l {p : Addr} {xs : List V} [h : SqC K H p xs] : LenV K (.ref p) H xs.length := .inl ⟨xs, h.sq, rfl⟩
theorem len_t {p : Addr} {xs : List V} [h : StC K H p xs] : LenV K (.ref p) H xs.length := .inr ⟨xs, h.st, rfl⟩
theorem len_s {z : Str} (h : z.length ≤ 100000) : LenV K (.str z) H z.length := ⟨Nat.le_trans h (by decide), rfl⟩
theorem g_int {i : Int} (q : Q (.int i) H) : rInt [V.int i] H Q := .inl ⟨i, rfl, q⟩
theorem g_intB {k : Bool} (q : Q (.int (if k then 1 else 0)) H) : rInt [V.bl k] H Q := .inr ⟨k, rfl, q⟩
theorem g_abs {i : Int} (q : Q (.int (if i < 0 then -i else i)) H) : rAbs [V.int i] H Q := ⟨i, rfl, q⟩
theorem g_max2 {i j : Int} (q : Q (.int (if j > i then j else i)) H) : rMax2 [V.int i, .int j] H Q := ⟨i, j, rfl, q⟩
theorem g_min2 {i j : Int} (q : Q (.int (if j < i then j else i)) H) : rMin2 [V.int i, .int j] H Q := ⟨i, j, rfl, q⟩
theorem g_ixL {p : Addr} {xs : List V} {i : Int} [h : SqC K H p xs] (a : atI xs i = some v) (q : Q v H) : rIx K (.ref p) (.int i) H Q := .inl ⟨p, xs, i, v, rfl, rfl, h.sq, a, q⟩
theorem g_ixT {p : Addr} {xs : List V} {i : Int} [h : StC K H p xs] (a : atI xs i = some v) (q : Q v H) : rIx K (.ref p) (.int i) H Q := .inr (.inl ⟨p, xs, i, v, rfl, rfl, h.st, a, q⟩)
theorem g_ixI {p : Addr} {ns : List Int} {i : Int} [h : SqC K H p (ns.map V.int)] (h0 : 0 ≤ i) (h1 : i < (ns.length : Int)) (q : Q (.int (ns.getD i.toNat 0)) H) : rIx K (.ref p) (.int i) H Q := by
  refine g_ixL ?_ q
  obtain ⟨j, rfl⟩ : ∃ j : Nat, i = (j : Int) := ⟨i.toNat, by omega⟩
  refine atI_nat ?_
  have h2 : j < ns.length := by omega
  rw [List.getElem?_map, List.getElem?_eq_getElem h2, Option.map_some, Int.toNat_natCast, List.getD_eq_getElem?_getD, List.getElem?_eq_getElem h2, Option.getD_some]
theorem g_ixS {z : Str} {i : Int} {c : Nat} (h : z.length ≤ 100000) (a : atI z.cps.toList i = some c) (q : Q (.str ⟨#[c]⟩) H) : rIx K (.str z) (.int i) H Q := .inr (.inr ⟨z, i, c, rfl, rfl, Nat.le_trans h (by decide), a, q⟩)
theorem g_gsub {to ti : TE} {ts : TSet} {R : L2.St → Hp → Prop} (q : to σ H fun o H1 => ti σ H1 fun i H2 => ts o i v H2 fun H3 => R σ H3) : gSub to ti ts v σ H R := q
theorem g_set {p : Addr} {xs : List V} {k : Int} {j : Nat} {R : Hp → Prop} [h : At H p (.lst xs)] (hj : ixN xs.length k = some j) (q : ∀ H2, ExB p H H2 → At H2 p (.lst (xs.set j v)) → R H2) : rSetL (.ref p) (.int k) v H R :=
  ⟨p, xs, k, j, rfl, rfl, h.eq, hj, q _ (ExB.upd h.eq) ⟨upd_same⟩⟩
theorem g_sl {r : V → Option Int → Option Int → Hp → VK → Prop} {t1 t2 : TO} (q : te σ H fun x H1 => t1 σ H1 fun l H2 => t2 σ H2 fun u H3 => r x l u H3 Q) : tSl r te t1 t2 σ H Q := q
theorem g_noPart {R : Option Int → Hp → Prop} (q : R none H) : tNoPart σ H R := q
theorem g_part {R : Option Int → Hp → Prop} (q : te σ H fun x H1 => ∃ i, x = .int i ∧ R (some i) H1) : tPart te σ H R := q
theorem g_exI {i : Int} {R : Int → Prop} (q : R i) : ∃ k, V.int i = .int k ∧ R k := ⟨i, rfl, q⟩
theorem g_bm {T : String} {r : V → List V → Hp → VK → Prop} (q : te σ H fun x H1 => tyV K T x H1 ∧ tl σ H1 fun xs H2 => r x xs H2 Q) : tBM K T r te tl σ H Q := q
theorem g_bm0 {T : String} {r : V → List V → Hp → VK → Prop} (q : te σ H fun x H1 => tyV K T x H1 ∧ r x [] H1 Q) : tBM0 K T r te σ H Q := q
theorem g_tyL {p : Addr} {xs : List V} {R : Prop} [h : SqC K H p xs] (q : R) : tyV K "list" (.ref p) H ∧ R := ⟨.inl ⟨rfl, xs, h.sq⟩, q⟩
theorem g_tyS {z : Str} {R : Prop} (q : R) : tyV K "str" (.str z) H ∧ R := ⟨rfl, q⟩
theorem g_app {p : Addr} {xs : List V} [h : At H p (.lst xs)] (hz : xs.length < 100000) (q : ∀ H2, ExB p H H2 → At H2 p (.lst (xs ++ [v])) → Q .non H2) : rAppend (.ref p) [v] H Q :=
  ⟨p, xs, v, rfl, rfl, h.eq, Nat.lt_of_lt_of_le hz (by decide), q _ (ExB.upd h.eq) ⟨upd_same⟩⟩
theorem g_new {o : HO} {R : Addr → Hp → Prop} (q : ∀ p H2, Nw H p → Ex H H2 → At H2 p o → R p H2) : ∀ p, H p = none → R p (upd H p o) := fun p hp => q p _ ⟨hp⟩ (Ex.mk hp) ⟨upd_same⟩

theorem g_I0 {g : Int → Int → V} {i j : Int} (q : Q (g i j) H) : rI0 g (.int i) (.int j) H Q := ⟨i, j, rfl, rfl, q⟩
theorem g_add {i j : Int} (q : Q (.int (i + j)) H) : rAdd K (.int i) (.int j) H Q := .inl ⟨i, j, rfl, rfl, q⟩
theorem g_addS {a b : Str} (h : a.length + b.length ≤ 100000) (q : Q (.str (a ++ b)) H) : rAdd K (.str a) (.str b) H Q := .inr (.inl ⟨a, b, rfl, rfl, Nat.le_trans h (by decide), q⟩)
theorem g_mulL {i j : Int} (h : -(2 ^ 64) < i ∧ i < 2 ^ 64) (q : Q (.int (i * j)) H) : rMul K (.int i) (.int j) H Q := .inl ⟨i, j, rfl, rfl, .inl h, q⟩
theorem g_mulR {i j : Int} (h : -(2 ^ 64) < j ∧ j < 2 ^ 64) (q : Q (.int (i * j)) H) : rMul K (.int i) (.int j) H Q := .inl ⟨i, j, rfl, rfl, .inr h, q⟩
theorem g_mulX {i j : Int} (h : CMulX i j) (q : Q (.int (i * j)) H) : rMul K (.int i) (.int j) H Q := .inr (.inl ⟨i, j, rfl, rfl, h, q⟩)
theorem g_mulS {z : Str} {n : Int} (h : n < 2 ^ 40 ∧ -(2 ^ 40) ≤ n ∧ z.length * n.toNat ≤ 100000) (q : Q (.str (repS z n.toNat)) H) : rMul K (.str z) (.int n) H Q := .inr (.inr (.inl ⟨z, n, rfl, rfl, h, q⟩))
theorem g_sub {i j : Int} (q : Q (.int (i - j)) H) : rSub (.int i) (.int j) H Q := ⟨i, j, rfl, rfl, q⟩
theorem g_mod {i j : Int} (h : 0 < j) (q : Q (.int (i % j)) H) : rMod (.int i) (.int j) H Q := ⟨i, j, rfl, rfl, h, q⟩
theorem g_div {i j : Int} (h : CDivW i j) (q : Q (.int (i / j)) H) : rDiv (.int i) (.int j) H Q := ⟨i, j, rfl, rfl, h, q⟩
theorem cpow_ok {i j : Int} (h1 : 0 ≤ j) (h2 : j ≤ 1000000) (h3 : i.natAbs < 2 ^ 64) : CPow i j := ⟨h1, h2, h3⟩
theorem g_pow {i j k : Int} (h : CPow i j) (e : i ^ j.toNat = k) (q : Q (.int k) H) : rPow (.int i) (.int j) H Q := ⟨i, j, rfl, rfl, h, by show Q (.int (i ^ j.toNat)) H; rw [e]; exact q⟩
theorem g_lt {i j : Int} (q : Q (.bl (decide (i < j))) H) : rLt (.int i) (.int j) H Q := ⟨i, j, rfl, rfl, q⟩
theorem g_le {i j : Int} (q : Q (.bl (decide (i ≤ j))) H) : rLe (.int i) (.int j) H Q := ⟨i, j, rfl, rfl, q⟩
theorem g_gt {i j : Int} (q : Q (.bl (decide (j < i))) H) : rGt (.int i) (.int j) H Q := ⟨i, j, rfl, rfl, q⟩
theorem g_ge {i j : Int} (q : Q (.bl (decide (j ≤ i))) H) : rGe (.int i) (.int j) H Q := ⟨i, j, rfl, rfl, q⟩
theorem dI {i j : Int} : decide (V.int i = V.int j) = decide (i = j) := by
  by_cases h : i = j <;> simp [h]
theorem dB {i j : Bool} : decide (V.bl i = V.bl j) = (i == j) := dec_bl
theorem dS {i j : Str} : decide (V.str i = V.str j) = decide (i = j) := by
  by_cases h : i = j <;> simp [h]
theorem g_eq {i j : Int} (q : Q (.bl (decide (i = j))) H) : rEqX K (.int i) (.int j) H Q := .inl ⟨rfl, by rw [dI]; exact q⟩
theorem g_ne {i j : Int} (q : Q (.bl (!decide (i = j))) H) : rNeX K (.int i) (.int j) H Q := .inl ⟨rfl, by rw [dI]; exact q⟩
theorem g_eqB {i j : Bool} (q : Q (.bl (i == j)) H) : rEqX K (.bl i) (.bl j) H Q := .inl ⟨rfl, by rw [dB]; exact q⟩
theorem g_neB {i j : Bool} (q : Q (.bl (!(i == j))) H) : rNeX K (.bl i) (.bl j) H Q := .inl ⟨rfl, by rw [dB]; exact q⟩
theorem g_eqS {i j : Str} (q : Q (.bl (decide (i = j))) H) : rEqX K (.str i) (.str j) H Q := .inl ⟨rfl, by rw [dS]; exact q⟩
theorem g_neS {i j : Str} (q : Q (.bl (!decide (i = j))) H) : rNeX K (.str i) (.str j) H Q := .inl ⟨rfl, by rw [dS]; exact q⟩
theorem g_isN (q : Q (.bl (decide (x = .non))) H) : rIsN x .non H Q := ⟨rfl, q⟩
theorem g_notN (q : Q (.bl (!decide (x = .non))) H) : rNotN x .non H Q := ⟨rfl, q⟩

theorem g_ite {p : Prop} {_ : Decidable p} {A B : Prop} (h1 : p → A) (h2 : ¬ p → B) : if decide p = true then A else B := by
  by_cases h : p
  · rw [if_pos (decide_eq_true h)]; exact h1 h
  · rw [if_neg (by rw [decide_eq_false h]; exact Bool.false_ne_true)]; exact h2 h
theorem g_iteN {p : Prop} {_ : Decidable p} {A B : Prop} (h1 : ¬ p → A) (h2 : p → B) : if (!decide p) = true then A else B := by
  by_cases h : p
  · rw [if_neg (by rw [decide_eq_true h]; exact Bool.false_ne_true)]; exact h2 h
  · rw [if_pos (by rw [decide_eq_false h]; rfl)]; exact h1 h
theorem iteNT {A B : Prop} (h : A) : if (!false) = true then A else B := iteT h
theorem iteNF {A B : Prop} (h : B) : if (!true) = true then A else B := iteF h
theorem g_itB {A B : Prop} (h1 : b = true → A) (h2 : b = false → B) : if b = true then A else B := by
  cases b
  · rw [if_neg Bool.false_ne_true]; exact h2 rfl
  · rw [if_pos rfl]; exact h1 rfl
theorem g_itNB {A B : Prop} (h1 : b = false → A) (h2 : b = true → B) : if (!b) = true then A else B := by
  cases b
  · exact iteT (h1 rfl)
  · exact iteF (h2 rfl)
end


/-! ### steps found by their head -/
/-- G follows from G' -/
class Step (G : Prop) (G' : outParam Prop) : Prop where
  run : G' → G
class Look (σ : L2.St) (i : Nat) (v : outParam V) : Prop where
  at_ : σ[i]? = some (some v)
instance {v : V} {σ : L2.St} : Look (some v :: σ) 0 v := ⟨rfl⟩
instance {a : Option V} {σ : L2.St} {i : Nat} {v : V} [h : Look σ i v] : Look (a :: σ) (i + 1) v := ⟨by simpa using h.at_⟩
class SetL (σ : L2.St) (i : Nat) (x : Option V) (τ : outParam L2.St) : Prop where
  eq : σ.set i x = τ
instance {a x : Option V} {σ : L2.St} : SetL (a :: σ) 0 x (x :: σ) := ⟨rfl⟩
instance {a x : Option V} {σ τ : L2.St} {i : Nat} [h : SetL σ i x τ] : SetL (a :: σ) (i + 1) x (a :: τ) := ⟨by rw [← h.eq]; rfl⟩
section
variable {K : PySem.W.Frag} {σ τ : L2.St} {H H1 H2 : Hp} {Q : VK} {QB : Bool → Hp → Prop} {QL : List V → Hp → Prop} {v x y : V} {i j : Nat} {te ta tb : TE} {tt tu : TT} {tl tr : TA} {r : R2} {D : Ends} {t u : TS} {b c : Bool} {sp : Sp} {dvs : List V} {E : XK}
instance [h : Look σ i v] : Step (tVar i σ H Q) (Q v H) := ⟨g_var h.at_⟩
instance : Step (tC v σ H Q) (Q v H) := ⟨g_c⟩
instance : Step (tOp r ta tb σ H Q) (ta σ H fun x H1 => tb σ H1 fun y H2 => r x y H2 Q) := ⟨g_op⟩
instance {r : V → Hp → VK → Prop} : Step (tUn r ta σ H Q) (ta σ H fun x H1 => r x H1 Q) := ⟨g_un⟩
instance : Step (tTest te σ H QB) (te σ H fun x H' => ∃ k, x = .bl k ∧ QB k H') := ⟨g_test⟩
instance : Step (tB te σ H QB) (te σ H fun x H' => ∃ k, x = .bl k ∧ QB k H') := ⟨g_tB⟩
instance : Step (tNot tt σ H QB) (tt σ H fun c H1 => QB (!c) H1) := ⟨g_not⟩
instance : Step (tAnd tt tu σ H QB) (tt σ H fun c H1 => if c = true then tu σ H1 QB else QB false H1) := ⟨g_and⟩
instance : Step (tOr tt tu σ H QB) (tt σ H fun c H1 => if c = true then QB true H1 else tu σ H1 QB) := ⟨g_or⟩
instance : Step (tNotV te σ H Q) (te σ H fun x H1 => ∃ c, x = .bl c ∧ Q (.bl (!c)) H1) := ⟨g_notV⟩
instance : Step (tAndV ta tb σ H Q) (ta σ H fun x H1 => ∃ c, x = .bl c ∧ if c = true then tb σ H1 Q else Q (.bl false) H1) := ⟨g_andV⟩
instance : Step (tOrV ta tb σ H Q) (ta σ H fun x H1 => ∃ c, x = .bl c ∧ if c = true then Q (.bl true) H1 else tb σ H1 Q) := ⟨g_orV⟩
instance : Step (tIf tt ta tb σ H Q) (tt σ H fun c H1 => if c = true then ta σ H1 Q else tb σ H1 Q) := ⟨g_if⟩
instance : Step (tIfS tt t u D σ H) (tt σ H fun c H1 => if c = true then t D σ H1 else u D σ H1) := ⟨g_ifs⟩
instance {R : Bool → Prop} : Step (∃ k, V.bl b = .bl k ∧ R k) (R b) := ⟨g_ex⟩
instance {i : Int} {R : Int → Prop} : Step (∃ k, V.int i = .int k ∧ R k) (R i) := ⟨g_exI⟩
instance : Step (tSeq t u D σ H) (t { D with nx := u D } σ H) := ⟨g_seq⟩
instance (priority := high) {a : L2.St → Hp → Prop} {rt : VK} {bk ct : L2.St → Hp → Prop} : Step (tSeq t u (Ends.mk a rt bk ct) σ H) (t (Ends.mk (u (Ends.mk a rt bk ct)) rt bk ct) σ H) := ⟨g_seqM⟩
instance : Step (tAsg te (gName i) D σ H) (te σ H fun x H1 => gName i x σ H1 D.nx) := ⟨fun q => q⟩
instance {R : L2.St → Hp → Prop} [h : SetL σ i (some v) τ] : Step (gName i v σ H R) (R τ H) := ⟨fun q => by show R _ H; rw [h.eq]; exact q⟩
instance : Step (tRet te D σ H) (te σ H D.rt) := ⟨g_ret⟩
instance : Step (tRetN D σ H) (D.rt .non H) := ⟨fun q => q⟩
instance : Step (tDrop te D σ H) (te σ H fun _ H1 => D.nx σ H1) := ⟨g_drop⟩
instance : Step (tNext D σ H) (D.nx σ H) := ⟨g_next⟩
instance : Step (tBreak D σ H) (D.bk σ H) := ⟨fun q => q⟩
instance : Step (tCont D σ H) (D.ct σ H) := ⟨fun q => q⟩
instance {a : L2.St → Hp → Prop} {rt : VK} {bk ct : L2.St → Hp → Prop} : Step ((Ends.mk a rt bk ct).nx σ H) (a σ H) := ⟨g_nx⟩
instance {a : L2.St → Hp → Prop} {rt : VK} {bk ct : L2.St → Hp → Prop} : Step ((Ends.mk a rt bk ct).rt v H) (rt v H) := ⟨g_rt⟩
instance {a : L2.St → Hp → Prop} {rt : VK} {bk ct : L2.St → Hp → Prop} : Step ((Ends.mk a rt bk ct).bk σ H) (bk σ H) := ⟨fun q => q⟩
instance {a : L2.St → Hp → Prop} {rt : VK} {bk ct : L2.St → Hp → Prop} : Step ((Ends.mk a rt bk ct).ct σ H) (ct σ H) := ⟨fun q => q⟩
instance : Step (tCall sp dvs E tl σ H Q) (tl σ H fun vs H1 => sp (vs ++ dvs) H1 Q E) := ⟨g_call⟩
instance : Step (tCons te tl σ H QL) (te σ H fun x H1 => tl σ H1 fun xs H2 => QL (x :: xs) H2) := ⟨g_cons⟩
instance : Step (tNil σ H QL) (QL [] H) := ⟨g_nil⟩
instance {n m : Nat} {gV : List V → List V → List V} : Step (tCallN n m sp gV E tl tr σ H Q) (tl σ H fun vs H1 => tr σ H1 fun zs H2 => vs.length = n ∧ zs.length = m ∧ sp (gV vs zs) H2 Q E) := ⟨fun q => q⟩
instance {r : List V → Hp → VK → Prop} : Step (tCB r tl σ H Q) (tl σ H fun vs H1 => r vs H1 Q) := ⟨g_cb⟩
def rNewL (xs : List V) (H1 : Hp) (Q : VK) : Prop := xs.length ≤ sizeLine ∧ ∀ p, H1 p = none → Q (.ref p) (upd H1 p (.lst xs))
def rNewT (xs : List V) (H1 : Hp) (Q : VK) : Prop := xs.length ≤ sizeLine ∧ ∀ p, H1 p = none → Q (.ref p) (upd H1 p (.tup xs))
theorem g_newL {xs : List V} (hz : xs.length ≤ 100000) (q : ∀ p H2, Nw H p → Ex H H2 → At H2 p (.lst xs) → Q (.ref p) H2) : rNewL xs H Q := ⟨Nat.le_trans hz (by decide), fun p hp => q p _ ⟨hp⟩ (Ex.mk hp) ⟨upd_same⟩⟩
theorem g_newT {xs : List V} (hz : xs.length ≤ 100000) (q : ∀ p H2, Nw H p → Ex H H2 → At H2 p (.tup xs) → Q (.ref p) H2) : rNewT xs H Q := ⟨Nat.le_trans hz (by decide), fun p hp => q p _ ⟨hp⟩ (Ex.mk hp) ⟨upd_same⟩⟩
instance : Step (tLst tl σ H Q) (tl σ H fun xs H1 => rNewL xs H1 Q) := ⟨g_lst⟩
instance : Step (tTup tl σ H Q) (tl σ H fun xs H1 => rNewT xs H1 Q) := ⟨g_tup⟩
instance {i j : Int} : Step (rAdd K (.int i) (.int j) H Q) (Q (.int (i + j)) H) := ⟨g_add⟩
instance {i j : Int} : Step (rSub (.int i) (.int j) H Q) (Q (.int (i - j)) H) := ⟨g_sub⟩
instance {i j : Int} : Step (rLt (.int i) (.int j) H Q) (Q (.bl (decide (i < j))) H) := ⟨g_lt⟩
instance {i j : Int} : Step (rLe (.int i) (.int j) H Q) (Q (.bl (decide (i ≤ j))) H) := ⟨g_le⟩
instance {i j : Int} : Step (rGt (.int i) (.int j) H Q) (Q (.bl (decide (j < i))) H) := ⟨g_gt⟩
instance {i j : Int} : Step (rGe (.int i) (.int j) H Q) (Q (.bl (decide (j ≤ i))) H) := ⟨g_ge⟩
instance {i j : Int} : Step (rEqX K (.int i) (.int j) H Q) (Q (.bl (decide (i = j))) H) := ⟨g_eq⟩
instance {i j : Int} : Step (rNeX K (.int i) (.int j) H Q) (Q (.bl (!decide (i = j))) H) := ⟨g_ne⟩
instance {i j : Bool} : Step (rEqX K (.bl i) (.bl j) H Q) (Q (.bl (i == j)) H) := ⟨g_eqB⟩
instance {i j : Bool} : Step (rNeX K (.bl i) (.bl j) H Q) (Q (.bl (!(i == j))) H) := ⟨g_neB⟩
instance {i j : Str} : Step (rEqX K (.str i) (.str j) H Q) (Q (.bl (decide (i = j))) H) := ⟨g_eqS⟩
instance {i j : Str} : Step (rNeX K (.str i) (.str j) H Q) (Q (.bl (!decide (i = j))) H) := ⟨g_neS⟩
theorem g_isNn (q : Q (.bl true) H) : rIsN .non .non H Q := ⟨rfl, q⟩
theorem g_notNn (q : Q (.bl false) H) : rNotN .non .non H Q := ⟨rfl, q⟩
instance : Step (rIsN .non .non H Q) (Q (.bl true) H) := ⟨g_isNn⟩
instance : Step (rNotN .non .non H Q) (Q (.bl false) H) := ⟨g_notNn⟩
instance {i : Int} : Step (rIsN (.int i) .non H Q) (Q (.bl false) H) := ⟨fun q => ⟨rfl, q⟩⟩
instance {i : Int} : Step (rNotN (.int i) .non H Q) (Q (.bl true) H) := ⟨fun q => ⟨rfl, q⟩⟩
instance {p : Addr} : Step (rIsN (.ref p) .non H Q) (Q (.bl false) H) := ⟨fun q => ⟨rfl, q⟩⟩
instance {p : Addr} : Step (rNotN (.ref p) .non H Q) (Q (.bl true) H) := ⟨fun q => ⟨rfl, q⟩⟩
instance {z : Str} : Step (rIsN (.str z) .non H Q) (Q (.bl false) H) := ⟨fun q => ⟨rfl, q⟩⟩
instance {z : Str} : Step (rNotN (.str z) .non H Q) (Q (.bl true) H) := ⟨fun q => ⟨rfl, q⟩⟩
instance {i : Int} : Step (rInt [V.int i] H Q) (Q (.int i) H) := ⟨g_int⟩
instance {k : Bool} : Step (rInt [V.bl k] H Q) (Q (.int (if k then 1 else 0)) H) := ⟨g_intB⟩
instance {i : Int} : Step (rAbs [V.int i] H Q) (Q (.int (if i < 0 then -i else i)) H) := ⟨g_abs⟩
instance {i j : Int} : Step (rMax2 [V.int i, .int j] H Q) (Q (.int (if j > i then j else i)) H) := ⟨g_max2⟩
instance {i j : Int} : Step (rMin2 [V.int i, .int j] H Q) (Q (.int (if j < i then j else i)) H) := ⟨g_min2⟩
instance {g : Int → V} {i : Int} : Step (rU g (.int i) H Q) (Q (g i) H) := ⟨fun q => ⟨i, rfl, q⟩⟩
instance {to ti : TE} {ts : TSet} {R : L2.St → Hp → Prop} : Step (gSub to ti ts v σ H R) (to σ H fun o H1 => ti σ H1 fun i H2 => ts o i v H2 fun H3 => R σ H3) := ⟨g_gsub⟩
instance (priority := low) {g : TG} : Step (tAsg te g D σ H) (te σ H fun x H1 => g x σ H1 D.nx) := ⟨g_asgG⟩
instance {r : V → Option Int → Option Int → Hp → VK → Prop} {t1 t2 : TO} : Step (tSl r te t1 t2 σ H Q) (te σ H fun x H1 => t1 σ H1 fun l H2 => t2 σ H2 fun u H3 => r x l u H3 Q) := ⟨g_sl⟩
instance {R : Option Int → Hp → Prop} : Step (tNoPart σ H R) (R none H) := ⟨g_noPart⟩
instance {R : Option Int → Hp → Prop} : Step (tPart te σ H R) (te σ H fun x H1 => ∃ i, x = .int i ∧ R (some i) H1) := ⟨g_part⟩
instance {T : String} {r : V → List V → Hp → VK → Prop} : Step (tBM K T r te tl σ H Q) (te σ H fun x H1 => tyV K T x H1 ∧ tl σ H1 fun xs H2 => r x xs H2 Q) := ⟨g_bm⟩
instance {T : String} {r : V → List V → Hp → VK → Prop} : Step (tBM0 K T r te σ H Q) (te σ H fun x H1 => tyV K T x H1 ∧ r x [] H1 Q) := ⟨g_bm0⟩
instance {z : Str} {R : Prop} : Step (tyV K "str" (.str z) H ∧ R) R := ⟨g_tyS⟩
instance {A B : Prop} : Step (if true = true then A else B) A := ⟨iteT⟩
instance {A B : Prop} : Step (if false = true then A else B) B := ⟨iteF⟩
instance {A B : Prop} : Step (if (!false) = true then A else B) A := ⟨iteNT⟩
instance {A B : Prop} : Step (if (!true) = true then A else B) B := ⟨iteNF⟩
end

/-! ### enumerate(text) -/
def Itse (x : Str) : It :=
  ⟨fun i _ => i < x.cps.size, fun i H v H' => ∃ T c, v = .ref T ∧ H T = none ∧ H' = upd H T (.tup [.int (i : Nat), .str ⟨#[c]⟩]) ∧ x.cps[i]? = some c, fun i _ => x.cps.size ≤ i⟩
theorem turn_enumS {P : Program} {w : World} {K : PySem.W.Frag} {elts : List Expr} {kk : Nat} {tpos : Pos} (x : Str) (t : Tok) (e it : Addr) (hne : e ≠ it) :
    Turn P w K (.Tuple elts kk tpos) (Itse x) [e, it] e (fun i h => ((∃ old, IsEnum h e it ((i : Nat) : Int) old) ∧ h.IsStrIter it (strIterType x) x t i) ∧ i ≤ x.cps.size) where
  mem := by simp
  obj := fun i h st b hb => by
    obtain ⟨⟨⟨old, he⟩, o, ho, hc, hd⟩, hle⟩ := st
    have e' : b = e ∨ b = it := by simpa using hb
    rcases e' with z | z
    · rw [z]; exact ⟨_, he, fun v q => nomatch q⟩
    · rw [z]; exact ⟨o, ho, fun v q => by rw [hd] at q; cases q⟩
  keep := fun i h h' st k => by
    obtain ⟨⟨⟨old, he⟩, o, ho, r⟩, hle⟩ := st
    exact ⟨⟨⟨old, k e (by simp) _ he⟩, o, k it (by simp) o ho, r⟩, hle⟩
  item := by
    intro X hP hw hK hc i pins s σ H E I hf st hg
    subst hP hw hK
    obtain ⟨⟨⟨old, he⟩, hit⟩, hle⟩ := st
    have hlt : i < x.cps.size := hg
    have hel : e < s.heap.objs.size := Heap.lt_size he
    have hil : it < s.heap.objs.size := by obtain ⟨_, q, _⟩ := hit; exact Heap.lt_size q
    have D := Draws.text (prog := X.prog) (w := X.w) (A := X.A.in1) (I.ok.hd hc) it x t
    refine wpAny_pyNext_enum_itemD D he hit hlt hne (by simpa using hne) fun v h' tk hv ho hit' hT hsz hk => ?_
    obtain ⟨c, u, hcx, rfl⟩ := hv
    refine ⟨_, rfl, wpAny_letOwnedTupleGo_enum (s := { s with heap := h', toks := tk + 1 }) ho fun h'' he' sb => ?_⟩
    have hT2 : h''.get? s.heap.objs.size = some { cls := .type "tuple", data := .seq #[.int i tk, .str ⟨#[c]⟩ u] } := (sb.2 _ (Nat.ne_of_gt hel)).trans hT
    have new : ObjOk X.prog X.w (upd H s.heap.objs.size (.tup [.int (i : Nat), .str ⟨#[c]⟩])) h'' s.heap.objs.size (.tup [.int (i : Nat), .str ⟨#[c]⟩]) :=
      ⟨by show 2 ≤ sizeLine; decide, [.int i tk, .str ⟨#[c]⟩ u], .cons ⟨_, rfl⟩ (.cons ⟨_, rfl⟩ .nil), ⟨_, hT2, rfl, _, rfl⟩⟩
    have I1 : Inv X pins σ (upd H s.heap.objs.size (.tup [.int (i : Nat), .str ⟨#[c]⟩])) { s with heap := h'', toks := tk + 1 } :=
      I.turnedNew (ch := [e, it]) (fun b ob hb q => (sb.2 b (fun z => hb (by simp [z]))).trans (hk b ob (fun z => hb (by simp [z])) (fun z => hb (by simp [z])) q)) hf (Nat.le_refl _) new
    refine ⟨.ref s.heap.objs.size, _, I1, rfl, ⟨_, c, rfl, I.hok.fresh (Nat.le_refl _), rfl, hcx⟩, ⟨⟨⟨.str ⟨#[c]⟩ u, ?_⟩, ?_⟩, hlt⟩, fun b hb => ?_⟩
    · have e1 : ((i + 1 : Nat) : Int) = (i : Int) + 1 := by omega
      rw [e1]; exact he'
    · obtain ⟨o, e1, r⟩ := hit'
      exact ⟨o, (sb.2 it (Ne.symm hne)).trans e1, r⟩
    · have hb' : b < s.heap.objs.size := by
        have e' : b = e ∨ b = it := by simpa using hb
        rcases e' with z | z
        · rw [z]; exact hel
        · rw [z]; exact hil
      rw [upd_ne (Nat.ne_of_lt hb')]
      exact (hf b hb).1
  done := by
    intro X hP hw hK hc i pins s σ H E I hf st hg
    subst hP hw hK
    obtain ⟨⟨⟨old, he⟩, hit⟩, hle⟩ := st
    have hge : x.cps.size ≤ i := hg
    obtain ⟨f0, f1, f2, f3, f4, f5⟩ := hf it (by simp)
    have ei : i = x.cps.size := Nat.le_antisymm hle hge
    subst ei
    have D := Draws.text (prog := X.prog) (w := X.w) (A := X.A.in1) (I.ok.hd hc) it x t
    exact wpAny_pyNext_enum_endD D he hit fun h' eb => ⟨rfl, I.turned (t' := s.toks) (fun b o hb q => eb b o hb q) f0 f1 f3 f4 f5⟩
  self := fun A i s Q E st h => let ⟨⟨⟨_, he⟩, _⟩, _⟩ := st; wpAny_pyIter_enum he h
def iEnumS (ta : TA) : TI := fun σ H R => ta σ H fun vs H1 => ∃ x, vs = [.str x] ∧ R (Itse x) H1
theorem pi_enumS {X : Cx} {e : Expr} {ta : TA} {p pos tpos : Pos} {elts : List Expr} {kk : Nat} (hg : Gl X "enumerate") (hm : X.mg "enumerate" = none) (ha : PA X [e] ta) (hs : starEach [e] X.env = [(false, eval e X.env)] := by rfl) :
    PI X (.Tuple elts kk tpos) (.Call (.Name "enumerate" p) [e] [] pos) (iEnumS ta) := by
  refine ⟨fun pins s σ H R I h => ?_⟩
  refine Call_ (ld_blt I hg hm boot_enumerate (PyProof.Rows.callWith_type1 (thn (ha.run pos pins s σ H _ I h) fun us s1 ⟨vs, H1, I1, r1, q1⟩ => ?_) hs rfl))
  obtain ⟨x, ex, q⟩ := q1
  subst ex
  cases r1 with
  | cons r rr =>
    cases rr
    obtain ⟨t, rfl⟩ := r
    refine call_enumerate_str fun h' he hit hsz hk => wpAny_pyIter_enum he ?_
    have I2 : Inv X pins σ H1 { s1 with heap := h' } := I1.kept (t' := s1.toks) hk
    refine ⟨s1.heap.objs.size + 1, [s1.heap.objs.size + 1, s1.heap.objs.size], _, _, H1, rfl, I2, turn_enumS x t (s1.heap.objs.size + 1) s1.heap.objs.size (Nat.succ_ne_self _), ⟨⟨⟨.none, he⟩, hit⟩, Nat.zero_le _⟩, fun b hb => ?_, q⟩
    have e' : b = s1.heap.objs.size + 1 ∨ b = s1.heap.objs.size := by simpa using hb
    have hle : s1.heap.objs.size ≤ b := by
      rcases e' with z | z
      · rw [z]; exact Nat.le_add_right _ _
      · rw [z]; exact Nat.le_refl _
    exact I1.fpOk hle (I1.hok.fresh hle)
/-! ### loops -/
section
variable {K : PySem.W.Frag} {σ τ : L2.St} {H : Hp} {Q : VK} {j : Nat} {ta : TA} {te tl : TE} {tt : TT} {D : Ends} {tb : TS} {g : TG}
/-- any iterator told by what it gives: n items, where S stands, the i-th as Y tells -/
structure Feeds (J : It) (n : Nat) (S : Hp → Prop) (Y : Nat → Hp → V → Hp → Prop) : Prop where
  go : ∀ i H, S H → i < n → J.go i H
  yld : ∀ i H x H', S H → i < n → J.yld i H x H' → Y i H x H'
  stop : ∀ H, S H → J.stop n H
abbrev ForW (J : It) (g : TG) (tb : TS) (D : Ends) (σ : L2.St) (H : Hp) : Prop := ∃ W : Nat → Nat → L2.St → Hp → Prop, (∃ m, W 0 m σ H) ∧ ∀ i m σ H, W i m σ H →
      (J.stop i H ∧ D.nx σ H) ∨ (J.go i H ∧ ∃ N : L2.St → Hp → Prop, (∀ σ' H', N σ' H' → ∃ m', m' < m ∧ W (i + 1) m' σ' H') ∧ ∀ v H', J.yld i H v H' → g v σ H' fun σ2 H2 => tb { D with nx := N, ct := N, bk := D.nx } σ2 H2)
abbrev LcW (J : It) (g : TG) (tt : TT) (te : TE) (vs : List Nat) (σ : L2.St) (H : Hp) (Q : VK) : Prop := ∀ D, H D = none → ∃ W : Nat → Nat → Hp → Prop, (∃ m, W 0 m (upd H D (.lst []))) ∧ ∀ i m H, W i m H →
      (J.stop i H ∧ Q (.ref D) H) ∨ (J.go i H ∧ ∃ Nx : Hp → Prop, (∀ H', Nx H' → ∃ m', m' < m ∧ W (i + 1) m' H') ∧ ∀ x H', J.yld i H x H' → g x (wipe σ vs) H' fun σ2 H2 => wipe σ2 vs = wipe σ vs ∧ tt σ2 H2 fun b H3 =>
        if b = true then te σ2 H3 fun y H4 => ∃ acc, H4 D = some (.lst acc) ∧ acc.length < sizeLine ∧ Nx (upd H4 D (.lst (acc ++ [y]))) else Nx H3)
/-- the invariant: what is not in bs stands as it stood at H, and Pv -/
def LI (bs : List Addr) (H : Hp) (Pv : L2.St → Hp → Prop) : L2.St → Hp → Prop := fun σ' H' => Chg bs H H' ∧ Pv σ' H'
theorem li {bs : List Addr} {H H' : Hp} {Pv : L2.St → Hp → Prop} {σ' : L2.St} [r : RelC bs H H'] [k : Anc H H'] (h : Pv σ' H') : LI bs H Pv σ' H' := ⟨rel, h⟩
theorem for_feeds {J : It} {n : Nat} {S : Hp → Prop} {Y : Nat → Hp → V → Hp → Prop} (F : Feeds J n S Y) (bs : List Addr) (Pv : Nat → L2.St → Hp → Prop) (h0 : Pv 0 σ H) (hS : ∀ H', Chg bs H H' → S H')
    (hs : ∀ (i : Nat) σ' H' x H'', i < n → Chg bs H H' → Pv i σ' H' → Y i H' x H'' → g x σ' H'' fun σ2 H2 => tb { D with nx := LI bs H (Pv (i + 1)), ct := LI bs H (Pv (i + 1)), bk := D.nx } σ2 H2) (hd : ∀ σ' H', Chg bs H H' → Pv n σ' H' → D.nx σ' H') :
    ForW J g tb D σ H := by
  refine ⟨fun i m σ' H' => m = n - i ∧ i ≤ n ∧ LI bs H (Pv i) σ' H', ⟨n, rfl, Nat.zero_le _, Chg.refl _ _, h0⟩, ?_⟩
  rintro i m σ' H' ⟨rfl, hi, r, p⟩
  have q := hS H' r
  by_cases hlt : i < n
  · exact .inr ⟨F.go i H' q hlt, LI bs H (Pv (i + 1)), fun σ' H' p' => ⟨n - (i + 1), by omega, rfl, hlt, p'⟩, fun v H'' y => hs i σ' H' v H'' hlt r p (F.yld i H' v H'' q hlt y)⟩
  · have e : i = n := by omega
    subst e
    exact .inl ⟨F.stop H' q, hd σ' H' r p⟩
/-- within a comprehension: the list made so far, at D -/
def rW (D : Addr) (P : List V → Hp → Prop) (H' : Hp) : Prop := ∃ acc, H' D = some (.lst acc) ∧ P acc H'
def rApp (D : Addr) (W : Hp → Prop) (y : V) (H4 : Hp) : Prop := ∃ acc, H4 D = some (.lst acc) ∧ acc.length < sizeLine ∧ W (upd H4 D (.lst (acc ++ [y])))
theorem g_rapp {D : Addr} {P : List V → Hp → Prop} {y : V} {acc : List V} {H4 : Hp} [h : At H4 D (.lst acc)] (hz : acc.length < 100000) (q : ∀ H5, ExB D H4 H5 → At H5 D (.lst (acc ++ [y])) → P (acc ++ [y]) H5) : rApp D (rW D P) y H4 :=
  ⟨acc, h.eq, Nat.lt_of_lt_of_le hz (by decide), _, upd_same, q _ (ExB.upd h.eq) ⟨upd_same⟩⟩
theorem g_rW {D : Addr} {P : List V → Hp → Prop} {acc : List V} {H4 : Hp} [h : At H4 D (.lst acc)] (q : P acc H4) : rW D P H4 := ⟨acc, h.eq, q⟩
class Wipe (σ : L2.St) (vs : List Nat) (τ : outParam L2.St) : Prop where
  eq : wipe σ vs = τ
instance : Wipe σ [] σ := ⟨rfl⟩
instance {v : Nat} {vs : List Nat} {ρ : L2.St} [h : Wipe σ vs ρ] [k : SetL ρ v none τ] : Wipe σ (v :: vs) τ := ⟨by show (wipe σ vs).set v none = τ; rw [h.eq, k.eq]⟩
instance {QB : Bool → Hp → Prop} : Step (tYes σ H QB) (QB true H) := ⟨fun q => q⟩
theorem lc_feeds {J : It} {n : Nat} {S : Hp → Prop} {Y : Nat → Hp → V → Hp → Prop} {vs : List Nat} (F : Feeds J n S Y) (bs : List Addr) (Pv : Addr → Nat → List V → Hp → Prop) [hw : Wipe σ vs τ]
    (h0 : ∀ D H1, Nw H D → Ex H H1 → At H1 D (.lst []) → Pv D 0 [] H1) (hS : ∀ H', Chg bs H H' → S H')
    (hs : ∀ D (i : Nat) acc H' x H'', i < n → Nw H D → Chg bs H H' → At H' D (.lst acc) → Pv D i acc H' → Y i H' x H'' → g x τ H'' fun σ2 H2 => wipe σ2 vs = τ ∧ tt σ2 H2 fun b H3 =>
      if b = true then te σ2 H3 (rApp D (rW D fun ac H5 => Chg bs H H5 ∧ Pv D (i + 1) ac H5)) else rW D (fun ac H5 => Chg bs H H5 ∧ Pv D (i + 1) ac H5) H3)
    (hd : ∀ D acc H', Nw H D → Chg bs H H' → At H' D (.lst acc) → Pv D n acc H' → Q (.ref D) H') : LcW J g tt te vs σ H Q := by
  intro D hD
  refine ⟨fun i m H' => m = n - i ∧ i ≤ n ∧ rW D (fun ac H5 => Chg bs H H5 ∧ Pv D i ac H5) H', ⟨n, rfl, Nat.zero_le _, [], upd_same, ⟨fun a o _ h => (Ex.mk hD).keep a o (by simp) h, (Ex.mk hD).live, (Ex.mk hD).imm⟩, h0 D _ ⟨hD⟩ (Ex.mk hD) ⟨upd_same⟩⟩, ?_⟩
  rintro i m H' ⟨rfl, hi, acc, e, r, p⟩
  have q := hS H' r
  by_cases hlt : i < n
  · refine .inr ⟨F.go i H' q hlt, rW D (fun ac H5 => Chg bs H H5 ∧ Pv D (i + 1) ac H5), fun H' p' => ⟨n - (i + 1), by omega, rfl, hlt, p'⟩, fun v H'' y => ?_⟩
    rw [hw.eq]
    exact hs D i acc H' v H'' hlt ⟨hD⟩ r ⟨e⟩ p (F.yld i H' v H'' q hlt y)
  · have e' : i = n := by omega
    subst e'
    exact .inl ⟨F.stop H' q, hd D acc H' ⟨hD⟩ r ⟨e⟩ p⟩
/-- the items come out as F tells -/
theorem lc_F {J : It} {n : Nat} {S : Hp → Prop} {Y : Nat → Hp → V → Hp → Prop} {vs : List Nat} (Fd : Feeds J n S Y) (F : Nat → List V) [hw : Wipe σ vs τ] (hF : F 0 = []) (hS : ∀ H', Ex H H' → S H') (hz : ∀ i, i < n → (F i).length < 100000)
    (hs : ∀ D (i : Nat) H' x H'', i < n → Nw H D → Ex H H' → At H' D (.lst (F i)) → (F i).length < 100000 → Y i H' x H'' → g x τ H'' fun σ2 H2 => wipe σ2 vs = τ ∧ tt σ2 H2 fun b H3 =>
      if b = true then te σ2 H3 (rApp D (rW D fun ac H5 => Ex H H5 ∧ ac = F (i + 1))) else rW D (fun ac H5 => Ex H H5 ∧ ac = F (i + 1)) H3)
    (hd : ∀ D H', Nw H D → Ex H H' → At H' D (.lst (F n)) → Q (.ref D) H') : LcW J g tt te vs σ H Q :=
  lc_feeds Fd [] (fun _ i acc _ => acc = F i) (fun _ H1 _ _ _ => hF.symm) hS (fun D i acc H' x H'' hi hD e hp p y => by
    subst p
    exact hs D i H' x H'' hi hD e hp (hz i hi) y) (fun D acc H' hD e hp p => by
    subst p
    exact hd D H' hD e hp)
/-- each item is as P tells -/
theorem lc_A {J : It} {n : Nat} {S : Hp → Prop} {Y : Nat → Hp → V → Hp → Prop} {vs : List Nat} (Fd : Feeds J n S Y) (P : V → Prop) [hw : Wipe σ vs τ] (hS : ∀ H', Ex H H' → S H') (hz : n ≤ 100000)
    (hs : ∀ D (i : Nat) acc H' x H'', i < n → Nw H D → Ex H H' → At H' D (.lst acc) → acc.length < 100000 → Y i H' x H'' → g x τ H'' fun σ2 H2 => wipe σ2 vs = τ ∧ tt σ2 H2 fun b H3 =>
      if b = true then te σ2 H3 (rApp D (rW D fun ac H5 => Ex H H5 ∧ ∃ v, ac = acc ++ [v] ∧ P v)) else rW D (fun ac H5 => Ex H H5 ∧ ∃ v, ac = acc ++ [v] ∧ P v) H3)
    (hd : ∀ D acc H', Nw H D → Ex H H' → At H' D (.lst acc) → acc.length = n → (∀ v ∈ acc, P v) → Q (.ref D) H') : LcW J g tt te vs σ H Q := by
  intro D hD
  refine ⟨fun i m H' => m = n - i ∧ i ≤ n ∧ ∃ acc, H' D = some (.lst acc) ∧ acc.length = i ∧ (∀ v ∈ acc, P v) ∧ Ex H H', ⟨n, rfl, Nat.zero_le _, [], upd_same, rfl, by simp, Ex.mk hD⟩, ?_⟩
  rintro i m H' ⟨rfl, hi, acc, e, hl, hP, ex⟩
  have q := hS H' ex
  by_cases hlt : i < n
  · refine .inr ⟨Fd.go i H' q hlt, rW D (fun ac H5 => Ex H H5 ∧ ∃ v, ac = acc ++ [v] ∧ P v), fun H' p' => ?_, fun v H'' y => ?_⟩
    · obtain ⟨ac, e1, e2, v, rfl, hv⟩ := p'
      refine ⟨n - (i + 1), by omega, rfl, hlt, acc ++ [v], e1, by simp [hl], fun u hu => ?_, e2⟩
      rcases List.mem_append.mp hu with h | h
      · exact hP u h
      · rw [List.mem_singleton.mp h]; exact hv
    · rw [hw.eq]
      exact hs D i acc H' v H'' hlt ⟨hD⟩ ex ⟨e⟩ (by omega) (Fd.yld i H' v H'' q hlt y)
  · have e' : i = n := by omega
    subst e'
    exact .inl ⟨Fd.stop H' q, hd D acc H' ⟨hD⟩ ex ⟨e⟩ hl hP⟩
/-! what each kind gives -/
theorem fd_rng {lo : Int} {n : Nat} : Feeds (Itr lo n) n (fun _ => True) (fun i H x H' => H' = H ∧ x = .int (lo + (i : Nat))) := ⟨fun _ _ _ h => h, fun _ _ _ _ _ _ y => y, fun _ _ => Nat.le_refl _⟩
theorem fd_list {a : Addr} {xs : List V} : Feeds (Itl K a) xs.length (fun H => SqL K H a xs) (fun i H x H' => H' = H ∧ xs[i]? = some x) :=
  ⟨fun i H s h => ⟨xs, xs[i], s, List.getElem?_eq_getElem h⟩, fun i H x H' s _ y => ⟨y.1, y.2 xs s⟩, fun H s => ⟨xs, s, Nat.le_refl _⟩⟩
theorem fd_tup {a : Addr} {xs : List V} : Feeds (Itt K a) xs.length (fun H => SqT K H a xs) (fun i H x H' => H' = H ∧ xs[i]? = some x) :=
  ⟨fun i H s h => ⟨xs, xs[i], s, List.getElem?_eq_getElem h⟩, fun i H x H' s _ y => ⟨y.1, y.2 xs s⟩, fun H s => ⟨xs, s, Nat.le_refl _⟩⟩
def Pair (H : Hp) (x : V) (H' : Hp) (a b : V) : Prop := ∃ T, x = .ref T ∧ Nw H T ∧ Ex H H' ∧ At H' T (.tup [a, b])
theorem pair_mk {H : Hp} {T : Addr} {a b : V} (h : H T = none) : Pair H (.ref T) (upd H T (.tup [a, b])) a b := ⟨T, rfl, ⟨h⟩, Ex.mk h, ⟨upd_same⟩⟩
theorem fd_enumS {z : Str} : Feeds (Itse z) z.cps.size (fun _ => True) (fun i H x H' => ∃ c, z.cps[i]? = some c ∧ Pair H x H' (.int (i : Nat)) (.str ⟨#[c]⟩)) :=
  ⟨fun _ _ _ h => h, fun i H x H' _ _ y => by
    obtain ⟨T, c, rfl, h, rfl, hc⟩ := y
    exact ⟨c, hc, pair_mk h⟩, fun _ _ => Nat.le_refl _⟩
theorem fd_str {z : Str} : Feeds (Its z) z.cps.size (fun _ => True) (fun i H x H' => H' = H ∧ ∃ c, z.cps[i]? = some c ∧ x = .str ⟨#[c]⟩) := ⟨fun _ _ _ h => h, fun _ _ _ _ _ _ y => y, fun _ _ => Nat.le_refl _⟩
theorem fd_enum {a : Addr} {xs : List V} : Feeds (Ite K a) xs.length (fun H => SqL K H a xs) (fun i H x H' => ∃ c, xs[i]? = some c ∧ Pair H x H' (.int (i : Nat)) c) :=
  ⟨fun i H s h => ⟨xs, xs[i], s, List.getElem?_eq_getElem h⟩, fun i H x H' s _ y => by
    obtain ⟨T, c, rfl, h, rfl, hc⟩ := y
    exact ⟨c, hc xs s, pair_mk h⟩, fun H s => ⟨xs, s, Nat.le_refl _⟩⟩
theorem fd_zip {a b : Addr} {xs ys : List V} {n : Nat} (hn : min xs.length ys.length = n) : Feeds (Itz K a b) n (fun H => SqL K H a xs ∧ SqL K H b ys) (fun i H x H' => ∃ c d, xs[i]? = some c ∧ ys[i]? = some d ∧ Pair H x H' c d) :=
  ⟨fun i H s h => ⟨xs, ys, xs[i]'(by omega), ys[i]'(by omega), s.1, s.2, List.getElem?_eq_getElem _, List.getElem?_eq_getElem _⟩, fun i H x H' s _ y => by
    obtain ⟨T, c, d, rfl, h, rfl, hc, hd⟩ := y
    exact ⟨c, d, hc xs s.1, hd ys s.2, pair_mk h⟩, fun H s => ⟨xs, ys, s.1, s.2, by omega⟩⟩
/-! the heads -/
def rFor1 (vs : List V) (g : TG) (tb : TS) (D : Ends) (σ : L2.St) (H : Hp) : Prop := tFor (iRng1 fun _ H R => R vs H) g tb D σ H
def rFor2 (vs : List V) (g : TG) (tb : TS) (D : Ends) (σ : L2.St) (H : Hp) : Prop := tFor (iRng2 fun _ H R => R vs H) g tb D σ H
def rForL (K : PySem.W.Frag) (v : V) (g : TG) (tb : TS) (D : Ends) (σ : L2.St) (H : Hp) : Prop := tFor (iList K fun _ H R => R v H) g tb D σ H
def rForT (K : PySem.W.Frag) (v : V) (g : TG) (tb : TS) (D : Ends) (σ : L2.St) (H : Hp) : Prop := tFor (iTup K fun _ H R => R v H) g tb D σ H
def rForE (vs : List V) (g : TG) (tb : TS) (D : Ends) (σ : L2.St) (H : Hp) : Prop := tFor (iEnumS fun _ H R => R vs H) g tb D σ H
def rForS (v : V) (g : TG) (tb : TS) (D : Ends) (σ : L2.St) (H : Hp) : Prop := tFor (iStr fun _ H R => R v H) g tb D σ H
def rForEL (K : PySem.W.Frag) (vs : List V) (g : TG) (tb : TS) (D : Ends) (σ : L2.St) (H : Hp) : Prop := tFor (iEnum K fun _ H R => R vs H) g tb D σ H
def rForZ (K : PySem.W.Frag) (vs : List V) (g : TG) (tb : TS) (D : Ends) (σ : L2.St) (H : Hp) : Prop := tFor (iZip K fun _ H R => R vs H) g tb D σ H
instance : Step (tFor (iRng1 ta) g tb D σ H) (ta σ H fun vs H1 => rFor1 vs g tb D σ H1) := ⟨fun q => q⟩
instance : Step (tFor (iRng2 ta) g tb D σ H) (ta σ H fun vs H1 => rFor2 vs g tb D σ H1) := ⟨fun q => q⟩
instance : Step (tFor (iList K tl) g tb D σ H) (tl σ H fun v H1 => rForL K v g tb D σ H1) := ⟨fun q => q⟩
instance : Step (tFor (iTup K tl) g tb D σ H) (tl σ H fun v H1 => rForT K v g tb D σ H1) := ⟨fun q => q⟩
instance : Step (tFor (iEnumS ta) g tb D σ H) (ta σ H fun vs H1 => rForE vs g tb D σ H1) := ⟨fun q => q⟩
instance : Step (tFor (iStr tl) g tb D σ H) (tl σ H fun v H1 => rForS v g tb D σ H1) := ⟨fun q => q⟩
instance : Step (tFor (iEnum K ta) g tb D σ H) (ta σ H fun vs H1 => rForEL K vs g tb D σ H1) := ⟨fun q => q⟩
instance : Step (tFor (iZip K ta) g tb D σ H) (ta σ H fun vs H1 => rForZ K vs g tb D σ H1) := ⟨fun q => q⟩
def rLc1 (us : List V) (g : TG) (tt : TT) (te : TE) (vs : List Nat) (σ : L2.St) (H : Hp) (Q : VK) : Prop := tLc (iRng1 fun _ H R => R us H) g tt te vs σ H Q
def rLc2 (us : List V) (g : TG) (tt : TT) (te : TE) (vs : List Nat) (σ : L2.St) (H : Hp) (Q : VK) : Prop := tLc (iRng2 fun _ H R => R us H) g tt te vs σ H Q
def rLcL (K : PySem.W.Frag) (v : V) (g : TG) (tt : TT) (te : TE) (vs : List Nat) (σ : L2.St) (H : Hp) (Q : VK) : Prop := tLc (iList K fun _ H R => R v H) g tt te vs σ H Q
def rLcT (K : PySem.W.Frag) (v : V) (g : TG) (tt : TT) (te : TE) (vs : List Nat) (σ : L2.St) (H : Hp) (Q : VK) : Prop := tLc (iTup K fun _ H R => R v H) g tt te vs σ H Q
def rLcE (us : List V) (g : TG) (tt : TT) (te : TE) (vs : List Nat) (σ : L2.St) (H : Hp) (Q : VK) : Prop := tLc (iEnumS fun _ H R => R us H) g tt te vs σ H Q
def rLcS (v : V) (g : TG) (tt : TT) (te : TE) (vs : List Nat) (σ : L2.St) (H : Hp) (Q : VK) : Prop := tLc (iStr fun _ H R => R v H) g tt te vs σ H Q
def rLcEL (K : PySem.W.Frag) (us : List V) (g : TG) (tt : TT) (te : TE) (vs : List Nat) (σ : L2.St) (H : Hp) (Q : VK) : Prop := tLc (iEnum K fun _ H R => R us H) g tt te vs σ H Q
def rLcZ (K : PySem.W.Frag) (us : List V) (g : TG) (tt : TT) (te : TE) (vs : List Nat) (σ : L2.St) (H : Hp) (Q : VK) : Prop := tLc (iZip K fun _ H R => R us H) g tt te vs σ H Q
instance {vs : List Nat} : Step (tLc (iRng1 ta) g tt te vs σ H Q) (ta σ H fun us H1 => rLc1 us g tt te vs σ H1 Q) := ⟨fun q => q⟩
instance {vs : List Nat} : Step (tLc (iRng2 ta) g tt te vs σ H Q) (ta σ H fun us H1 => rLc2 us g tt te vs σ H1 Q) := ⟨fun q => q⟩
instance {vs : List Nat} : Step (tLc (iList K tl) g tt te vs σ H Q) (tl σ H fun v H1 => rLcL K v g tt te vs σ H1 Q) := ⟨fun q => q⟩
instance {vs : List Nat} : Step (tLc (iTup K tl) g tt te vs σ H Q) (tl σ H fun v H1 => rLcT K v g tt te vs σ H1 Q) := ⟨fun q => q⟩
instance {vs : List Nat} : Step (tLc (iEnumS ta) g tt te vs σ H Q) (ta σ H fun us H1 => rLcE us g tt te vs σ H1 Q) := ⟨fun q => q⟩
instance {vs : List Nat} : Step (tLc (iStr tl) g tt te vs σ H Q) (tl σ H fun v H1 => rLcS v g tt te vs σ H1 Q) := ⟨fun q => q⟩
instance {vs : List Nat} : Step (tLc (iEnum K ta) g tt te vs σ H Q) (ta σ H fun us H1 => rLcEL K us g tt te vs σ H1 Q) := ⟨fun q => q⟩
instance {vs : List Nat} : Step (tLc (iZip K ta) g tt te vs σ H Q) (ta σ H fun us H1 => rLcZ K us g tt te vs σ H1 Q) := ⟨fun q => q⟩
/-! loops by kind: bs is what the turns may change, Pv the invariant -/
theorem for1 {n : Int} (bs : List Addr) (Pv : Nat → L2.St → Hp → Prop) (hn : -(2 ^ 62) ≤ n ∧ n < 2 ^ 62) (h0 : Pv 0 σ H)
    (hs : ∀ (i : Nat) σ' H', (i : Int) < n → Chg bs H H' → Pv i σ' H' → g (.int (i : Int)) σ' H' fun σ2 H2 => tb { D with nx := LI bs H (Pv (i + 1)), ct := LI bs H (Pv (i + 1)), bk := D.nx } σ2 H2)
    (hd : ∀ σ' H', Chg bs H H' → Pv n.toNat σ' H' → D.nx σ' H') : rFor1 [.int n] g tb D σ H :=
  ⟨n, rfl, hn.1, hn.2, for_feeds (fd_rng (lo := 0)) bs Pv h0 (fun _ _ => trivial) (fun i σ' H' x H'' hi r p y => by
    obtain ⟨rfl, rfl⟩ := y
    rw [Int.zero_add]
    exact hs i σ' _ (by omega) r p) hd⟩
theorem for2 {a n : Int} (bs : List Addr) (Pv : Nat → L2.St → Hp → Prop) (hn : -(2 ^ 62) ≤ a ∧ a < 2 ^ 62 ∧ -(2 ^ 62) ≤ n ∧ n < 2 ^ 62) (h0 : Pv 0 σ H)
    (hs : ∀ (i : Nat) σ' H', a + (i : Int) < n → Chg bs H H' → Pv i σ' H' → g (.int (a + (i : Int))) σ' H' fun σ2 H2 => tb { D with nx := LI bs H (Pv (i + 1)), ct := LI bs H (Pv (i + 1)), bk := D.nx } σ2 H2)
    (hd : ∀ σ' H', Chg bs H H' → Pv (n - a).toNat σ' H' → D.nx σ' H') : rFor2 [.int a, .int n] g tb D σ H :=
  ⟨a, n, rfl, hn, for_feeds (fd_rng (lo := a)) bs Pv h0 (fun _ _ => trivial) (fun i σ' H' x H'' hi r p y => by
    obtain ⟨rfl, rfl⟩ := y
    exact hs i σ' _ (by omega) r p) hd⟩
theorem forL {a : Addr} {xs : List V} (bs : List Addr) (Pv : Nat → L2.St → Hp → Prop) [hx : SqC K H a xs] [hn : NotIn a bs] (h0 : Pv 0 σ H)
    (hs : ∀ (i : Nat) x σ' H', xs[i]? = some x → Chg bs H H' → Pv i σ' H' → g x σ' H' fun σ2 H2 => tb { D with nx := LI bs H (Pv (i + 1)), ct := LI bs H (Pv (i + 1)), bk := D.nx } σ2 H2)
    (hd : ∀ σ' H', Chg bs H H' → Pv xs.length σ' H' → D.nx σ' H') : rForL K (.ref a) g tb D σ H :=
  ⟨a, rfl, ⟨xs, hx.sq⟩, for_feeds fd_list bs Pv h0 (fun _ r => r.l hn.out hx.sq) (fun i σ' H' x H'' hi r p y => by
    obtain ⟨rfl, y⟩ := y
    exact hs i x σ' _ y r p) hd⟩
theorem forT {a : Addr} {xs : List V} (bs : List Addr) (Pv : Nat → L2.St → Hp → Prop) [hx : StC K H a xs] [hn : NotIn a bs] (h0 : Pv 0 σ H)
    (hs : ∀ (i : Nat) x σ' H', xs[i]? = some x → Chg bs H H' → Pv i σ' H' → g x σ' H' fun σ2 H2 => tb { D with nx := LI bs H (Pv (i + 1)), ct := LI bs H (Pv (i + 1)), bk := D.nx } σ2 H2)
    (hd : ∀ σ' H', Chg bs H H' → Pv xs.length σ' H' → D.nx σ' H') : rForT K (.ref a) g tb D σ H :=
  ⟨a, rfl, ⟨xs, hx.st⟩, for_feeds fd_tup bs Pv h0 (fun _ r => r.t hn.out hx.st) (fun i σ' H' x H'' hi r p y => by
    obtain ⟨rfl, y⟩ := y
    exact hs i x σ' _ y r p) hd⟩
theorem forZ {a b : Addr} {xs ys : List V} (bs : List Addr) (n : Nat) (Pv : Nat → L2.St → Hp → Prop) [hx : SqC K H a xs] [hy : SqC K H b ys] [hna : NotIn a bs] [hnb : NotIn b bs] (hn : min xs.length ys.length = n) (h0 : Pv 0 σ H)
    (hs : ∀ (i : Nat) c d x σ' H' H'', i < n → xs[i]? = some c → ys[i]? = some d → Chg bs H H' → Pv i σ' H' → Pair H' x H'' c d → g x σ' H'' fun σ2 H2 => tb { D with nx := LI bs H (Pv (i + 1)), ct := LI bs H (Pv (i + 1)), bk := D.nx } σ2 H2)
    (hd : ∀ σ' H', Chg bs H H' → Pv n σ' H' → D.nx σ' H') : rForZ K [.ref a, .ref b] g tb D σ H :=
  ⟨a, b, xs, ys, rfl, hx.sq, hy.sq, for_feeds (fd_zip hn) bs Pv h0 (fun _ r => ⟨r.l hna.out hx.sq, r.l hnb.out hy.sq⟩) (fun i σ' H' x H'' hi r p y => by
    obtain ⟨c, d, h1, h2, y⟩ := y
    exact hs i c d x σ' H' H'' hi h1 h2 r p y) hd⟩
theorem forEL {a : Addr} {xs : List V} (bs : List Addr) (Pv : Nat → L2.St → Hp → Prop) [hx : SqC K H a xs] [hn : NotIn a bs] (h0 : Pv 0 σ H)
    (hs : ∀ (i : Nat) c x σ' H' H'', xs[i]? = some c → Chg bs H H' → Pv i σ' H' → Pair H' x H'' (.int (i : Nat)) c → g x σ' H'' fun σ2 H2 => tb { D with nx := LI bs H (Pv (i + 1)), ct := LI bs H (Pv (i + 1)), bk := D.nx } σ2 H2)
    (hd : ∀ σ' H', Chg bs H H' → Pv xs.length σ' H' → D.nx σ' H') : rForEL K [.ref a] g tb D σ H :=
  ⟨a, xs, rfl, hx.sq, for_feeds fd_enum bs Pv h0 (fun _ r => r.l hn.out hx.sq) (fun i σ' H' x H'' hi r p y => by
    obtain ⟨c, h1, y⟩ := y
    exact hs i c x σ' H' H'' h1 r p y) hd⟩
/-! comprehensions by kind: _F what comes out is F, _A each item is as P tells -/
theorem lc1_F {vs : List Nat} {n : Int} (F : Nat → List V) (hn : -(2 ^ 62) ≤ n ∧ n < 2 ^ 62) [hw : Wipe σ vs τ] (hF : F 0 = []) (hz : ∀ i, i < n.toNat → (F i).length < 100000)
    (hs : ∀ D (i : Nat) H', (i : Int) < n → Nw H D → Ex H H' → At H' D (.lst (F i)) → (F i).length < 100000 → g (.int (i : Int)) τ H' fun σ2 H2 => wipe σ2 vs = τ ∧ tt σ2 H2 fun b H3 =>
      if b = true then te σ2 H3 (rApp D (rW D fun ac H5 => Ex H H5 ∧ ac = F (i + 1))) else rW D (fun ac H5 => Ex H H5 ∧ ac = F (i + 1)) H3)
    (hd : ∀ D H', Nw H D → Ex H H' → At H' D (.lst (F n.toNat)) → Q (.ref D) H') : rLc1 [.int n] g tt te vs σ H Q :=
  ⟨n, rfl, hn.1, hn.2, lc_F (fd_rng (lo := 0)) F hF (fun _ _ => trivial) hz (fun D i H' x H'' hi hD e hp z y => by
    obtain ⟨rfl, rfl⟩ := y
    rw [Int.zero_add]
    exact hs D i _ (by omega) hD e hp z) hd⟩
theorem lc2_F {vs : List Nat} {a n : Int} (F : Nat → List V) (hn : -(2 ^ 62) ≤ a ∧ a < 2 ^ 62 ∧ -(2 ^ 62) ≤ n ∧ n < 2 ^ 62) [hw : Wipe σ vs τ] (hF : F 0 = []) (hz : ∀ i, i < (n - a).toNat → (F i).length < 100000)
    (hs : ∀ D (i : Nat) H', a + (i : Int) < n → Nw H D → Ex H H' → At H' D (.lst (F i)) → (F i).length < 100000 → g (.int (a + (i : Int))) τ H' fun σ2 H2 => wipe σ2 vs = τ ∧ tt σ2 H2 fun b H3 =>
      if b = true then te σ2 H3 (rApp D (rW D fun ac H5 => Ex H H5 ∧ ac = F (i + 1))) else rW D (fun ac H5 => Ex H H5 ∧ ac = F (i + 1)) H3)
    (hd : ∀ D H', Nw H D → Ex H H' → At H' D (.lst (F (n - a).toNat)) → Q (.ref D) H') : rLc2 [.int a, .int n] g tt te vs σ H Q :=
  ⟨a, n, rfl, hn, lc_F (fd_rng (lo := a)) F hF (fun _ _ => trivial) hz (fun D i H' x H'' hi hD e hp z y => by
    obtain ⟨rfl, rfl⟩ := y
    exact hs D i _ (by omega) hD e hp z) hd⟩
theorem lcL_F {vs : List Nat} {a : Addr} {xs : List V} (F : Nat → List V) [hx : SqC K H a xs] [hw : Wipe σ vs τ] (hF : F 0 = []) (hz : ∀ i, i < xs.length → (F i).length < 100000)
    (hs : ∀ D (i : Nat) x H', xs[i]? = some x → Nw H D → Ex H H' → At H' D (.lst (F i)) → (F i).length < 100000 → g x τ H' fun σ2 H2 => wipe σ2 vs = τ ∧ tt σ2 H2 fun b H3 =>
      if b = true then te σ2 H3 (rApp D (rW D fun ac H5 => Ex H H5 ∧ ac = F (i + 1))) else rW D (fun ac H5 => Ex H H5 ∧ ac = F (i + 1)) H3)
    (hd : ∀ D H', Nw H D → Ex H H' → At H' D (.lst (F xs.length)) → Q (.ref D) H') : rLcL K (.ref a) g tt te vs σ H Q :=
  ⟨a, rfl, ⟨xs, hx.sq⟩, lc_F fd_list F hF (fun _ e => e.l hx.sq) hz (fun D i H' x H'' hi hD e hp z y => by
    obtain ⟨rfl, y⟩ := y
    exact hs D i x _ y hD e hp z) hd⟩
theorem lcT_F {vs : List Nat} {a : Addr} {xs : List V} (F : Nat → List V) [hx : StC K H a xs] [hw : Wipe σ vs τ] (hF : F 0 = []) (hz : ∀ i, i < xs.length → (F i).length < 100000)
    (hs : ∀ D (i : Nat) x H', xs[i]? = some x → Nw H D → Ex H H' → At H' D (.lst (F i)) → (F i).length < 100000 → g x τ H' fun σ2 H2 => wipe σ2 vs = τ ∧ tt σ2 H2 fun b H3 =>
      if b = true then te σ2 H3 (rApp D (rW D fun ac H5 => Ex H H5 ∧ ac = F (i + 1))) else rW D (fun ac H5 => Ex H H5 ∧ ac = F (i + 1)) H3)
    (hd : ∀ D H', Nw H D → Ex H H' → At H' D (.lst (F xs.length)) → Q (.ref D) H') : rLcT K (.ref a) g tt te vs σ H Q :=
  ⟨a, rfl, ⟨xs, hx.st⟩, lc_F fd_tup F hF (fun _ e => e.t hx.st) hz (fun D i H' x H'' hi hD e hp z y => by
    obtain ⟨rfl, y⟩ := y
    exact hs D i x _ y hD e hp z) hd⟩
theorem lcE_F {vs : List Nat} {z : Str} (F : Nat → List V) [hw : Wipe σ vs τ] (hF : F 0 = []) (hz : ∀ i, i < z.cps.size → (F i).length < 100000)
    (hs : ∀ D (i : Nat) c x H' H'', i < z.cps.size → z.cps[i]? = some c → Nw H D → Ex H H' → At H' D (.lst (F i)) → (F i).length < 100000 → Pair H' x H'' (.int (i : Nat)) (.str ⟨#[c]⟩) → g x τ H'' fun σ2 H2 => wipe σ2 vs = τ ∧ tt σ2 H2 fun b H3 =>
      if b = true then te σ2 H3 (rApp D (rW D fun ac H5 => Ex H H5 ∧ ac = F (i + 1))) else rW D (fun ac H5 => Ex H H5 ∧ ac = F (i + 1)) H3)
    (hd : ∀ D H', Nw H D → Ex H H' → At H' D (.lst (F z.cps.size)) → Q (.ref D) H') : rLcE [.str z] g tt te vs σ H Q :=
  ⟨z, rfl, lc_F fd_enumS F hF (fun _ _ => trivial) hz (fun D i H' x H'' hi hD e hp zz y => by
    obtain ⟨c, hc, y⟩ := y
    exact hs D i c x H' H'' hi hc hD e hp zz y) hd⟩
theorem lcEL_F {vs : List Nat} {a : Addr} {xs : List V} (F : Nat → List V) [hx : SqC K H a xs] [hw : Wipe σ vs τ] (hF : F 0 = []) (hz : ∀ i, i < xs.length → (F i).length < 100000)
    (hs : ∀ D (i : Nat) c x H' H'', xs[i]? = some c → Nw H D → Ex H H' → At H' D (.lst (F i)) → (F i).length < 100000 → Pair H' x H'' (.int (i : Nat)) c → g x τ H'' fun σ2 H2 => wipe σ2 vs = τ ∧ tt σ2 H2 fun b H3 =>
      if b = true then te σ2 H3 (rApp D (rW D fun ac H5 => Ex H H5 ∧ ac = F (i + 1))) else rW D (fun ac H5 => Ex H H5 ∧ ac = F (i + 1)) H3)
    (hd : ∀ D H', Nw H D → Ex H H' → At H' D (.lst (F xs.length)) → Q (.ref D) H') : rLcEL K [.ref a] g tt te vs σ H Q :=
  ⟨a, xs, rfl, hx.sq, lc_F fd_enum F hF (fun _ e => e.l hx.sq) hz (fun D i H' x H'' hi hD e hp zz y => by
    obtain ⟨c, hc, y⟩ := y
    exact hs D i c x H' H'' hc hD e hp zz y) hd⟩
theorem lcZ_F {vs : List Nat} {a b : Addr} {xs ys : List V} (n : Nat) (F : Nat → List V) [hx : SqC K H a xs] [hy : SqC K H b ys] (hn : min xs.length ys.length = n) [hw : Wipe σ vs τ] (hF : F 0 = []) (hz : ∀ i, i < n → (F i).length < 100000)
    (hs : ∀ D (i : Nat) c d x H' H'', i < n → xs[i]? = some c → ys[i]? = some d → Nw H D → Ex H H' → At H' D (.lst (F i)) → (F i).length < 100000 → Pair H' x H'' c d → g x τ H'' fun σ2 H2 => wipe σ2 vs = τ ∧ tt σ2 H2 fun b H3 =>
      if b = true then te σ2 H3 (rApp D (rW D fun ac H5 => Ex H H5 ∧ ac = F (i + 1))) else rW D (fun ac H5 => Ex H H5 ∧ ac = F (i + 1)) H3)
    (hd : ∀ D H', Nw H D → Ex H H' → At H' D (.lst (F n)) → Q (.ref D) H') : rLcZ K [.ref a, .ref b] g tt te vs σ H Q :=
  ⟨a, b, xs, ys, rfl, hx.sq, hy.sq, lc_F (fd_zip hn) F hF (fun _ e => ⟨e.l hx.sq, e.l hy.sq⟩) hz (fun D i H' x H'' hi hD e hp z y => by
    obtain ⟨c, d, h1, h2, y⟩ := y
    exact hs D i c d x H' H'' hi h1 h2 hD e hp z y) hd⟩
theorem lc1_A {vs : List Nat} {n : Int} (P : V → Prop) (hn : n ≤ 100000 ∧ -100000 ≤ n) [hw : Wipe σ vs τ]
    (hs : ∀ D (i : Nat) acc H', (i : Int) < n → Nw H D → Ex H H' → At H' D (.lst acc) → acc.length < 100000 → g (.int (i : Int)) τ H' fun σ2 H2 => wipe σ2 vs = τ ∧ tt σ2 H2 fun b H3 =>
      if b = true then te σ2 H3 (rApp D (rW D fun ac H5 => Ex H H5 ∧ ∃ v, ac = acc ++ [v] ∧ P v)) else rW D (fun ac H5 => Ex H H5 ∧ ∃ v, ac = acc ++ [v] ∧ P v) H3)
    (hd : ∀ D acc H', Nw H D → Ex H H' → At H' D (.lst acc) → acc.length = n.toNat → (∀ v ∈ acc, P v) → Q (.ref D) H') : rLc1 [.int n] g tt te vs σ H Q :=
  ⟨n, rfl, by omega, by omega, lc_A (fd_rng (lo := 0)) P (fun _ _ => trivial) (by omega) (fun D i acc H' x H'' hi hD e hp z y => by
    obtain ⟨rfl, rfl⟩ := y
    rw [Int.zero_add]
    exact hs D i acc _ (by omega) hD e hp z) hd⟩
theorem lcL_A {vs : List Nat} {a : Addr} {xs : List V} (P : V → Prop) [hx : SqC K H a xs] (hz : xs.length ≤ 100000) [hw : Wipe σ vs τ]
    (hs : ∀ D (i : Nat) x acc H', xs[i]? = some x → Nw H D → Ex H H' → At H' D (.lst acc) → acc.length < 100000 → g x τ H' fun σ2 H2 => wipe σ2 vs = τ ∧ tt σ2 H2 fun b H3 =>
      if b = true then te σ2 H3 (rApp D (rW D fun ac H5 => Ex H H5 ∧ ∃ v, ac = acc ++ [v] ∧ P v)) else rW D (fun ac H5 => Ex H H5 ∧ ∃ v, ac = acc ++ [v] ∧ P v) H3)
    (hd : ∀ D acc H', Nw H D → Ex H H' → At H' D (.lst acc) → acc.length = xs.length → (∀ v ∈ acc, P v) → Q (.ref D) H') : rLcL K (.ref a) g tt te vs σ H Q :=
  ⟨a, rfl, ⟨xs, hx.sq⟩, lc_A fd_list P (fun _ e => e.l hx.sq) hz (fun D i x' H' x H'' hi hD e hp z y => by
    obtain ⟨rfl, y⟩ := y
    exact hs D i x x' _ y hD e hp z) hd⟩
/-- _P: any invariant; what stood stands -/
theorem lcL_P {vs : List Nat} {a : Addr} {xs : List V} (Pv : Addr → Nat → List V → Hp → Prop) [hx : SqC K H a xs] [hw : Wipe σ vs τ] (h0 : ∀ D H1, Nw H D → Ex H H1 → At H1 D (.lst []) → Pv D 0 [] H1)
    (hs : ∀ D (i : Nat) x acc H', xs[i]? = some x → Nw H D → Ex H H' → At H' D (.lst acc) → Pv D i acc H' → g x τ H' fun σ2 H2 => wipe σ2 vs = τ ∧ tt σ2 H2 fun b H3 =>
      if b = true then te σ2 H3 (rApp D (rW D fun ac H5 => Ex H H5 ∧ Pv D (i + 1) ac H5)) else rW D (fun ac H5 => Ex H H5 ∧ Pv D (i + 1) ac H5) H3)
    (hd : ∀ D acc H', Nw H D → Ex H H' → At H' D (.lst acc) → Pv D xs.length acc H' → Q (.ref D) H') : rLcL K (.ref a) g tt te vs σ H Q :=
  ⟨a, rfl, ⟨xs, hx.sq⟩, lc_feeds fd_list [] Pv h0 (fun _ e => Ex.l e hx.sq) (fun D i acc H' x H'' hi hD e hp p y => by
    obtain ⟨rfl, y⟩ := y
    exact hs D i x acc _ y hD e hp p) hd⟩
theorem lc1_P {vs : List Nat} {n : Int} (bs : List Addr) (Pv : Addr → Nat → List V → Hp → Prop) (hn : -(2 ^ 62) ≤ n ∧ n < 2 ^ 62) [hw : Wipe σ vs τ] (h0 : ∀ D H1, Nw H D → Ex H H1 → At H1 D (.lst []) → Pv D 0 [] H1)
    (hs : ∀ D (i : Nat) acc H', (i : Int) < n → Nw H D → Chg bs H H' → At H' D (.lst acc) → Pv D i acc H' → g (.int (i : Int)) τ H' fun σ2 H2 => wipe σ2 vs = τ ∧ tt σ2 H2 fun b H3 =>
      if b = true then te σ2 H3 (rApp D (rW D fun ac H5 => Chg bs H H5 ∧ Pv D (i + 1) ac H5)) else rW D (fun ac H5 => Chg bs H H5 ∧ Pv D (i + 1) ac H5) H3)
    (hd : ∀ D acc H', Nw H D → Chg bs H H' → At H' D (.lst acc) → Pv D n.toNat acc H' → Q (.ref D) H') : rLc1 [.int n] g tt te vs σ H Q :=
  ⟨n, rfl, hn.1, hn.2, lc_feeds (fd_rng (lo := 0)) bs Pv h0 (fun _ _ => trivial) (fun D i acc H' x H'' hi hD e hp p y => by
    obtain ⟨rfl, rfl⟩ := y
    rw [Int.zero_add]
    exact hs D i acc _ (by omega) hD e hp p) hd⟩
theorem g_pair {H H' : Hp} {x a b : V} {u : TGs} {R : L2.St → Hp → Prop} (h : Pair H x H' a b) (q : ∀ T, Nw H T → Ex H H' → At H' T (.tup [a, b]) → u [a, b] σ H' R) : gTup K 2 u x σ H' R := by
  obtain ⟨T, rfl, h1, h2, h3⟩ := h
  exact ⟨T, _, rfl, .inl (.inl h3.eq), rfl, q T h1 h2 h3⟩
end
theorem rep_succ {i : Nat} : (List.replicate i true).map V.bl ++ [V.bl true] = (List.replicate (i + 1) true).map V.bl := by
  rw [List.replicate_succ', List.map_append]
  rfl
theorem rep_succD {i : Nat} {p : Prop} [Decidable p] (h : p) : (List.replicate i true).map V.bl ++ [V.bl (decide p)] = (List.replicate (i + 1) true).map V.bl := by
  rw [decide_eq_true h]
  exact rep_succ

section
variable {K : PySem.W.Frag} {σ : L2.St} {H : Hp} {R : L2.St → Hp → Prop} {v : V} {r : List V} {t : TG} {u : TGs}
instance : Step (gCons t u (v :: r) σ H R) (t v σ H fun σ' H' => u r σ' H' R) := ⟨fun q => ⟨v, r, rfl, q⟩⟩
instance : Step (gNil [] σ H R) (R σ H) := ⟨fun q => ⟨rfl, q⟩⟩
theorem g_gtup {a : Addr} {xs : List V} {n : Nat} [h : StC K H a xs] (hn : xs.length = n) (q : u xs σ H R) : gTup K n u (.ref a) σ H R := ⟨a, xs, rfl, h.st, hn, q⟩
end
theorem g_str {H : Hp} {Q : VK} {i : Int} (h : -(2 ^ 200) < i ∧ i < 2 ^ 200) (q : (Str.ofString (toString i)).length ≤ 1921 → Q (.str (toString i)) H) : rStr [V.int i] H Q := by
  have h2 : i.natAbs.log2 < 1920 := Nat.lt_of_lt_of_le (PySem.Flt.log2_lt_of (k := 200) (by decide) (by omega)) (by decide)
  exact ⟨i, rfl, h2, q (PyProof.Rows.int_text_len_1921 h2)⟩
theorem g_all {K : PySem.W.Frag} {H : Hp} {Q : VK} {a : Addr} {bs : List Bool} [h : SqC K H a (bs.map V.bl)] (q : Q (.bl (bs.all _root_.id)) H) : rAll K [V.ref a] H Q := ⟨a, bs, rfl, h.sq, q⟩
theorem g_allT {K : PySem.W.Frag} {H : Hp} {Q : VK} {a : Addr} {n : Nat} [h : SqC K H a ((List.replicate n true).map V.bl)] (q : Q (.bl true) H) : rAll K [V.ref a] H Q := ⟨a, _, rfl, h.sq, by simpa using q⟩
theorem g_sum {K : PySem.W.Frag} {H : Hp} {Q : VK} {a : Addr} {ns : List Int} [h : SqC K H a (ns.map V.int)] (q : Q (.int ns.sum) H) : rSum K [V.ref a] H Q := ⟨a, ns, rfl, h.sq, q⟩
theorem mulx128 {i j : Int} (h : -(2 ^ 300) < i ∧ i < 2 ^ 300) (h2 : -(2 ^ 300) < j ∧ j < 2 ^ 300) : CMulX i j := mulx_ok (a := 300) (b := 300) (by omega) (by omega) (by decide)
theorem q_int {H : Hp} {Q : VK} {a b : Int} (k : Q (.int a) H) (e : a = b) : Q (.int b) H := e ▸ k
theorem q_bl {H : Hp} {Q : VK} {a b : Bool} (k : Q (.bl a) H) (e : a = b) : Q (.bl b) H := e ▸ k
theorem q_dec {H : Hp} {Q : VK} {p : Prop} {_ : Decidable p} (k : Q (.bl true) H) (e : p) : Q (.bl (decide p)) H := by rw [decide_eq_true e]; exact k
theorem q_decN {H : Hp} {Q : VK} {p : Prop} {_ : Decidable p} (k : Q (.bl false) H) (e : ¬ p) : Q (.bl (decide p)) H := by rw [decide_eq_false e]; exact k
section
variable {K : PySem.W.Frag} {H : Hp} {Q : VK}
theorem g_isi {x c : V} {t u : Value} {b : Bool} (h1 : ClsV c u) (h2 : TyX K H x t) (h3 : PySem.W.kitOne K t u = some b) (q : Q (.bl b) H) : rIsi K [x, c] H Q := ⟨x, c, t, u, b, rfl, h1, h2, h3, q⟩
instance {i : Int} : Step (rIsi K [.int i, .ty "int"] H Q) (Q (.bl true) H) := ⟨g_isi (.ty _) (.base (.int i)) (kit_ty (by decide +kernel))⟩
instance {i : Int} : Step (rIsi K [.int i, .ty "bool"] H Q) (Q (.bl false) H) := ⟨g_isi (.ty _) (.base (.int i)) (kit_ty (by decide +kernel))⟩
instance {i : Bool} : Step (rIsi K [.bl i, .ty "int"] H Q) (Q (.bl true) H) := ⟨g_isi (.ty _) (.base (.bl i)) (kit_ty (by decide +kernel))⟩
instance {i : Bool} : Step (rIsi K [.bl i, .ty "bool"] H Q) (Q (.bl true) H) := ⟨g_isi (.ty _) (.base (.bl i)) (kit_ty (by decide +kernel))⟩
instance : Step (rIsi K [.non, .ty "int"] H Q) (Q (.bl false) H) := ⟨g_isi (.ty _) (.base .non) (kit_ty (by decide +kernel))⟩
instance : Step (rIsi K [.non, .ty "bool"] H Q) (Q (.bl false) H) := ⟨g_isi (.ty _) (.base .non) (kit_ty (by decide +kernel))⟩
instance {z : Str} : Step (rIsi K [.str z, .ty "str"] H Q) (Q (.bl true) H) := ⟨g_isi (.ty _) (.base (.str z)) (kit_ty (by decide +kernel))⟩
theorem g_isL {p : Addr} {xs : List V} [h : At H p (.lst xs)] (q : Q (.bl true) H) : rIsi K [.ref p, .ty "list"] H Q := g_isi (.ty _) (.base (.lst h.eq)) (kit_ty (by decide +kernel)) q
theorem g_isT {p : Addr} {xs : List V} [h : At H p (.tup xs)] (q : Q (.bl true) H) : rIsi K [.ref p, .ty "tuple"] H Q := g_isi (.ty _) (.base (.tup h.eq)) (kit_ty (by decide +kernel)) q
instance (priority := high) : Step (rInt [V.bl true] H Q) (Q (.int 1) H) := ⟨fun q => g_intB q⟩
instance (priority := high) : Step (rInt [V.bl false] H Q) (Q (.int 0) H) := ⟨fun q => g_intB q⟩
instance (priority := high) {p : Prop} [Decidable p] : Step (rInt [V.bl (decide p)] H Q) (Q (.int (if p then 1 else 0)) H) := ⟨fun q => g_intB (by
  by_cases h : p
  · rw [if_pos h] at q
    rw [decide_eq_true h]
    exact q
  · rw [if_neg h] at q
    rw [decide_eq_false h]
    exact q)⟩
end

/-! ### the same with the written part named (within a comprehension it must not speak of the block) -/
section
variable {X : Cx} {K : PySem.W.Frag}
theorem opAddK (h : X.K = K) : OpR X (binaryOp .Add) (rAdd K) := h ▸ opAdd
theorem opMulK (h : X.K = K) : OpR X (binaryOp .Mult) (rMul K) := h ▸ opMul
theorem opEqK (h : X.K = K) (hu : X.A.units + 64 < cLine) : OpR X (compareOp .Eq) (rEqX K) := h ▸ opEq hu
theorem opNeK (h : X.K = K) (hu : X.A.units + 64 < cLine) : OpR X (compareOp .NotEq) (rNeX K) := h ▸ opNe hu
theorem opInK (h : X.K = K) : OpR X (compareOp .In) (rIn K false) := h ▸ op_in_seq
theorem opNotInK (h : X.K = K) : OpR X (compareOp .NotIn) (rIn K true) := h ▸ op_notIn_seq
theorem ixSeqK (h : X.K = K) : IxR X (rIx K) := h ▸ ix_seq
theorem callLenK (h : X.K = K) : CallR X (.builtin "len") (rLen K) := h ▸ callLen
theorem callListOfK (h : X.K = K) : CallR X (.type "list") (rListOf K) := h ▸ callListOf
theorem slAnyK (h : X.K = K) : SlR X (rSlX K) := h ▸ slAny
theorem callSumK (h : X.K = K) (hc : X.calm = true) : CallR X (.builtin "sum") (rSum K) := h ▸ cr_sum hc
theorem callMinK (h : X.K = K) (hc : X.calm = true) : CallR X (.builtin "min") (rMin K) := h ▸ cr_min hc
theorem callMaxK (h : X.K = K) (hc : X.calm = true) : CallR X (.builtin "max") (rMax K) := h ▸ cr_max hc
theorem callAllK (h : X.K = K) (hc : X.calm = true) : CallR X (.builtin "all") (rAll K) := h ▸ cr_all hc
theorem callAnyK (h : X.K = K) (hc : X.calm = true) : CallR X (.builtin "any") (rAny K) := h ▸ cr_any hc
theorem callIsiK (h : X.K = K) : CallR X (.builtin "isinstance") (rIsi K) := h ▸ call_isi
theorem mtIndexK (h : X.K = K) : MtR X "list.index" (rIndex K) := h ▸ mt_index
variable {o e : Expr} {es : List Expr} {to : TE} {t : TA} {name : Str} {apos cpos : Pos} {T id : String} {r : V → List V → Hp → VK → Prop}
theorem pe_bm0K (h : X.K = K) (pa : PlainAttrs T) (slot : Slot T name id) (hty : typeOf (.builtin id) = pure (.type "method_descriptor")) (hm : MtR X id r) (ho : PE X o to)
    (hbase : attributeBase o name X.env (eval o X.env) = eval o X.env := by rfl) (hline : (apos.endLine == cpos.line) = true := by rfl) : PE X (.Call (.Attribute o name apos) [] [] cpos) (tBM0 K T r to) := h ▸ pe_bm0 pa slot hty hm ho hbase hline
theorem pe_bmK (h : X.K = K) (pa : PlainAttrs T) (slot : Slot T name id) (hty : typeOf (.builtin id) = pure (.type "method_descriptor")) (hm : MtR X id r) (ho : PE X o to) (ha : PA X (e :: es) t)
    (hbase : attributeBase o name X.env (eval o X.env) = eval o X.env := by rfl)
    (hfew : ((backTo cpos (starEach (e :: es) X.env)).all (fun x => !x.1) && (backToKw cpos (keywordEach [] X.env)).all (fun x => x.1.isSome)
      && decide ((e :: es).length + ([] : List Keyword).length + (if ([] : List Keyword).isEmpty then 0 else 1) < 30)) = true := by rfl)
    (hline : (apos.endLine == cpos.line) = true := by rfl) (hs : starEach (e :: es) X.env = (false, eval e X.env) :: starEach es X.env := by rfl) (hplain : (backTo cpos (starEach es X.env)).any (·.1) = false := by rfl) :
    PE X (.Call (.Attribute o name apos) (e :: es) [] cpos) (tBM K T r to t) := h ▸ pe_bm pa slot hty hm ho ha hbase hfew hline hs hplain
theorem pi_listK {tg l : Expr} {tl : TE} (h : X.K = K) (hl : PE X l tl) : PI X tg l (iList K tl) := h ▸ pi_list hl
end
theorem cdivW {j : Int} {i : Int} (h : 0 < j) (h2 : j < 2 ^ 200) : CDivW i j := wide_div (b := 200) h (by omega) (by decide) (by decide)

section
variable {K : PySem.W.Frag} {H : Hp} {Q : VK} {lo hi : Option Int}
theorem g_slL {p : Addr} {xs : List V} [h : SqC K H p xs] (q : ∀ p H2, Nw H p → Ex H H2 → At H2 p (.lst (cutV xs lo hi)) → Q (.ref p) H2) : rSlX K (.ref p) lo hi H Q :=
  .inl ⟨p, xs, rfl, h.sq, g_new q⟩
theorem g_slS {z : Str} (h : z.length ≤ 100000) (q : Q (.str (cutS z lo hi)) H) : rSlX K (.str z) lo hi H Q :=
  .inr (.inl ⟨z, rfl, Nat.le_trans h (by decide), q⟩)
theorem g_listOf {p : Addr} {xs : List V} [h : SqC K H p xs] (q : ∀ p H2, Nw H p → Ex H H2 → At H2 p (.lst xs) → Q (.ref p) H2) :
    rListOf K [V.ref p] H Q := ⟨p, xs, rfl, .inl h.sq, g_new q⟩
end
/-! ### texts over 0 and 1 -/
def bc (b : Bool) : Nat := if b then 49 else 48
theorem bc_inj {a b : Bool} (h : bc a = bc b) : a = b := by cases a <;> cases b <;> simp_all [bc]
def tx (l : List Bool) : Str := ⟨(l.map bc).toArray⟩
theorem tx_list (l : List Bool) : (tx l).cps.toList = l.map bc := by simp [tx]
theorem tx_len (l : List Bool) : (tx l).length = l.length := by simp [tx, Str.length]
theorem map_bc_inj : ∀ {a b : List Bool}, a.map bc = b.map bc → a = b
  | [], [], _ => rfl
  | [], _ :: _, h => by simp at h
  | _ :: _, [], h => by simp at h
  | x :: a, y :: b, h => by
    simp only [List.map_cons, List.cons.injEq] at h
    rw [bc_inj h.1, map_bc_inj h.2]
theorem str_ext {a b : Str} (h : a.cps.toList = b.cps.toList) : a = b := by
  obtain ⟨a⟩ := a
  obtain ⟨b⟩ := b
  congr 1
  exact Array.toList_inj.mp h
theorem tx_inj {a b : List Bool} (h : tx a = tx b) : a = b := map_bc_inj (by rw [← tx_list, ← tx_list, h])
theorem tx_eq {a b : List Bool} : tx a = tx b ↔ a = b := ⟨tx_inj, fun h => by rw [h]⟩
theorem tx_nil : tx [] = ("" : Str) := rfl
theorem tx_0 : tx [false] = ("0" : Str) := rfl
theorem tx_1 : tx [true] = ("1" : Str) := rfl
theorem tx_01 : tx [false, true] = ("01" : Str) := rfl
theorem tx_app (a b : List Bool) : tx a ++ tx b = tx (a ++ b) := by
  apply str_ext
  show ((tx a).cps ++ (tx b).cps).toList = _
  rw [Array.toList_append, tx_list, tx_list, tx_list, List.map_append]
theorem tx_rep1 (b : Bool) (n : Nat) : repS (tx [b]) n = tx (List.replicate n b) := by
  apply str_ext
  rw [tx_list]
  unfold repS
  simp only [tx_list, List.map_cons, List.map_nil, List.map_replicate]
  induction n with
  | zero => rfl
  | succ n ih => rw [List.replicate_succ, List.flatten_cons, List.replicate_succ]; simpa using ih
theorem tx_one (b : Bool) : tx [b] = ⟨#[bc b]⟩ := rfl
theorem tx_at {l : List Bool} {i c : Nat} (h : (tx l).cps[i]? = some c) : ∃ b, l[i]? = some b ∧ (⟨#[c]⟩ : Str) = tx [b] := by
  have h2 : (l.map bc)[i]? = some c := by rw [← tx_list, Array.getElem?_toList]; exact h
  rw [List.getElem?_map] at h2
  cases e : l[i]? with
  | none => rw [e] at h2; simp at h2
  | some b =>
    rw [e] at h2
    simp at h2
    exact ⟨b, rfl, by rw [tx_one, h2]⟩
theorem tx_atI {l : List Bool} {i : Int} {b : Bool} (h : atI l i = some b) : atI (tx l).cps.toList i = some (bc b) := by
  rw [tx_list]
  unfold atI at *
  rw [List.length_map]
  cases e : ixN l.length i with
  | none => rw [e] at h; simp at h
  | some j =>
    rw [e] at h
    show (l.map bc)[j]? = _
    rw [List.getElem?_map]
    have h' : l[j]? = some b := h
    rw [h']
    rfl
theorem tx_cut (l : List Bool) (lo hi : Option Int) : cutS (tx l) lo hi = tx ((l.drop (HT.sIx l.length 0 lo)).take (HT.sIx l.length l.length hi - HT.sIx l.length 0 lo)) := by
  apply str_ext
  unfold cutS
  rw [tx_list, tx_list, tx_len, List.map_take, List.map_drop]
theorem cnt_tx (b : Bool) (l : List Bool) : PyProof.Rows.cnt (bc b) (l.map bc) = (l.count b : Nat) := by
  induction l with
  | nil => rfl
  | cons x l ih =>
    rw [List.map_cons, PyProof.Rows.cnt_cons, ih, List.count_cons]
    cases b <;> cases x <;> simp [bc] <;> omega
theorem tx_count (l : List Bool) (b : Bool) : Txt.count (tx l) (tx [b]) = (l.count b : Nat) := by
  rw [← cnt_tx, ← tx_list]
  exact PyProof.Rows.count_is (tx l) (bc b)
theorem strSub_list (x : Str) (i j : Nat) : (Builtin.Str.strSub x i j).cps.toList = (x.cps.toList.drop i).take (j - i) := by
  unfold Builtin.Str.strSub
  rw [Array.toList_extract, List.extract_eq_take_drop]
theorem drop_tw {α : Type} (p : α → Bool) : ∀ l : List α, l.drop (l.takeWhile p).length = l.dropWhile p
  | [] => rfl
  | a :: r => by
    rw [List.takeWhile_cons, List.dropWhile_cons]
    split
    · rw [List.length_cons, List.drop_succ_cons, drop_tw p r]
    · rfl
theorem tx_lstrip0 (l : List Bool) : Txt.lstripChars (tx l) (tx [false]) = tx (l.dropWhile (! ·)) := by
  apply str_ext
  unfold Txt.lstripChars
  rw [PyProof.Rows.stripBy_eq, strSub_list, tx_list, tx_list]
  have hp : ∀ b, (tx [false]).cps.contains (bc b) = !b := by intro b; cases b <;> simp [tx, bc]
  have e1 : PySem.stripLo (tx [false]).cps.contains true (tx l) = (l.takeWhile (! ·)).length := by
    unfold PySem.stripLo
    simp only [if_true]
    rw [tx_list, List.takeWhile_map, List.length_map]
    congr 2
    funext b
    exact hp b
  have e2 : ∀ lo, PySem.stripHi (tx [false]).cps.contains false (tx l) lo = l.length := by
    intro lo
    unfold PySem.stripHi
    simp [tx_len]
  rw [e1, e2, ← List.map_drop, drop_tw, List.take_of_length_le]
  rw [List.length_map, ← drop_tw, List.length_drop]
  exact Nat.le_refl _
theorem tx_strip01 (l : List Bool) : Txt.stripChars (tx l) (tx [false, true]) = tx [] := by
  apply str_ext
  unfold Txt.stripChars
  rw [PyProof.Rows.stripBy_eq, strSub_list, tx_list]
  have hp : ∀ b, (tx [false, true]).cps.contains (bc b) = true := by intro b; cases b <;> simp [tx, bc]
  have e1 : PySem.stripLo (tx [false, true]).cps.contains true (tx l) = l.length := by
    unfold PySem.stripLo
    simp only [if_true]
    rw [tx_list, List.takeWhile_map, List.length_map]
    congr 1
    have hp' : ((tx [false, true]).cps.contains ∘ bc) = fun _ => true := by funext b; exact hp b
    rw [hp']
    clear hp hp'
    induction l with
    | nil => rfl
    | cons a l ih => rw [List.takeWhile_cons, if_pos rfl, ih]
  rw [e1, ← List.map_drop, List.drop_length, tx_list]
  simp
theorem tx_starts (l m : List Bool) : Txt.startswith (tx l) (tx m) = (l.take m.length == m) := by
  unfold Txt.startswith
  rw [tx_len, tx_len, Nat.zero_add]
  have e : Builtin.Str.subAt (tx l) (tx m) 0 = (l.take m.length == m) := by
    rw [Bool.eq_iff_iff]
    unfold Builtin.Str.subAt
    rw [beq_iff_eq, beq_iff_eq, ← Array.toList_inj, Array.toList_extract, List.extract_eq_take_drop, tx_list, tx_list, tx_len]
    simp only [List.drop_zero, Nat.zero_add, Nat.sub_zero]
    rw [← List.map_take]
    exact ⟨map_bc_inj, fun h => by rw [h]⟩
  rw [e]
  by_cases h : m.length ≤ l.length
  · simp [h]
  · have : ¬ (l.take m.length = m) := by
      intro q
      have := congrArg List.length q
      rw [List.length_take] at this
      omega
    simp [h, this]
theorem tx_join (ls : List (List Bool)) : Txt.join (tx []) (ls.map tx) = tx ls.flatten := by
  apply str_ext
  rw [tx_list]
  unfold Txt.join Builtin.Str.glued
  have h : ∀ (r : List (List Bool)) (acc : Array Nat), ((r.map tx).foldl (fun acc p => acc ++ (tx []).cps ++ p.cps) acc).toList = acc.toList ++ (r.flatten).map bc := by
    intro r
    induction r with
    | nil => intro acc; simp
    | cons x r ih =>
      intro acc
      rw [List.map_cons, List.foldl_cons, ih]
      simp [tx]
  cases ls with
  | nil => rfl
  | cons x r =>
    simp only [List.map_cons, List.drop_succ_cons, List.drop_zero, List.headD_cons]
    rw [h, tx_list]
    simp
/-! ### steps over texts of 0 and 1 -/
def rCnt : V → List V → Hp → VK → Prop := fun x xs H Q => ∃ a b, x = .str a ∧ xs = [.str b] ∧ Q (.int (Txt.count a b)) H
def rStarts : V → List V → Hp → VK → Prop := fun x xs H Q => ∃ a b, x = .str a ∧ xs = [.str b] ∧ Q (.bl (Txt.startswith a b)) H
def rStripC : V → List V → Hp → VK → Prop := fun x xs H Q => ∃ a b, x = .str a ∧ xs = [.str b] ∧ a.length ≤ sizeLine ∧ Q (.str (Txt.stripChars a b)) H
def rLstripC : V → List V → Hp → VK → Prop := fun x xs H Q => ∃ a b, x = .str a ∧ xs = [.str b] ∧ a.length ≤ sizeLine ∧ Q (.str (Txt.lstripChars a b)) H
def rJoin (K : PySem.W.Frag) : V → List V → Hp → VK → Prop := fun x xs H Q => ∃ a p, ∃ ys : List Str, x = .str a ∧ xs = [.ref p] ∧ (SqL K H p (ys.map V.str) ∨ SqT K H p (ys.map V.str)) ∧
    (ys.map (·.length)).sum + ys.length * a.length ≤ 16777216 ∧ Q (.str (Txt.join a ys)) H
section
variable {X : Cx} {K : PySem.W.Frag}
theorem mtCount : MtR X "str.count" rCnt := mt_count
theorem mtStarts : MtR X "str.startswith" rStarts := mt_startswith
theorem mtStripC : MtR X "str.strip" rStripC := mt_stripChars
theorem mtLstripC : MtR X "str.lstrip" rLstripC := mt_lstripChars
theorem mtJoinK (h : X.K = K) : MtR X "str.join" (rJoin K) := h ▸ mt_join
end
section
variable {K : PySem.W.Frag} {σ : L2.St} {H : Hp} {Q : VK} {l m : List Bool} {b : Bool}
theorem szT {n : Nat} (h : l.length ≤ n) (hn : n ≤ 100000 := by decide) : (tx l).length ≤ 100000 := by rw [tx_len]; omega
instance (priority := high) : Step (tC (.str ("0" : Str)) σ H Q) (Q (.str (tx [false])) H) := ⟨fun q => q⟩
instance (priority := high) : Step (tC (.str ("1" : Str)) σ H Q) (Q (.str (tx [true])) H) := ⟨fun q => q⟩
instance (priority := high) : Step (tC (.str ("" : Str)) σ H Q) (Q (.str (tx [])) H) := ⟨fun q => q⟩
instance (priority := high) : Step (tC (.str ("01" : Str)) σ H Q) (Q (.str (tx [false, true])) H) := ⟨fun q => q⟩
theorem g_addT (h : l.length + m.length ≤ 100000) (q : Q (.str (tx (l ++ m))) H) : rAdd K (.str (tx l)) (.str (tx m)) H Q := g_addS (by rw [tx_len, tx_len]; exact h) (by rw [tx_app]; exact q)
theorem g_mulT {n : Int} (h : n ≤ 100000 ∧ -100000 ≤ n) (q : Q (.str (tx (List.replicate n.toNat b))) H) : rMul K (.str (tx [b])) (.int n) H Q := by
  refine .inr (.inr (.inl ⟨tx [b], n, rfl, rfl, ⟨by omega, by omega, ?_⟩, ?_⟩))
  · rw [tx_len, List.length_singleton]; omega
  · rw [tx_rep1]; exact q
theorem g_lenT (h : l.length ≤ 100000) (q : Q (.int (l.length : Nat)) H) : rLen K [.str (tx l)] H Q := g_len (len_s (by rw [tx_len]; exact h)) (by rw [tx_len]; exact q)
instance (priority := high) : Step (rEqX K (.str (tx l)) (.str (tx m)) H Q) (Q (.bl (decide (l = m))) H) := ⟨fun q => g_eqS (by
  by_cases h : l = m
  · rw [decide_eq_true (tx_eq.mpr h)]; rw [decide_eq_true h] at q; exact q
  · rw [decide_eq_false (fun e => h (tx_inj e))]; rw [decide_eq_false h] at q; exact q)⟩
instance (priority := high) : Step (rNeX K (.str (tx l)) (.str (tx m)) H Q) (Q (.bl (!decide (l = m))) H) := ⟨fun q => g_neS (by
  by_cases h : l = m
  · rw [decide_eq_true (tx_eq.mpr h)]; rw [decide_eq_true h] at q; exact q
  · rw [decide_eq_false (fun e => h (tx_inj e))]; rw [decide_eq_false h] at q; exact q)⟩
instance : Step (rCnt (.str (tx l)) [.str (tx [b])] H Q) (Q (.int (l.count b : Nat)) H) := ⟨fun q => ⟨_, _, rfl, rfl, by rw [tx_count]; exact q⟩⟩
instance : Step (rStarts (.str (tx l)) [.str (tx m)] H Q) (Q (.bl (l.take m.length == m)) H) := ⟨fun q => ⟨_, _, rfl, rfl, by rw [tx_starts]; exact q⟩⟩
theorem g_lstrip0 (h : l.length ≤ 100000) (q : Q (.str (tx (l.dropWhile (! ·)))) H) : rLstripC (.str (tx l)) [.str (tx [false])] H Q :=
  ⟨_, _, rfl, rfl, Nat.le_trans (szT h) (by decide), by rw [tx_lstrip0]; exact q⟩
theorem g_strip01 (h : l.length ≤ 100000) (q : Q (.str (tx [])) H) : rStripC (.str (tx l)) [.str (tx [false, true])] H Q :=
  ⟨_, _, rfl, rfl, Nat.le_trans (szT h) (by decide), by rw [tx_strip01]; exact q⟩
theorem g_joinT {p : Addr} {ls : List (List Bool)} [hp : SqC K H p (ls.map fun l => V.str (tx l))] (hz : ls.flatten.length ≤ 100000) (q : Q (.str (tx ls.flatten)) H) : rJoin K (.str (tx [])) [.ref p] H Q := by
  refine ⟨tx [], p, ls.map tx, rfl, rfl, .inl (by rw [List.map_map]; exact hp.sq), ?_, by rw [tx_join]; exact q⟩
  rw [List.map_map, tx_len, List.length_nil, Nat.mul_zero, Nat.add_zero]
  have e : (ls.map (Str.length ∘ tx)).sum = ls.flatten.length := by
    rw [List.length_flatten]
    congr 1
    apply List.map_congr_left
    intro a _
    exact tx_len a
  have e2 : (ls.map ((fun x => x.length) ∘ tx)).sum = ls.flatten.length := e
  rw [e2]
  omega
theorem g_ixTx {i : Int} (hz : l.length ≤ 100000) (h : atI l i = some b) (q : Q (.str (tx [b])) H) : rIx K (.str (tx l)) (.int i) H Q :=
  .inr (.inr ⟨tx l, i, bc b, rfl, rfl, Nat.le_trans (szT hz) (by decide), tx_atI h, q⟩)
theorem atI_nat {α : Type} {l : List α} {n : Nat} {x : α} (h : l[n]? = some x) : atI l (n : Int) = some x := by
  unfold atI
  have hl := (List.getElem?_eq_some_iff.mp h).1
  have e : ixN l.length (n : Int) = some n := by
    unfold ixN
    rw [if_pos (by omega), if_pos (by omega)]
    simp
  rw [e]
  exact h
theorem g_slT {lo hi : Option Int} (h : l.length ≤ 100000) (q : Q (.str (tx ((l.drop (HT.sIx l.length 0 lo)).take (HT.sIx l.length l.length hi - HT.sIx l.length 0 lo)))) H) : rSlX K (.str (tx l)) lo hi H Q :=
  g_slS (szT h) (by rw [tx_cut]; exact q)
theorem tx_char {i c : Nat} (h : (tx l).cps[i]? = some c) : ∃ b, l[i]? = some b ∧ (⟨#[c]⟩ : Str) = tx [b] := tx_at h
theorem tx_size : (tx l).cps.size = l.length := tx_len l
end
theorem of_all {α : Type} {f : α → V} : ∀ {acc : List V}, (∀ v ∈ acc, ∃ x, v = f x) → ∃ xs : List α, acc = xs.map f
  | [], _ => ⟨[], rfl⟩
  | v :: r, h => by
    obtain ⟨x, hx⟩ := h v (List.mem_cons_self ..)
    obtain ⟨xs, e⟩ := of_all (fun u hu => h u (List.mem_cons_of_mem _ hu))
    exact ⟨x :: xs, by rw [hx, e]; rfl⟩
theorem take_snoc {α : Type} {l : List α} {i : Nat} {x : α} (h : l[i]? = some x) : l.take (i + 1) = l.take i ++ [x] := by
  rw [List.take_add_one, h]
  rfl
theorem take_map_snoc {α β : Type} {l : List α} {f : α → β} {i : Nat} {x : α} (h : l[i]? = some x) : (l.take i).map f ++ [f x] = (l.take (i + 1)).map f := by
  rw [take_snoc h, List.map_append]
  rfl
theorem map_at {α β : Type} {l : List α} {f : α → β} {i : Nat} {y : β} (h : (l.map f)[i]? = some y) : ∃ x, l[i]? = some x ∧ y = f x := by
  rw [List.getElem?_map] at h
  cases e : l[i]? with
  | none => rw [e] at h; simp at h
  | some x => rw [e] at h; simp at h; exact ⟨x, rfl, h.symm⟩
theorem g_cat {K : PySem.W.Frag} {H : Hp} {Q : VK} {l b : Addr} {xs zs : List V} [h1 : At H l (.lst xs)] [h2 : At H b (.lst zs)] (hz : xs.length + zs.length ≤ 100000) (q : ∀ p H2, Nw H p → Ex H H2 → At H2 p (.lst (xs ++ zs)) → Q (.ref p) H2) : rAdd K (.ref l) (.ref b) H Q :=
  .inr (.inr (.inl ⟨l, b, xs, zs, rfl, rfl, h1.eq, h2.eq, Nat.le_trans hz (by decide), g_new q⟩))
section
variable {X : Cx} {K : PySem.W.Frag} {e e2 : Expr} {ta : TA} {p pos tpos : Pos} {elts : List Expr} {kk : Nat}
theorem pi_zipK (h : X.K = K) (hg : Gl X "zip") (hm : X.mg "zip" = none) (ha : PA X [e, e2] ta)
    (hs : starEach [e, e2] X.env = (false, eval e X.env) :: starEach [e2] X.env := by rfl) (hpl : (backTo pos (starEach [e2] X.env)).any (·.1) = false := by rfl) :
    PI X (.Tuple elts kk tpos) (.Call (.Name "zip" p) [e, e2] [] pos) (iZip K ta) := h ▸ pi_zip hg hm ha hs hpl
theorem pi_enumK (h : X.K = K) (hg : Gl X "enumerate") (hm : X.mg "enumerate" = none) (ha : PA X [e] ta) (hs : starEach [e] X.env = [(false, eval e X.env)] := by rfl) :
    PI X (.Tuple elts kk tpos) (.Call (.Name "enumerate" p) [e] [] pos) (iEnum K ta) := h ▸ pi_enum hg hm ha hs
end
section
variable {K : PySem.W.Frag} {H : Hp} {Q : VK} {p : Addr} {xs acc : List V} {R : Prop}
instance [h : SqC K H p xs] : Step (rLen K [.ref p] H Q) (Q (.int (xs.length : Nat)) H) := ⟨g_len len_l⟩
instance (priority := high) {α : Type} {ns : List α} {f : α → V} [h : SqC K H p (ns.map f)] : Step (rLen K [.ref p] H Q) (Q (.int (ns.length : Nat)) H) := ⟨fun q => g_len len_l (by rw [List.length_map]; exact q)⟩
instance [h : StC K H p xs] : Step (rLen K [.ref p] H Q) (Q (.int (xs.length : Nat)) H) := ⟨g_len len_t⟩
instance [h : SqC K H p xs] : Step (tyV K "list" (.ref p) H ∧ R) R := ⟨g_tyL⟩
instance {P : List V → Hp → Prop} {D : Addr} [h : At H D (.lst acc)] : Step (rW D P H) (P acc H) := ⟨g_rW⟩
instance [h : At H p (.lst xs)] : Step (rIsi K [.ref p, .ty "list"] H Q) (Q (.bl true) H) := ⟨g_isL⟩
instance [h : At H p (.tup xs)] : Step (rIsi K [.ref p, .ty "tuple"] H Q) (Q (.bl true) H) := ⟨g_isT⟩
end
theorem cut1 {α : Type} {ds : List α} {f : α → V} : cutV (ds.map f) (some 1) none = (ds.drop 1).map f := by
  unfold cutV
  rw [show (some (1 : Int)) = some ((1 : Nat) : Int) from rfl, HT.sIx_nat, HT.sIx_none, List.length_map, List.map_drop]
  by_cases h : 1 ≤ ds.length
  · rw [Nat.min_eq_left h, List.take_of_length_le]
    simp
  · have e : ds = [] := List.length_eq_zero_iff.mp (by omega)
    subst e
    rfl
/-! ### lists and tuples of ints, compared -/
class IntsC (xs : List V) (ns : outParam (List Int)) : Prop where
  eq : xs = ns.map V.int
instance : IntsC [] [] := ⟨rfl⟩
instance {i : Int} {xs : List V} {ns : List Int} [h : IntsC xs ns] : IntsC (.int i :: xs) (i :: ns) := ⟨by rw [h.eq]; rfl⟩
instance {ns : List Int} : IntsC (ns.map V.int) ns := ⟨rfl⟩
instance {xs ys : List V} {ns ms : List Int} [h : IntsC xs ns] [k : IntsC ys ms] : IntsC (xs ++ ys) (ns ++ ms) := ⟨by rw [h.eq, k.eq, List.map_append]⟩
theorem dpInts {K : PySem.W.Frag} {H : Hp} : ∀ ns : List Int, DpAll K H (ns.map V.int) (ns.map PyData.int)
  | [] => .nil
  | n :: r => .cons (.int n) (dpInts r)
theorem eqInts : ∀ ns ms : List Int, PyData.eqvAll (ns.map PyData.int) (ms.map PyData.int) = decide (ns = ms)
  | [], [] => by simp [PyData.eqvAll]
  | [], _ :: _ => by simp [PyData.eqvAll]
  | _ :: _, [] => by simp [PyData.eqvAll]
  | n :: r, m :: t => by
    rw [List.map_cons, List.map_cons, PyData.eqvAll, eqInts r t]
    show ((n == m) && decide (r = t)) = _
    by_cases h : n = m <;> by_cases k : r = t <;> simp [h, k]
theorem layInts : ∀ ns : List Int, PyData.canLayAll0 (ns.map PyData.int) = true
  | [] => rfl
  | n :: r => by rw [List.map_cons, PyData.canLayAll0, layInts r]; rfl
theorem depInts : ∀ ns : List Int, PyData.depthAll (ns.map PyData.int) = 0
  | [] => rfl
  | n :: r => by rw [List.map_cons, PyData.depthAll, depInts r]; rfl
theorem shL (ns : List Int) : SeqAt.shaped (.list (ns.map PyData.int)) = true := by
  unfold SeqAt.shaped
  rw [PyData.canLay0, PyData.depth, layInts, depInts]
  rfl
theorem shT (ns : List Int) : SeqAt.shaped (.tuple (ns.map PyData.int)) = true := by
  unfold SeqAt.shaped
  rw [PyData.canLay0, PyData.depth, layInts, depInts]
  rfl
section
variable {K : PySem.W.Frag} {H : Hp} {Q : VK} {p q : Addr} {xs ys : List V} {ns ms : List Int}
instance [h : SqC K H p xs] [k : SqC K H q ys] [a : IntsC xs ns] [b : IntsC ys ms] : Step (rEqX K (.ref p) (.ref q) H Q) (Q (.bl (decide (ns = ms))) H) := ⟨fun z =>
  .inr ⟨_, _, .lst h.sq (by rw [a.eq]; exact dpInts ns), .lst k.sq (by rw [b.eq]; exact dpInts ms), shL ns, shL ms, by rw [PyData.eqv, eqInts]; exact z⟩⟩
instance [h : SqC K H p xs] [k : SqC K H q ys] [a : IntsC xs ns] [b : IntsC ys ms] : Step (rNeX K (.ref p) (.ref q) H Q) (Q (.bl (!decide (ns = ms))) H) := ⟨fun z =>
  .inr ⟨_, _, .lst h.sq (by rw [a.eq]; exact dpInts ns), .lst k.sq (by rw [b.eq]; exact dpInts ms), shL ns, shL ms, by rw [PyData.eqv, eqInts]; exact z⟩⟩
instance [h : StC K H p xs] [k : StC K H q ys] [a : IntsC xs ns] [b : IntsC ys ms] : Step (rEqX K (.ref p) (.ref q) H Q) (Q (.bl (decide (ns = ms))) H) := ⟨fun z =>
  .inr ⟨_, _, .tup h.st (by rw [a.eq]; exact dpInts ns), .tup k.st (by rw [b.eq]; exact dpInts ms), shT ns, shT ms, by rw [PyData.eqv, eqInts]; exact z⟩⟩
instance [h : StC K H p xs] [k : StC K H q ys] [a : IntsC xs ns] [b : IntsC ys ms] : Step (rNeX K (.ref p) (.ref q) H Q) (Q (.bl (!decide (ns = ms))) H) := ⟨fun z =>
  .inr ⟨_, _, .tup h.st (by rw [a.eq]; exact dpInts ns), .tup k.st (by rw [b.eq]; exact dpInts ms), shT ns, shT ms, by rw [PyData.eqv, eqInts]; exact z⟩⟩
end
theorem cutTo {α : Type} {ds : List α} {f : α → V} {n : Nat} : cutV (ds.map f) none (some (n : Int)) = (ds.take n).map f := by
  unfold cutV
  rw [HT.sIx_nat, HT.sIx_none, List.length_map, List.map_take, List.drop_zero, Nat.sub_zero]
  by_cases h : n ≤ ds.length
  · rw [Nat.min_eq_left h]
  · rw [Nat.min_eq_right (by omega), List.take_of_length_le (by simp), List.take_of_length_le (by simp; omega)]
theorem getD_mem {α : Type} {ns : List α} {i : Nat} {d : α} (h : i < ns.length) : ns.getD i d ∈ ns := by
  rw [List.getD_eq_getElem?_getD, List.getElem?_eq_getElem h, Option.getD_some]
  exact List.getElem_mem h
theorem getD_at {α : Type} {ns : List α} {i : Nat} {x d : α} (h : ns[i]? = some x) : ns.getD i d = x := by
  rw [List.getD_eq_getElem?_getD, h, Option.getD_some]
/-! ### xs[::-1], xs[k] = v, i in xs -/
section
variable {X : Cx} {K : PySem.W.Frag}
theorem pe_revLK (h : X.K = K) {e : Expr} {te : TE} {k : Nat} {p1 p2 p3 pos : Pos} (he : PE X e te) : PE X (.Subscript e (.Slice none none (some (.UnaryOp .USub (.Constant (.int 1) k p1) p2)) p3) pos) (tRevL K te) := h ▸ pe_revL he
variable {σ : L2.St} {H : Hp} {Q : VK} {p : Addr} {xs : List V} {ns : List Int} {te : TE}
def rRevL (K : PySem.W.Frag) (x : V) (H1 : Hp) (Q : VK) : Prop := ∃ a xs, x = .ref a ∧ SqL K H1 a xs ∧ ∀ p, H1 p = none → Q (.ref p) (upd H1 p (.lst xs.reverse))
instance : Step (tRevL K te σ H Q) (te σ H fun x H1 => rRevL K x H1 Q) := ⟨fun q => q⟩
theorem g_revL [h : SqC K H p xs] (q : ∀ p2 H2, Nw H p2 → Ex H H2 → At H2 p2 (.lst xs.reverse) → Q (.ref p2) H2) : rRevL K (.ref p) H Q := ⟨p, xs, rfl, h.sq, g_new q⟩
theorem ixN_nat {n i : Nat} (h : i < n) : ixN n (i : Int) = some i := by
  unfold ixN
  rw [if_pos (by omega), if_pos (by omega)]
  simp
theorem g_setI {k : Int} {v : Int} {R : Hp → Prop} [h : At H p (.lst (ns.map V.int))] (h0 : 0 ≤ k) (h1 : k < (ns.length : Int)) (q : ∀ H2, ExB p H H2 → At H2 p (.lst ((ns.set k.toNat v).map V.int)) → R H2) : rSetL (.ref p) (.int k) (.int v) H R := by
  obtain ⟨j, rfl⟩ : ∃ j : Nat, k = (j : Int) := ⟨k.toNat, by omega⟩
  refine g_set (j := j) (ixN_nat (by rw [List.length_map]; omega)) fun H2 e hp => q H2 e ?_
  rw [Int.toNat_natCast, List.map_set]
  exact hp
theorem inV_int {i : Int} : ∀ ns : List Int, inV (.int i) (ns.map V.int) = decide (i ∈ ns)
  | [] => by simp [inV]
  | n :: r => by
    have ih := inV_int (i := i) r
    unfold inV at *
    rw [List.map_cons, List.any_cons, ih]
    show ((n == i) || decide (i ∈ r)) = _
    rw [Bool.eq_iff_iff]
    simp only [Bool.or_eq_true, beq_iff_eq, decide_eq_true_eq, List.mem_cons]
    exact ⟨fun h => h.imp Eq.symm _root_.id, fun h => h.imp Eq.symm _root_.id⟩
theorem flat_ints : ∀ ns : List Int, (ns.map V.int).all flatV = true
  | [] => rfl
  | n :: r => by rw [List.map_cons, List.all_cons, flat_ints r]; rfl
instance {i : Int} [h : SqC K H p (ns.map V.int)] : Step (rIn K false (.int i) (.ref p) H Q) (Q (.bl (decide (i ∈ ns))) H) := ⟨fun q => ⟨p, _, rfl, .inl h.sq, rfl, flat_ints ns, by rw [if_neg Bool.false_ne_true, inV_int]; exact q⟩⟩
instance {i : Int} [h : SqC K H p (ns.map V.int)] : Step (rIn K true (.int i) (.ref p) H Q) (Q (.bl (!decide (i ∈ ns))) H) := ⟨fun q => ⟨p, _, rfl, .inl h.sq, rfl, flat_ints ns, by rw [if_pos rfl, inV_int]; exact q⟩⟩
theorem g_ixN {n : Nat} {v : V} [h : SqC K H p xs] (a : xs[n]? = some v) (q : Q v H) : rIx K (.ref p) (.int (n : Nat)) H Q := g_ixL (atI_nat a) q
theorem q_true {b : Bool} (k : Q (.bl b) H) (h : b = true) : Q (.bl true) H := h ▸ k
theorem q_false {b : Bool} (k : Q (.bl b) H) (h : b = false) : Q (.bl false) H := h ▸ k
end
theorem q_dec' {H : Hp} {Q : VK} {p : Prop} {_ : Decidable p} (k : Q (.bl (decide p)) H) (h : p) : Q (.bl true) H := by rw [decide_eq_true h] at k; exact k
theorem q_decN' {H : Hp} {Q : VK} {p : Prop} {_ : Decidable p} (k : Q (.bl (decide p)) H) (h : ¬ p) : Q (.bl false) H := by rw [decide_eq_false h] at k; exact k
theorem for1n {σ : L2.St} {H : Hp} {D : Ends} {tb : TS} {g : TG} {n : Int} (bs : List Addr) (Pv : Int → Nat → L2.St → Hp → Prop) (hn : -(2 ^ 62) ≤ n ∧ n < 2 ^ 62) (h0 : Pv n 0 σ H)
    (hs : ∀ (i : Nat) σ' H', (i : Int) < n → Chg bs H H' → Pv n i σ' H' → g (.int (i : Int)) σ' H' fun σ2 H2 => tb { D with nx := LI bs H (Pv n (i + 1)), ct := LI bs H (Pv n (i + 1)), bk := D.nx } σ2 H2)
    (hd : ∀ σ' H', Chg bs H H' → Pv n n.toNat σ' H' → D.nx σ' H') : rFor1 [.int n] g tb D σ H := for1 bs (Pv n) hn h0 hs hd
theorem cutFrom {α : Type} {ds : List α} {f : α → V} {n : Nat} : cutV (ds.map f) (some (n : Int)) none = (ds.drop n).map f := by
  unfold cutV
  rw [HT.sIx_nat, HT.sIx_none, List.length_map, List.map_drop]
  by_cases h : n ≤ ds.length
  · rw [Nat.min_eq_left h, List.take_of_length_le]
    simp
  · rw [Nat.min_eq_right (by omega), Nat.sub_self, List.take_zero, List.drop_eq_nil_of_le (by simp; omega)]
theorem getD_set {α : Type} {ds : List α} {p : Nat} {v d : α} (hp : p < ds.length) (i : Nat) : (ds.set p v).getD i d = if i = p then v else ds.getD i d := by
  rw [List.getD_eq_getElem?_getD, List.getElem?_set]
  by_cases e : p = i
  · subst e
    simp [hp]
  · rw [if_neg e, if_neg (fun z => e z.symm), List.getD_eq_getElem?_getD]
theorem cutB_from {α : Type} {l : List α} {n : Nat} : (l.drop (HT.sIx l.length 0 (some (n : Int)))).take (HT.sIx l.length l.length none - HT.sIx l.length 0 (some (n : Int))) = l.drop n := by
  rw [HT.sIx_nat, HT.sIx_none]
  by_cases h : n ≤ l.length
  · rw [Nat.min_eq_left h, List.take_of_length_le]
    simp
  · rw [Nat.min_eq_right (by omega), Nat.sub_self, List.take_zero, List.drop_eq_nil_of_le (by omega)]
theorem cutB_1 {α : Type} {l : List α} : (l.drop (HT.sIx l.length 0 (some 1))).take (HT.sIx l.length l.length none - HT.sIx l.length 0 (some 1)) = l.drop 1 := cutB_from (n := 1)
theorem cutB_to {α : Type} {l : List α} {n : Nat} : (l.drop (HT.sIx l.length 0 none)).take (HT.sIx l.length l.length (some (n : Int)) - HT.sIx l.length 0 none) = l.take n := by
  rw [HT.sIx_nat, HT.sIx_none, List.drop_zero, Nat.sub_zero]
  by_cases h : n ≤ l.length
  · rw [Nat.min_eq_left h]
  · rw [Nat.min_eq_right (by omega), List.take_of_length_le (Nat.le_refl _), List.take_of_length_le (by omega)]
theorem g_inT {K : PySem.W.Frag} {H : Hp} {Q : VK} {p : Addr} {xs : List V} {x : V} {neg b : Bool} [h : StC K H p xs] (hf : flatV x = true) (hx : xs.all flatV = true) (hb : inV x xs = b) (q : Q (.bl (if neg then !b else b)) H) : rIn K neg x (.ref p) H Q :=
  ⟨p, xs, rfl, .inr h.st, hf, hx, by rw [hb]; exact q⟩
theorem g_inL {K : PySem.W.Frag} {H : Hp} {Q : VK} {p : Addr} {xs : List V} {x : V} {neg b : Bool} [h : SqC K H p xs] (hf : flatV x = true) (hx : xs.all flatV = true) (hb : inV x xs = b) (q : Q (.bl (if neg then !b else b)) H) : rIn K neg x (.ref p) H Q :=
  ⟨p, xs, rfl, .inl h.sq, hf, hx, by rw [hb]; exact q⟩
end Gx

set_option linter.all false
set_option maxRecDepth 100000
set_option maxHeartbeats 2000000
/-! Gd: data compared at any depth. -/
namespace Gx
open PySem PySem.Spec PyProof.Rows L2
section
variable {K : PySem.W.Frag} {H : Hp} {Q : VK} {x y : V} {xs ys : List V} {d e : PyData} {ds es : List PyData} {p : Addr}
class DatC (K : PySem.W.Frag) (H : Hp) (x : V) (d : outParam PyData) : Prop where
  dp : Dp K H x d
class DatsC (K : PySem.W.Frag) (H : Hp) (xs : List V) (ds : outParam (List PyData)) : Prop where
  dp : DpAll K H xs ds
instance : DatC K H .non .none := ⟨.non⟩
instance {b : Bool} : DatC K H (.bl b) (.bool b) := ⟨.bl b⟩
instance {i : Int} : DatC K H (.int i) (.int i) := ⟨.int i⟩
instance {z : Str} : DatC K H (.str z) (.str z) := ⟨.str z⟩
instance [h : SqC K H p xs] [k : DatsC K H xs ds] : DatC K H (.ref p) (.list ds) := ⟨.lst h.sq k.dp⟩
instance [h : StC K H p xs] [k : DatsC K H xs ds] : DatC K H (.ref p) (.tuple ds) := ⟨.tup h.st k.dp⟩
instance : DatsC K H [] [] := ⟨.nil⟩
instance [h : DatC K H x d] [k : DatsC K H xs ds] : DatsC K H (x :: xs) (d :: ds) := ⟨.cons h.dp k.dp⟩
instance {ns : List Int} : DatsC K H (ns.map V.int) (ns.map PyData.int) := ⟨dpInts ns⟩
theorem g_eqD {b : Bool} [h : DatC K H x d] [k : DatC K H y e] (hd : SeqAt.shaped d = true) (he : SeqAt.shaped e = true) (hb : PyData.eqv d e = b) (q : Q (.bl b) H) : rEqX K x y H Q :=
  .inr ⟨_, _, h.dp, k.dp, hd, he, by rw [hb]; exact q⟩
theorem g_neD {b : Bool} [h : DatC K H x d] [k : DatC K H y e] (hd : SeqAt.shaped d = true) (he : SeqAt.shaped e = true) (hb : PyData.eqv d e = b) (q : Q (.bl (!b)) H) : rNeX K x y H Q :=
  .inr ⟨_, _, h.dp, k.dp, hd, he, by rw [hb]; exact q⟩
end
theorem g_ixIN {K : PySem.W.Frag} {H : Hp} {Q : VK} {p : Addr} {ns : List Int} {n : Nat} [h : SqC K H p (ns.map V.int)] (h1 : n < ns.length) (q : Q (.int (ns.getD n 0)) H) : rIx K (.ref p) (.int (n : Nat)) H Q :=
  g_ixI (by omega) (by omega) (by rw [Int.toNat_natCast]; exact q)
def rIsB : R2 := fun x y H Q => ∃ c d, x = .bl c ∧ y = .bl d ∧ Q (.bl (c == d)) H
def rNotB : R2 := fun x y H Q => ∃ c d, x = .bl c ∧ y = .bl d ∧ Q (.bl (c != d)) H
theorem op_isB {X : Cx} : OpR X (compareOp .Is) rIsB := by
  intro pins s σ H x y v u Q I rx ry h
  obtain ⟨c, d, rfl, rfl, q⟩ := h
  cases rx
  cases ry
  exact is_bool (fin_bl I q rfl)
theorem op_notB {X : Cx} : OpR X (compareOp .IsNot) rNotB := by
  intro pins s σ H x y v u Q I rx ry h
  obtain ⟨c, d, rfl, rfl, q⟩ := h
  cases rx
  cases ry
  exact isnot_bool (fin_bl I q rfl)
instance {H : Hp} {Q : VK} {c d : Bool} : Step (rIsB (.bl c) (.bl d) H Q) (Q (.bl (c == d)) H) := ⟨fun q => ⟨c, d, rfl, rfl, q⟩⟩
instance {H : Hp} {Q : VK} {c d : Bool} : Step (rNotB (.bl c) (.bl d) H Q) (Q (.bl (c != d)) H) := ⟨fun q => ⟨c, d, rfl, rfl, q⟩⟩
theorem sh2 {x y : Str} (hx : PyData.strOk x = true) (hy : PyData.strOk y = true) : SeqAt.shaped (.tuple [.str x, .str y]) = true := by
  simp [SeqAt.shaped, PyData.canLay0, PyData.canLayAll0, PyData.depth, PyData.depthAll, hx, hy]
theorem ev2 {x y z w : Str} : PyData.eqv (.tuple [.str x, .str y]) (.tuple [.str z, .str w]) = ((x == z) && (y == w)) := by
  simp [PyData.eqv, PyData.eqvAll]
theorem ev2_t {x y : Str} : PyData.eqv (.tuple [.str x, .str y]) (.tuple [.str x, .str y]) = true := by rw [ev2]; simp
theorem ev2_f {x y z w : Str} (h : x ≠ z) : PyData.eqv (.tuple [.str x, .str y]) (.tuple [.str z, .str w]) = false := by
  rw [ev2, show (x == z) = false from by simpa using h]; rfl
section
variable {σ : L2.St} {H : Hp} {g : TG} {tb : TS} {D : Ends}
theorem forS {z : Str} (bs : List Addr) (Pv : Nat → L2.St → Hp → Prop) (h0 : Pv 0 σ H)
    (hs : ∀ (i : Nat) c x σ' H', i < z.cps.size → z.cps[i]? = some c → x = .str ⟨#[c]⟩ → Chg bs H H' → Pv i σ' H' → g x σ' H' fun σ2 H2 => tb { D with nx := LI bs H (Pv (i + 1)), ct := LI bs H (Pv (i + 1)), bk := D.nx } σ2 H2)
    (hd : ∀ σ' H', Chg bs H H' → Pv z.cps.size σ' H' → D.nx σ' H') : rForS (.str z) g tb D σ H :=
  ⟨z, rfl, for_feeds fd_str bs Pv h0 (fun _ _ => trivial) (fun i σ' H' x H'' hi r p y => by
    obtain ⟨rfl, c, hc, rfl⟩ := y
    exact hs i c _ σ' _ hi hc rfl r p) hd⟩
end
end Gx

set_option linter.all false
set_option maxRecDepth 100000
set_option maxHeartbeats 2000000
namespace Gx
open PySem PySem.Spec PyProof.Rows L2
/-! ### an own exception class over ValueError whose __init__ begins with super().__init__(e) -/
section
open PySem.W PySem.Calls PyProof.Rows
variable {prog : Program} {w : World} {A : Around} {E : Value → Shared → Prop} {h : Heap} {g : Array GenState} {d : Drawn} {t : Nat} {os : OsState}
variable {nm q : Str} {C N : Addr} {bs bm : List Value} {hdct : Bool} {sn : List Str} {sub : List Value} {ab : Bool} {col : Option Bool} {dd : Option Addr} {k0 k1 k2 k3 k5 : Option Value}
theorem call_mw {u e t0 : Addr} {rest : List Value} {Q : Value → Shared → Prop}
    (hC : h.get? C = some (excClassObj nm q C N bs bm hdct sn sub ab col dd k0 k1 k2 k3 k5 "ValueError.__new__")) (he : h.get? e = some (HandSPX.excO C t0)) (hu : h.get? u = some (kxs_mw "ValueError.__init__" e)) (hrest : rest.length ≤ sizeLine)
    (hq : ∀ h' t1, (∀ b o, b ≠ e → h.get? b = some o → h'.get? b = some o) → h'.get? e = some (HandSPX.excO C t1) → Q .none ⟨h', g, d, t, os⟩) :
    wpAny (model prog w) A (call (.ref u) rest) Q E ⟨h, g, d, t, os⟩ := by
  refine wpAny_call (codeAny_of_tree ?_)
  show wpAny _ A.in1 (callAny (.ref u) ⟨rest, []⟩) _ _ _
  simp only [callAny]
  refine wpAny_bind (wpAny_load hu ?_)
  simp only [kxs_mw, show (Value.type "method-wrapper" == Value.type "method" || Value.type "method-wrapper" == Value.type "builtin_function_or_method" || Value.type "method-wrapper" == Value.type "method-wrapper") = true by decide, if_true]
  refine W.KFB.if_so (by decide) ?_
  refine wpAny_bind (ESX.check_bound F.excBase_ValueError hC he rfl ?_)
  refine wpAny_bind (wpAny_pure (wpAny_pure ?_))
  refine ⟨Code.quiet_builtin _ (by decide +kernel), codeAny_builtin F.excBase_ValueError.initEntry ?_⟩
  rw [Around.under_plainId F.excBase_ValueError.init.plain _]
  wp_walk
  refine hq _ h.objs.size (fun b o hb ho => ?_) ?_
  · rw [Heap.get?_update_other _ _ (Ne.symm hb)]
    exact Heap.get?_push_of_some _ ho
  · rw [Heap.get?_update_self _ (Heap.get?_push_of_some _ he) rfl]
    rfl
end
section
open PySem.W PySem.Calls PyProof.Rows NdefX
theorem look1 {x y : Str} {c c' : Addr} (h : ([(x, c)] : List (Str × Addr)).lookup y = some c') : y = x ∧ c' = c := by
  unfold List.lookup at h
  split at h
  · rename_i e
    exact ⟨eq_of_beq e, (Option.some.inj h).symm⟩
  · simp at h
/-- what the written part says of an __init__ (at f, of the class at D) that says super() -/
structure SupF (P : Program) (K : Frag) (mg : Str → Option Value) (f D : Addr) (qual : Str) (st : Stmt) (ps : List Str) (fd : FuncData) : Prop where
  ex : ∃ (c cc : Addr) (oc doc pm ct cl ccl : Value) (od cld cdd : Option Addr) (osl csl ccs : Array (Option Value)) (vs : Array Value) (file : Str) (tf : Tok) (cdD : ClassData),
    fd = fnX "__init__" qual (defArgs st) (defBody st) (defScope st) [("__class__", cc)] .none .none doc pm none (.ref c) ct ∧ K.lookup f = some ⟨oc, od, .func fd, osl⟩ ∧ codeIn K (.ref c) qual = true ∧
    K.lookup c = some ⟨ccl, cdd, .fields vs, ccs⟩ ∧ vs[2]? = some (.str file tf) ∧ ((P.main.file : Str) == file) = true ∧ K.lookup cc = some ⟨cl, cld, .cell (some (.ref D)), csl⟩ ∧ clsIn K D = some cdD
  nsup : mg "super" = none
  top : (P.main.scope.names.lookup ("super" : Str)).isSome = false
  opq : nsIn K cStatics "thirdparty.any" = some none
/-- .. of the class C whose instance it is given -/
structure SupC (K : Frag) (C D : Addr) : Prop where
  oex : OexC K C
  mro : mroIn K C (.ref D) = some true
  sup : ks_superIn K C D "__init__" = some (some (.builtin "ValueError.__init__"))
  sub : subIn K (.ref C) (.type "ValueError") = some true
variable {P : Program} {w : World} {K : Frag} {mg : Str → Option Value} {base : Heap} {k : Nat} {N ps : List Str} {f D : Addr} {qual : Str} {st : Stmt} {fd : FuncData} {sp : Sp}
theorem sup_ok {e : Expr} {rest : List Stmt} {p0 p1 p2 p3 p4 : Pos} {self : Str} {ar : Arg} (F : SupF P K mg f D qual st ps fd) (S : NScope N ps ["__class__"] (defScope st))
    (hbody : defBody st = .Expr (.Call (.Attribute (.Call (.Name "super" p0) [] [] p1) "__init__" p2) [e] [] p3) p4 :: rest)
    (hps : ps.head? = some self) (har : ((defArgs st).posonlyargs ++ (defArgs st).args).head? = some ar) (hself : ar.arg = self) (hks : (defScope st).names.lookup ("super" : Str) = some .globalImplicit)
    (hb : ∀ (c cc : Addr) (doc pm ct : Value) (us : List Value), us.length = ps.length → bindArgs (fnX "__init__" qual (defArgs st) (defBody st) (defScope st) [("__class__", cc)] .none .none doc pm none (.ref c) ct) ⟨us, []⟩ = pure (ps.zip us))
    (hsw : ∀ (c cc f L : Addr), swapsWith (.Call (.Attribute (.Call (.Name "super" p0) [] [] p1) "__init__" p2) [e] [] p3) none p4.line (envX qual (defScope st) L f (.ref c) [("__class__", cc)]) = pure false)
    (hin : ∀ (c cc f L : Addr), interactive (envX qual (defScope st) L f (.ref c) [("__class__", cc)]) = false)
    (hev : ∀ (c cc f L : Addr), ∃ pl : Sem Bool, eval (.Call (.Attribute (.Call (.Name "super" p0) [] [] p1) "__init__" p2) [e] [] p3) (envX qual (defScope st) L f (.ref c) [("__class__", cc)]) = (do
      let ov ← attributeBase (.Call (.Name "super" p0) [] [] p1) "__init__" (envX qual (defScope st) L f (.ref c) [("__class__", cc)]) (eval (.Call (.Name "super" p0) [] [] p1) (envX qual (defScope st) L f (.ref c) [("__class__", cc)]))
      standAt p2.atName
      let (f', first) ← holding [ov] (getMethod ov "__init__" pl)
      callWith p3 f' first (backTo p3 (starEach [e] (envX qual (defScope st) L f (.ref c) [("__class__", cc)]))) []))
    (hst : ∀ (c cc f L : Addr), starEach [e] (envX qual (defScope st) L f (.ref c) [("__class__", cc)]) = [(false, eval e (envX qual (defScope st) L f (.ref c) [("__class__", cc)]))])
    (len : ∀ vs H Q E, sp vs H Q E → vs.length = ps.length)
    (hread : ∀ (c cc : Addr) (A : Around) (outer : List Env) (s : Shared) (H : Hp) (vs : List V) (Q : VK) (E : XK), Room k (A.deeper (envX qual (defScope st) s.heap.objs.size f (.ref c) [("__class__", cc)])) → sp vs H Q E →
      ∃ ta ts a C r, PA (ncx CX0 P w K mg base N ⟨"__init__", qual, defArgs st, defBody st, defScope st, [("__class__", cc)], c⟩ f A outer s H E) [e] ta ∧ PSs (ncx CX0 P w K mg base N ⟨"__init__", qual, defArgs st, defBody st, defScope st, [("__class__", cc)], c⟩ f A outer s H E) rest ts ∧
        vs = .ref a :: r ∧ SupC K C D ∧ H a = some (exo a C none) ∧ ta (startF N vs [none]) H fun zs H1 => zs.length ≤ 1000 ∧ H1 a = some (exo a C none) ∧ ts { nx := fun _ H' => Q .non H', rt := Q } (startF N vs [none]) H1) :
    FnOk P w K mg base CX0 (k + 1) f fd ps sp := by
  obtain ⟨c, cc, oc, doc, pm, ct, cl, ccl, od, cld, cdd, osl, csl, ccs, vv, file, tf, cdD, rfl, lk, hcd, lc, hv2, hfile, lcc, hD⟩ := F.ex
  refine ⟨len, fun A outer s H args us vs Q E hr e0 hbd r hsp => ?_⟩
  have KX : K.In s.heap := e0.mod.kin.keeps fun b o e => (e0.bs b o e).1
  have hl := len _ _ _ _ hsp
  have lim : s.heap.NoLimit := e0.mod.nolimit.keeps fun b o e => (e0.bs b o e).1
  have hcc : H cc = none := (e0.bs cc _ (e0.mod.kin _ _ lcc)).2
  have CA : CellsAt [("__class__", cc)] ["__class__"] [none] s.heap H := by
    refine ⟨rfl, fun y c' hy => ?_, fun x y c' hx hy => ?_, fun i y hy => ?_⟩
    · obtain ⟨_, rfl⟩ := look1 hy
      exact ⟨hcc, _, _, KX _ _ lcc, rfl⟩
    · rw [(look1 hx).1, (look1 hy).1]
    · cases i with
      | zero => simp at hy; subst hy; exact ⟨cc, rfl, fun v hv => by simp at hv⟩
      | succ i => simp at hy
  refine ks_codeAny_call_defAt (body := defBody st) (binds := ps.zip us) hr.depth (KX _ _ lk) rfl lim (codeRec_of KX hcd) rfl hbd S.nocell (fun ⟨n, v⟩ hy => S.par n (List.of_mem_zip hy).1) (fun h₁ hns kp => ?_) S.co S.gen S.kind
  obtain ⟨ta, ts, a, C, r', pa, ps', rfl, SC, ha, hq⟩ := hread c cc A outer s H vs Q E (hr.deeper _) hsp
  have I : Inv (ncx CX0 P w K mg base N ⟨"__init__", qual, defArgs st, defBody st, defScope st, [("__class__", cc)], c⟩ f A outer s H E) [] (startF N (.ref a :: r') [none]) H { s with heap := h₁, toks := s.toks + (ps.zip us).length } := inv_startN S hr.hd e0 hl r CA hns kp
  show _root_.PySem.wpAt (model P w) (A.deeper (envX qual (defScope st) s.heap.objs.size f (.ref c) [("__class__", cc)])) (.func (defBody st) (envX qual (defScope st) s.heap.objs.size f (.ref c) [("__class__", cc)])) (execs (defBody st) (envX qual (defScope st) s.heap.objs.size f (.ref c) [("__class__", cc)])) _ _ _
  rw [hbody]
  obtain ⟨pl, hev'⟩ := hev c cc f s.heap.objs.size
  refine ks_wpAt_execs_cons (ks_wpAt_Expr_any (ks_wpAt_MethodCall (pl := pl) ?_ hev') (hin c cc f s.heap.objs.size) (hsw c cc f s.heap.objs.size))
  obtain ⟨tC, hoe⟩ := exo_at I.hok ha
  have XI : K.In h₁ := KX.keeps kp
  obtain ⟨oD, hD1, hD2⟩ : ∃ oD, h₁.get? D = some oD ∧ oD.data = .cls cdD := by
    unfold clsIn at hD
    split at hD
    · rename_i c d cd' sl ho
      cases hD
      exact ⟨_, XI _ _ ho, rfl⟩
    · cases hD
  have IA : InstAt h₁ a { cls := .ref C, dict := none, data := .fields #[.ref tC, .none, .none, .none, .bool false, .none] } C none := ⟨hoe, rfl, rfl, trivial⟩
  obtain ⟨mb, hmb, hmbv⟩ := I.mod.blt
  have hself' : (fun y => (ps.zip us).reverse.lookup y) ar.arg = some (.ref a) := by
    have ndP : ps.Nodup := by
      have q := S.nd.sublist (List.take_sublist (ps.length + 1) N)
      have e1 := S.pre
      rw [show (["__class__"] : List Str).length = 1 from rfl] at e1
      rw [e1] at q
      exact (List.nodup_append.mp q).1
    cases r with
    | @cons _ u0 _ ur ra rw' =>
      obtain rfl : u0 = Value.ref a := ra
      refine zip_look (i := 0) ndP ?_ rfl
      rw [hself]
      cases ps with
      | nil => simp at hps
      | cons x y => simpa using hps
  refine ks_wpAt_super_base (env := envX qual (defScope st) s.heap.objs.size f (.ref c) [("__class__", cc)]) hks (S.frk _ (by simp)) rfl rfl (XI _ _ lk) rfl har rfl (XI _ _ lc) rfl hv2 hfile F.top ?_
  refine ks_loadName_global S.kind hks (loadGlobal_builtin (env := envX qual (defScope st) s.heap.objs.size f (.ref c) [("__class__", cc)]) (I.mod.glob.keeps I.bk) F.nsup (hmb.keeps I.bk) ((hmbv _ (by decide)).trans PyProof.Rows.Boot.«super») ⟨rfl, ?_⟩)
  refine wpAny_loadName_free S.kind (S.frk _ (by simp)) rfl ⟨_, XI _ _ lcc, rfl⟩ ?_
  refine wpAny_loadName_local S.kind (S.par _ (by rw [hself]; exact List.mem_of_mem_head? hps)) hns hself' ?_
  refine ks_wpAny_isType_cls hD1 hD2 ⟨rfl, ?_⟩
  refine ks_wpAny_call_super hD1 hD2 IA.at_ IA.cls (fun c e => by cases e) (looks_mroIn XI SC.mro) (fun h' eS k' => ?_)
  have X' : K.In h' := XI.keeps k'
  have hlt : h₁.objs.size < h'.objs.size := Heap.lt_size eS
  have IA' : InstAt h' a { cls := .ref C, dict := none, data := .fields #[.ref tC, .none, .none, .none, .bool false, .none] } C none := ⟨k' _ _ hoe, rfl, rfl, trivial⟩
  have hsup := SC.sup
  cases hc : clsIn K C with
  | none => unfold ks_superIn at hsup; rw [hc] at hsup; cases hsup
  | some cd =>
  unfold ks_superIn at hsup
  rw [hc] at hsup
  have hI : Looks (model P w) h' (isInstance (.ref a) (.type "ValueError")) true := IA'.type.andThen (looks_subIn X' SC.sub)
  refine kxs_getMethod kxs_ValueError eS (looks_opaque X' F.opq) (l₀ := cd.mro) (fun A Q E s k q => wpAny_bind ((looks_clsIn X' hc) A _ E s k (wpAny_pure q))) rfl X' hsup hI (ks_ne X' IA' hc) rfl ?_
  have hk2 : ∀ b o, h₁.get? b = some o → (h'.push (kxs_mw "ValueError.__init__" a)).get? b = some o := fun b o z => Heap.get?_push_of_some _ (k' b o z)
  have hu : (h'.push (kxs_mw "ValueError.__init__" a)).get? h'.objs.size = some (kxs_mw "ValueError.__init__" a) := Heap.get?_push_at rfl rfl
  have I2 := ClX.pin_new (t' := s.toks + (ps.zip us).length + 1) (a := h'.objs.size) I hk2 (Nat.le_of_lt hlt) hu (fun v z => by cases z)
  have hpa := pa.run p3 _ _ _ _ _ I2 hq
  have hst' := hst c cc f s.heap.objs.size
  have hpa : wpAny (model P w) (A.deeper (envX qual (defScope st) s.heap.objs.size f (.ref c) [("__class__", cc)])) (spliced (backTo p3 (starEach [e] (envX qual (defScope st) s.heap.objs.size f (.ref c) [("__class__", cc)])))) _ _ _ := hpa
  rw [hst'] at hpa ⊢
  refine kxs_callWith (i := "ValueError.__init__") (x := a) rfl (evalArgs_plain (wpAny_mono hpa (fun us1 s1 hz => ?_) fun _ _ z => z))
  obtain ⟨zs, H1, I3, r1, hz1, ha1, hq1⟩ := hz
  have hu1 := ClX.pin_at I3
  obtain ⟨t1, ho1⟩ := exo_at I3.hok ha1
  obtain ⟨nm, q, N', bs, bm, sn, sub, ab, col, dd, k0, k1, k2, k3, k5, hC, hbm⟩ := SC.oex.cls
  refine ⟨hu1, ?_⟩
  obtain ⟨hp1, g1, d1, tk1, os1⟩ := s1
  refine call_mw (I3.kIn _ _ hC) ho1 hu1 (by have := r1.length; rw [List.nil_append, ← this, sizeLine_eq]; omega) fun h2 t2 kk hx => ?_
  have J := I3.write (t' := tk1) (x := a) (e := a) (o := exo a C none) (by rw [ha1]; exact True.intro) (.inl rfl) kk ⟨_, hx⟩ (exo_ok hx)
  have eu : upd H1 a (exo a C none) = H1 := by
    funext b
    by_cases hb : b = a
    · rw [hb, upd_same, ha1]
    · rw [upd_ne hb]
  rw [eu] at J
  refine wpAt_of_wpAny (wpAny_mono (ps'.run [] _ (startF N (.ref a :: r') [none]) H1 _ (ClX.unpin J) hq1) (fun fl s' hs => ?_) fun e s' hs => hs)
  have fin : ∀ {σ' : L2.St} {H' : Hp} {v : V} {u : Value}, Inv (ncx CX0 P w K mg base N ⟨"__init__", qual, defArgs st, defBody st, defScope st, [("__class__", cc)], c⟩ f A outer s H E) [] σ' H' s' → L2.RelV v u → Q v H' → CE outer P w H s Q u s' :=
    fun {σ' H' v u} J rv q => ⟨v, H', J.os, J.bare, J.base, J.hok, rv, q⟩
  cases fl with
  | ret u =>
    obtain ⟨v, σ', H', J, rv, q⟩ := hs
    exact fin J rv q
  | next =>
    obtain ⟨σ', H', J, q⟩ := hs
    exact fin (v := V.non) (u := Value.none) J rfl q
  | brk =>
    obtain ⟨_, _, _, q⟩ := hs
    exact False.elim q
  | cont =>
    obtain ⟨_, _, _, q⟩ := hs
    exact False.elim q
end
/-! ### exceptions of the program: one field -/
def FmtV (v : V) : Prop := (∃ y : Str, v = .str y ∧ y.length ≤ 1000) ∨ ∃ i : Int, v = .int i ∧ -(2 ^ 200) < i ∧ i < 2 ^ 200
/-- .. and where it is the field "key", its repr is short, too -/
def FmtN (n : Str) (v : V) : Prop := FmtV v ∧ (n = "key" → ∀ y : Str, v = .str y → y.length ≤ 100 ∧ ∀ c ∈ y.cps.toList, c < 16 ^ 8)
def spEx1 (C : Addr) (n : Str) : Sp := fun vs H Q _ => ∃ (a : Addr) (v : V), vs = [.ref a, v] ∧ (H a = some (exo a C none) ∧ FmtN n v) ∧
  ∀ d H', H d = none → d ≠ a → (∀ b o, b ≠ a → H b = some o → H' b = some o) → (∀ b, H' b = none → H b = none) → H' a = some (exo a C (some d)) → H' d = some (exd d [(n, v)]) → Q .non H'
/-- what the written part says of an own class -/
structure ExD (P : Program) (K : PySem.W.Frag) (mg : Str → Option Value) (x qual : Str) (st : Stmt) (ps : List Str) (C : Addr) : Prop where
  mgC : mg x = some (.ref C)
  sup : SupC K C C
  fld : ∀ n, ps[1]? = some n → PySem.W.findIn K (.ref C) n = some none
  ini : ∃ (f : Addr) (fd : FuncData), PySem.W.findIn K (.ref C) "__init__" = some (some (.ref f)) ∧ PySem.W.typeIn K (.ref f) = some (.type "function") ∧ SupF P K mg f C qual st ps fd
/-- the class may be called -/
structure ExK (P : Program) (w : World) (K : PySem.W.Frag) (mg : Str → Option Value) (base : Heap) (k : Nat) (x : Str) (C : Addr) (n : Str) : Prop where
  mgC : mg x = some (.ref C)
  oex : OexC K C
  ini : ∃ (f : Addr) (fd : FuncData), PySem.W.findIn K (.ref C) "__init__" = some (some (.ref f)) ∧ PySem.W.typeIn K (.ref f) = some (.type "function") ∧ FnOk P w K mg base CX0 k f fd ["self", n] (spEx1 C n) ∧ Binds K fd ["self", n] []
def rMk1 (C : Addr) (n : Str) (vs : List V) (H1 : Hp) (Q : XK) : Prop := vs.length ≤ 1000 ∧ ∀ a, H1 a = none → spEx1 C n (.ref a :: (vs ++ [])) (upd H1 a (exo a C none))
  (fun v H2 => v = .non ∧ ∃ (d : Addr) (fs : List (Str × V)), H2 a = some (exo a C (some d)) ∧ H2 d = some (exd d fs) ∧ H1 d = none ∧ Q (.ref C) (some d) (upd (del H2 a) d (.xd fs))) (fun _ _ _ => False)
def tMk1 (C : Addr) (n : Str) (ta : TA) : L2.St → Hp → XK → Prop := fun σ H Q => ta σ H fun vs H1 => rMk1 C n vs H1 Q
theorem g_mk1 {C : Addr} {n : Str} {v : V} {H1 : Hp} {Q : XK} (hv : FmtV v) (q : ∀ d H', Nw H1 d → Ex H1 H' → At H' d (.xd [(n, v)]) → Q (.ref C) (some d) H') (hn : (n == ("key" : Str)) = false := by decide +kernel) : rMk1 C n [v] H1 Q := by
  refine ⟨by simp, fun a ha => ⟨a, v, rfl, ⟨upd_same, hv, fun e => by rw [e] at hn; exact absurd hn (by decide +kernel)⟩, fun d H' hd hda keep live ha' hd' => ?_⟩⟩
  have hd1 : H1 d = none := by rw [upd_ne hda] at hd; exact hd
  have K1 : ∀ b o, H1 b = some o → H' b = some o := fun b o hb => by
    have hba : b ≠ a := ne_of_none hb ha
    exact keep b o hba (by rw [upd_ne hba]; exact hb)
  refine ⟨rfl, d, _, ha', hd', hd1, q d _ ⟨hd1⟩ ⟨fun b o _ hb => ?_, fun b hb => ?_, fun b o _ hb => ?_⟩ ⟨upd_same⟩⟩
  rotate_left 2
  · rw [upd_ne (ne_of_none hb hd1), del_ne (ne_of_none hb ha)]
    exact K1 b o hb
  · rw [upd_ne (ne_of_none hb hd1), del_ne (ne_of_none hb ha)]
    exact K1 b o hb
  · by_cases hbd : b = d
    · rw [hbd]; exact hd1
    · rw [upd_ne hbd] at hb
      by_cases hba : b = a
      · rw [hba]; exact ha
      · rw [del_ne hba] at hb
        have := live b hb
        rw [upd_ne hba] at this
        exact this
theorem g_mk1K {C : Addr} {n : Str} {z : Str} {H1 : Hp} {Q : XK} (hz : z.length ≤ 100) (hc : ∀ c ∈ z.cps.toList, c < 16 ^ 8) (q : ∀ d H', Nw H1 d → Ex H1 H' → At H' d (.xd [(n, .str z)]) → Q (.ref C) (some d) H') : rMk1 C n [.str z] H1 Q := by
  refine ⟨by simp, fun a ha => ⟨a, .str z, rfl, ⟨upd_same, .inl ⟨z, rfl, Nat.le_trans hz (by decide)⟩, fun _ y e => by cases e; exact ⟨hz, hc⟩⟩, fun d H' hd hda keep live ha' hd' => ?_⟩⟩
  have hd1 : H1 d = none := by rw [upd_ne hda] at hd; exact hd
  have K1 : ∀ b o, H1 b = some o → H' b = some o := fun b o hb => by
    have hba : b ≠ a := ne_of_none hb ha
    exact keep b o hba (by rw [upd_ne hba]; exact hb)
  refine ⟨rfl, d, _, ha', hd', hd1, q d _ ⟨hd1⟩ ⟨fun b o _ hb => ?_, fun b hb => ?_, fun b o _ hb => ?_⟩ ⟨upd_same⟩⟩
  rotate_left 2
  · rw [upd_ne (ne_of_none hb hd1), del_ne (ne_of_none hb ha)]
    exact K1 b o hb
  · rw [upd_ne (ne_of_none hb hd1), del_ne (ne_of_none hb ha)]
    exact K1 b o hb
  · by_cases hbd : b = d
    · rw [hbd]; exact hd1
    · rw [upd_ne hbd] at hb
      by_cases hba : b = a
      · rw [hba]; exact ha
      · rw [del_ne hba] at hb
        have := live b hb
        rw [upd_ne hba] at this
        exact this
theorem pmk1 {X : Cx} {k : Nat} {x n : Str} {C : Addr} {e : Expr} {ta : TA} {p pos : Pos} (M : ExK X.prog X.w X.K X.mg X.base k x C n) (hr : Room (k + 1) X.A) (hg : Gl X x) (ha : PA X [e] ta)
    (hdb : (x == ("__debug__" : Str)) = false := by decide) (he : starEach [e] X.env = (false, eval e X.env) :: starEach [] X.env := by rfl) (hpl : (backTo pos (starEach [] X.env)).any (·.1) = false := by rfl) :
    PMk X (.Call (.Name x p) [e] [] pos) (tMk1 C n ta) := by
  obtain ⟨f, fd, i1, i2, F, b⟩ := M.ini
  exact pmk_oex (sp := spEx1 C n) (dvs := []) M.oex i1 i2 F hr b .nil pass0 hg M.mgC ha hdb he hpl
/-! defs that may raise -/
section
variable {P : Program} {w : World} {K : PySem.W.Frag} {mg : Str → Option Value} {base : Heap}
structure ClX (P : Program) (w : World) (K : PySem.W.Frag) (mg : Str → Option Value) (base : Heap) (k : Nat) (x : Str) (ps : List Str) (sp : Sp) : Prop where
  ex : ∃ (f : Addr) (fd : FuncData), mg x = some (.ref f) ∧ PySem.W.keepIn K (.ref f) = true ∧ (∀ us : List Value, us.length = ps.length → bindArgs fd ⟨us, []⟩ = pure (ps.zip us)) ∧ FnOk P w K mg base (L2.CX P w) k f fd ps sp
theorem Df.okX {x : Str} {st : Stmt} {N ps : List Str} {k : Nat} {sp : Sp} (D : Df K mg x st ps) (S : FnScope N ps (defScope st)) (len : ∀ vs H Q E, sp vs H Q E → vs.length = ps.length)
    (hbody : ∀ (f : Addr) (cdv : Value) (A : Around) (outer : List Env) (s : Shared) (H : Hp) (vs : List V) (Q : VK) (E : XK), Room k (A.deeper (envOfC x (defScope st) s.heap.objs.size f cdv)) → sp vs H Q E →
      ∃ t, PSs (cxOf (L2.CX P w) P w K mg base N x (defScope st) f cdv A outer s H E) (defBody st) t ∧ t { nx := fun _ H' => Q .non H', rt := Q } (start N vs) H) : ClX P w K mg base (k + 1) x ps sp := by
  obtain ⟨f, fd, h1, h2, h3⟩ := D.ex
  exact ⟨f, fd, h1, h2.kp, h3, h2.okX S len fun cdv A outer s H vs Q E hr h => hbody f cdv A outer s H vs Q E hr h⟩
theorem takesX {N : List Str} {qual : Str} {scope : Scope} {f : Addr} {cd : Value} {A : Around} {outer : List Env} {s : Shared} {H : Hp} {E : XK} : Takes (cxOf (L2.CX P w) P w K mg base N qual scope f cd A outer s H E) (fun cls d _ H => E cls d H) := takes_of rfl rfl rfl rfl
end
section
variable {X : Cx} {x : Str} {p pos : Pos} {e : Expr} {es : List Expr} {t : TA} {k : Nat} {ps : List Str} {sp : Sp} {W : WX}
theorem pe_clX (C : ClX X.prog X.w X.K X.mg X.base k x ps sp) (hr : Room k X.A) (tk : Takes X W) (ha : PA X (e :: es) t) (hg : Gl X x := by rfl) (hdb : (x == ("__debug__" : Str)) = false := by decide)
    (he : starEach (e :: es) X.env = (false, eval e X.env) :: starEach es X.env := by rfl) (hpl : (backTo pos (starEach es X.env)).any (·.1) = false := by rfl) :
    PE X (.Call (.Name x p) (e :: es) [] pos) (tCallS sp (WE W) t) := by
  obtain ⟨f, fd, h1, h2, h3, h4⟩ := C.ex
  exact pe_callS h4 hr hg h1 h2 (Binds.all h3) (passAt tk) ha hdb he hpl
end
section
variable {σ : L2.St} {H : Hp} {Q : VK} {E : L2.St → XK} {sp : Sp} {tl : TA}
instance : Step (tCallS sp E tl σ H Q) (tl σ H fun vs H1 => sp vs H1 Q (E σ)) := ⟨fun q => q⟩
end
/-! a def called within an except suite with the caught exception among its arguments -/
open L2H
structure FnS (P : Program) (w : World) (K : PySem.W.Frag) (mg : Str → Option Value) (base : Heap) (CX : CXT) (k : Nat) (f : Addr) (fd : FuncData) (ps : List Str) (sp : Addr → Value → Option Addr → Sp) : Prop where
  len : ∀ a c d vs H Q E, sp a c d vs H Q E → vs.length = ps.length
  run : ∀ (A : Around) (outer : List Env) (s : Shared) (H : Hp) (args : Args) (us : List Value) (vs : List V) (Q : VK) (E : XK) (a : Addr) (oe : Obj) (c : Value) (d : Option Addr), RoomH k A → PinOk outer H s (a, oe) → Zc c d oe → (∃ fv, oe.data = .fields fv) → Env0 P w K mg base A outer s H → BindsTo s fd args (ps.zip us) → Vals vs us → sp a c d vs H Q E →
    codeAny (model P w) A (.call (.ref f) args) (CR CX outer P w H s Q E) s
theorem fn_ofS {CX : CXT} {P : Program} {w : World} {K : PySem.W.Frag} {mg : Str → Option Value} {base : Heap} {k : Nat} {f : Addr} {name qual : Str} {params : Arguments} {body : List Stmt} {scope : Scope} {dV kV doc pm cdv ct oc : Value} {an od : Option Addr}
    {osl : Array (Option Value)} {N ps : List Str} {sp : Addr → Value → Option Addr → Sp} (lk : K.lookup f = some ⟨oc, od, .func (PySem.W.fnOf name qual params body scope dV kV doc pm an cdv ct), osl⟩) (hcd : PySem.W.codeIn K cdv qual = true) (S : FnScope N ps scope)
    (len : ∀ a c d vs H Q E, sp a c d vs H Q E → vs.length = ps.length)
    (hbody : ∀ (A : Around) (outer : List Env) (s : Shared) (H : Hp) (vs : List V) (Q : VK) (E : XK) (a : Addr) (oe : Obj) (c : Value) (d : Option Addr), RoomH k (A.deeper (envOfC qual scope s.heap.objs.size f cdv)) → Zc c d oe → (∃ fv, oe.data = .fields fv) → sp a c d vs H Q E →
      ∃ t, PSs (cxH CX P w K mg base N qual scope f cdv A outer s H E (a, oe)) body t ∧ t { nx := fun _ H' => Q .non H', rt := Q } (L2.start N vs) H) :
    FnS P w K mg base CX (k + 1) f (PySem.W.fnOf name qual params body scope dV kV doc pm an cdv ct) ps sp := by
  refine ⟨len, fun A outer s H args us vs Q E a oe c d hr hpin hz hf e0 hb r hsp => ?_⟩
  have hl := len _ _ _ _ _ _ _ hsp
  have KX : K.In s.heap := e0.mod.kin.keeps fun b o e => (e0.bs b o e).1
  have lim : s.heap.NoLimit := e0.mod.nolimit.keeps fun b o e => (e0.bs b o e).1
  have hkind : ∀ y ∈ ps.zip us, scope.names.lookup y.1 = some .local ∨ (scope.names.lookup y.1 = some .cell ∧ ((cellsFrom (s.heap.objs.size + 1) scope.names []).lookup y.1).isSome = true) := fun ⟨n, v⟩ hy => by
    rcases S.par n (List.of_mem_zip hy).1 with q | q
    · exact .inl q
    · exact .inr ⟨q, PySem.W.cellsFrom_some _ _ _ (.inl q)⟩
  refine codeAny_call_function hr.depth (KX _ _ lk) rfl S.co S.gen rfl (PySem.W.codeRec_of KX hcd) (hb _ _ _ _ ?_)
  refine wpAny_newFunctionEnv_cells S.kind hkind fun env he s1 x => ?_
  subst he
  refine ⟨lim.keeps x.toInCall.keep, codeAny_func ?_⟩
  obtain ⟨t, ht, hq⟩ := hbody A outer s H vs Q E a oe c d (hr.deeper _) hz hf hsp
  have I : Inv (cxH CX P w K mg base N qual scope f cdv A outer s H E (a, oe)) [] (L2.start N vs) H s1 := inv_startH S hpin e0 hl r x
  refine wpAny_mono (ht.run [] s1 (L2.start N vs) H _ I hq) (fun fl s' hs => ?_) fun e s' hs => hs
  have fin : ∀ {σ' : L2.St} {H' : Hp} {v : V} {u : Value}, Inv (cxH CX P w K mg base N qual scope f cdv A outer s H E (a, oe)) [] σ' H' s' → RelV v u → Q v H' → CE outer P w H s Q u s' :=
    fun {σ' H' v u} J rv q => ⟨v, H', J.os, J.bare, J.base, J.hok, rv, q⟩
  cases fl with
  | ret u =>
    obtain ⟨v, σ', H', J, rv, q⟩ := hs
    exact fin J rv q
  | next =>
    obtain ⟨σ', H', J, q⟩ := hs
    exact fin (v := V.non) (u := Value.none) J rfl q
  | brk =>
    obtain ⟨_, _, _, q⟩ := hs
    exact False.elim q
  | cont =>
    obtain ⟨_, _, _, q⟩ := hs
    exact False.elim q
structure ClS (P : Program) (w : World) (K : PySem.W.Frag) (mg : Str → Option Value) (base : Heap) (k : Nat) (x : Str) (ps : List Str) (sp : Addr → Value → Option Addr → Sp) : Prop where
  ex : ∃ (f : Addr) (fd : FuncData), mg x = some (.ref f) ∧ PySem.W.keepIn K (.ref f) = true ∧ (∀ us : List Value, us.length = ps.length → bindArgs fd ⟨us, []⟩ = pure (ps.zip us)) ∧ FnS P w K mg base CX0 k f fd ps sp
theorem pe_clS {X : Cx} {x : Str} {q pos : Pos} {e : Expr} {es : List Expr} {t : TA} {k : Nat} {ps : List Str} {sp : Addr → Value → Option Addr → Sp} {a : Addr} {oe : Obj} {c : Value} {d : Option Addr} (C : ClS X.prog X.w X.K X.mg X.base k x ps sp) (hr : RoomH k X.A) (hp : (a, oe) ∈ X.pn) (hz : Zc c d oe) (hf : ∃ fv, oe.data = .fields fv) (ha : PA X (e :: es) t) (hg : Gl X x := by rfl) (hdb : (x == ("__debug__" : Str)) = false := by decide)
    (he : starEach (e :: es) X.env = (false, eval e X.env) :: starEach es X.env := by rfl) (hpl : (backTo pos (starEach es X.env)).any (·.1) = false := by rfl) :
    PE X (.Call (.Name x q) (e :: es) [] pos) (tCall (sp a c d) [] E0 t) := by
  obtain ⟨f, fd, hm, hk, hb, F⟩ := C.ex
  refine ⟨fun pins s σ H Q I h => ?_⟩
  refine wpAny_Call_Name_kw (ld_glob I hg hm ?_ hdb)
  refine PySem.W.callWith_K (h₀ := X.base) I.ok.mod.kin hk (thn (ha.run pos pins s σ H _ I h) fun us s1 ⟨vs, H1, I1, r, hq⟩ => ⟨I1.kIn, ?_⟩) he hpl
  have hq : sp a c d (vs ++ []) H1 Q E0 := hq
  rw [List.append_nil] at hq
  have hl : us.length = ps.length := by rw [← r.length]; exact F.len _ _ _ _ _ _ _ hq
  have P1 := I1.pin (a, oe) (List.mem_append_left _ hp)
  have hpin : PinOk X.stack H1 s1 (a, oe) := ⟨P1.1, P1.2.1, fun hm => (List.mem_cons.mp (I1.stkSub a hm)).elim P1.2.2.1 P1.2.2.2.1, P1.2.2.2.2⟩
  show wpAny _ _ (call (.ref f) us) _ _ _
  refine wpAny_call (codeAny_mono (F.run X.A X.stack s1 H1 ⟨us, []⟩ us vs Q E0 a oe c d hr hpin hz hf I1.env0 (.of_eq (hb us hl)) r hq) fun r s' hq => ?_)
  cases r with
  | error e => exact (pass0 : Passes CX0 X E0) pins σ H1 s1 e s' I1 hq
  | ok fl =>
    cases fl with
    | ret u => exact I1.after hq
    | next => exact False.elim hq
    | brk => exact False.elim hq
    | cont => exact False.elim hq
/-! what is asked of a caught exception (at a, its class c, its dict d) -/
def rIsS (K : PySem.W.Frag) (a : Addr) (c : Value) (d : Option Addr) : List V → Hp → VK → Prop := fun xs H Q => ∃ (D dd : Addr) (fs : List (Str × V)) (t : V) (tv : Value) (b : Bool), xs = [.ref a, t] ∧ c = .ref D ∧ d = some dd ∧ ExcC K D ∧ (∀ u, RelV t u → u = tv) ∧ PySem.W.kitOne K (.ref D) tv = some b ∧ H dd = some (.xd fs) ∧ Q (.bl b) H
theorem call_isS {X : Cx} {a : Addr} {oe : Obj} {c : Value} {d : Option Addr} (hp : (a, oe) ∈ X.pn) (hz : Zc c d oe) (hf : ∃ vs, oe.data = .fields vs) : CallR X (.builtin "isinstance") (rIsS X.K a c d) := by
  intro pins s σ H xs us Q I r h
  obtain ⟨D, dd, fs, c', cv, b, rfl, rfl, rfl, C, hcv, e, hx, q⟩ := h
  cases r with
  | cons rx rr =>
    cases rr with
    | cons rt rr =>
      cases rr
      cases rx
      have ec := hcv _ rt
      subst ec
      obtain ⟨hget, _⟩ := I.pin (a, oe) (List.mem_append.mpr (.inl hp))
      obtain ⟨vs, hv⟩ := hf
      have hx : ObjOk X.prog X.w H s.heap dd (.xd fs) := I.hok dd _ hx
      obtain ⟨mA, hns, hr⟩ := hx
      obtain ⟨od, ho, hl⟩ := lookIn_ns hns
      have J : PySem.W.InstAt s.heap a oe D (some od) := ⟨hget, hz.1, by unfold PySem.W.notCls; rw [hv] <;> rfl, by rw [hz.2]; exact ho⟩
      obtain ⟨cd0, hc0, _⟩ := PySem.W.any_some C.hd
      exact PySem.W.kia_one (PySem.W.kitx_exc (od := some od) (by rw [hc0]; rfl) C.hg C.hk C.hs C.ha C.hn C.ht C.hm) I.kIn J e (fun z => nomatch z) fun tk => ⟨.bl b, H, I.kept (t' := tk) fun _ _ z => z, rfl, q⟩
/-- e.n, e the caught exception -/
def tXs (K : PySem.W.Frag) (a : Addr) (c : Value) (d : Option Addr) (n : Str) (te : TE) : TE := fun σ H Q => te σ H fun x H1 => x = .ref a ∧ ∃ (C dd : Addr) (fs : List (Str × V)) (v : V), c = .ref C ∧ d = some dd ∧ XfC K C ∧ PySem.W.findIn K (.ref C) n = some none ∧ H1 dd = some (.xd fs) ∧ fs.lookup n = some v ∧ Q v H1
theorem pe_xs {X : Cx} {a : Addr} {oe : Obj} {c : Value} {d : Option Addr} {e : Expr} {te : TE} {pos : Pos} {n : Str} (hp : (a, oe) ∈ X.pn) (hz : Zc c d oe) (hf : ∃ vs, oe.data = .fields vs) (he : PE X e te) (hb : attributeBase e n X.env (eval e X.env) = eval e X.env := by rfl) :
    PE X (.Attribute e n pos) (tXs X.K a c d n te) := by
  refine ⟨fun pins s σ H Q I h => ?_⟩
  refine attr_of hb (thn (he.run pins s σ H _ I h) fun u s1 hh => ?_)
  obtain ⟨x, H1, I1, rx, ex, C, dd, fs, v, ec, ed, T, hno, ea, l, q⟩ := hh
  subst ex
  obtain rfl : u = Value.ref a := rx
  subst ec
  subst ed
  obtain ⟨ha, _⟩ := I1.pin (a, oe) (List.mem_append_left _ hp)
  obtain ⟨vs, hd⟩ := hf
  have hx : ObjOk X.prog X.w H1 s1.heap dd (.xd fs) := I1.hok dd _ ea
  obtain ⟨mA, hns, hr⟩ := hx
  obtain ⟨od, ho, hl⟩ := lookIn_ns hns
  obtain ⟨u, hu, ru⟩ := RelO.some_of (v := v) (o := mA n) (by rw [← l]; exact hr n)
  have J : PySem.W.InstAt s1.heap a oe C (some od) := ⟨ha, hz.1, by unfold PySem.W.notCls; rw [hd] <;> rfl, by rw [hz.2]; exact ho⟩
  exact HandSPX.exc_get I1.kIn J T.ga T.gg T.exC (PySem.W.findObj_own T.hdC hno rfl (by rw [hl, hu])) (handed_of ru) ⟨v, H1, I1.tok _, ru, q⟩
theorem call_isSK {X : Cx} {K : PySem.W.Frag} (h : X.K = K) {a : Addr} {oe : Obj} {c : Value} {d : Option Addr} (hp : (a, oe) ∈ X.pn) (hz : Zc c d oe) (hf : ∃ vs, oe.data = .fields vs) : CallR X (.builtin "isinstance") (rIsS K a c d) := h ▸ call_isS hp hz hf
theorem pe_xsK {X : Cx} {K : PySem.W.Frag} (h : X.K = K) {a : Addr} {oe : Obj} {c : Value} {d : Option Addr} {e : Expr} {te : TE} {pos : Pos} {n : Str} (hp : (a, oe) ∈ X.pn) (hz : Zc c d oe) (hf : ∃ vs, oe.data = .fields vs) (he : PE X e te) (hb : attributeBase e n X.env (eval e X.env) = eval e X.env := by rfl) :
    PE X (.Attribute e n pos) (tXs K a c d n te) := h ▸ pe_xs hp hz hf he hb
/-! the body of such an __init__ -/
def Shorty (t : TE) (σ : L2.St) (H : Hp) : Prop := ∀ Q' : VK, (∀ y : Str, y.length ≤ 2000 → Q' (.str y) H) → t σ H Q'
theorem shorty_c {z : Str} {σ : L2.St} {H : Hp} (h : z.length ≤ 2000) : Shorty (tC (.str z)) σ H := fun Q' q => q z h
theorem shorty_f {i : Nat} {v : V} {σ : L2.St} {H : Hp} (hs : σ[i]? = some (some v)) (hv : FmtV v) : Shorty (tFmt (tVar i)) σ H := fun Q' q => by
  refine ⟨v, hs, ?_⟩
  rcases hv with ⟨y, rfl, hy⟩ | ⟨i, rfl, h1, h2⟩
  · exact .inl ⟨y, rfl, by rw [sizeLine_eq]; omega, q y (by omega)⟩
  · have h3 : i.natAbs.log2 < 1920 := Nat.lt_of_lt_of_le (PySem.Flt.log2_lt_of (k := 200) (by decide) (by omega)) (by decide)
    exact .inr ⟨i, rfl, h3, q _ (Nat.le_trans (PyProof.Rows.int_text_len_1921 h3) (by decide))⟩
theorem shorty_r {i : Nat} {v : V} {σ : L2.St} {H : Hp} (hs : σ[i]? = some (some v)) (hv : FmtV v) (hk : ∀ y : Str, v = .str y → y.length ≤ 100 ∧ ∀ c ∈ y.cps.toList, c < 16 ^ 8) : Shorty (tFmtR (tVar i)) σ H := fun Q' q => by
  refine ⟨v, hs, ?_⟩
  rcases hv with ⟨y, rfl, hy⟩ | ⟨i, rfl, h1, h2⟩
  · obtain ⟨k1, k2⟩ := hk y rfl
    have k3 := StrLaws.reprText_len y k2
    exact .inl ⟨y, rfl, by rw [sizeLine_eq]; omega, q _ (by omega)⟩
  · have h3 : i.natAbs.log2 < 1920 := Nat.lt_of_lt_of_le (PySem.Flt.log2_lt_of (k := 200) (by decide) (by omega)) (by decide)
    exact .inr ⟨i, rfl, h3, q _ (Nat.le_trans (PyProof.Rows.int_text_len_1921 h3) (by decide))⟩
theorem str_app_len (a b : Str) : (a ++ b).length = a.length + b.length := by
  show (a.cps ++ b.cps).size = _
  rw [Array.size_append]
  rfl
theorem js_any {σ : L2.St} {H : Hp} {Q : Str → Hp → Prop} (q : ∀ out, Q out H) : ∀ (ts : List TE) (acc : Str), (∀ t ∈ ts, Shorty t σ H) → acc.length + 2000 * ts.length ≤ 1000000 → tJs ts acc σ H Q
  | [], acc, _, _ => q acc
  | t :: ts, acc, h, hz => by
    simp only [List.length_cons] at hz
    exact h t (List.mem_cons_self ..) _ fun y hy => ⟨y, rfl, by rw [str_app_len, sizeLine_eq]; omega, js_any q ts (acc ++ y) (fun u hu => h u (List.mem_cons_of_mem _ hu)) (by rw [str_app_len]; omega)⟩
theorem g_ost {K : PySem.W.Frag} {C a : Addr} {n : Str} {v : V} {D : Ends} {σ : L2.St} {H : Hp} (ha : H a = some (exo a C none)) (T : OexC K C) (hn : PySem.W.findIn K (.ref C) n = some none) (h0 : σ[0]? = some (some (.ref a))) (h1 : σ[1]? = some (some v))
    (q : ∀ d H', H d = none → d ≠ a → (∀ b o, b ≠ a → H b = some o → H' b = some o) → (∀ b, H' b = none → H b = none) → H' a = some (exo a C (some d)) → H' d = some (exd d [(n, v)]) → D.nx σ H') : tOst K n (tVar 0) (tVar 1) D σ H := by
  refine ⟨v, h1, .ref a, h0, a, C, rfl, T, hn, .inl ⟨ha, fun dx hd hda => q dx _ hd hda (fun b o hb ho => ?_) (fun b hb => ?_) upd_same ?_⟩⟩
  · rw [upd_ne hb, upd_ne (ne_of_none ho hd)]
    exact ho
  · by_cases z : b = a
    · rw [z, upd_same] at hb; cases hb
    · rw [upd_ne z] at hb
      by_cases y : b = dx
      · rw [y]; exact hd
      · rw [upd_ne y] at hb; exact hb
  · rw [upd_ne hda, upd_same]
/-! defs with defaults, in any mode -/
section
variable {X : Cx} {CX : CXT} {k n : Nat} {f : Addr} {fd : FuncData} {ps ks : List Str} {sp : Sp} {E : L2.St → XK} {x : Str} {p pos : Pos} {e : Expr} {es : List Expr} {kws : List Keyword} {t tk : TA} {g : List Value → List Value → List Value} {gV : List V → List V → List V} {ds : List Value} {dvs : List V}
def tCallSD (sp : Sp) (dvs : List V) (E : L2.St → XK) (t : TA) : TE := fun σ H Q => t σ H fun vs H1 => sp (vs ++ dvs) H1 Q (E σ)
def tCallNS (n m : Nat) (sp : Sp) (gV : List V → List V → List V) (E : L2.St → XK) (t tk : TA) : TE := fun σ H Q => t σ H fun vs H1 => tk σ H1 fun zs H2 => vs.length = n ∧ zs.length = m ∧ sp (gV vs zs) H2 Q (E σ)
theorem run_fnSD {pins : List (Addr × Obj)} {σ : L2.St} {H : Hp} {s : Shared} {Q : VK} {us : List Value} {vs : List V} (F : FnOk X.prog X.w X.K X.mg X.base CX k f fd ps sp) (hr : Room k X.A) (hb : Binds X.K fd ps ds) (hd : Vals dvs ds) (hx : PassesAt CX X σ (E σ))
    (I : Inv X pins σ H s) (r : Vals vs us) (h : sp (vs ++ dvs) H Q (E σ)) : wpAny (model X.prog X.w) X.A (call (.ref f) us) (EP X pins σ Q) X.xe s := by
  have r2 := r.append hd
  have hl : (us ++ ds).length = ps.length := by rw [← r2.length]; exact F.len _ _ _ _ h
  refine wpAny_call (codeAny_mono (F.run X.A X.stack s H ⟨us, []⟩ (us ++ ds) (vs ++ dvs) Q (E σ) hr I.env0 (hb s us I.kIn hl) r2 h) fun r s' hq => ?_)
  cases r with
  | error e => exact hx pins H s e s' I hq
  | ok fl =>
    cases fl with
    | ret u => exact I.after hq
    | next => exact False.elim hq
    | brk => exact False.elim hq
    | cont => exact False.elim hq
theorem pe_callSD (F : FnOk X.prog X.w X.K X.mg X.base CX k f fd ps sp) (hr : Room k X.A) (hg : Gl X x) (hm : X.mg x = some (.ref f)) (hk : PySem.W.keepIn X.K (.ref f) = true) (hb : Binds X.K fd ps ds) (hd : Vals dvs ds) (hx : ∀ σ, PassesAt CX X σ (E σ))
    (ha : PA X (e :: es) t) (hdb : (x == ("__debug__" : Str)) = false := by decide) (he : starEach (e :: es) X.env = (false, eval e X.env) :: starEach es X.env := by rfl) (hpl : (backTo pos (starEach es X.env)).any (·.1) = false := by rfl) :
    PE X (.Call (.Name x p) (e :: es) [] pos) (tCallSD sp dvs E t) := by
  refine ⟨fun pins s σ H Q I h => ?_⟩
  refine wpAny_Call_Name_kw (ld_glob I hg hm ?_ hdb)
  refine PySem.W.callWith_K (h₀ := X.base) I.ok.mod.kin hk (thn (ha.run pos pins s σ H _ I h) fun us s1 ⟨vs, H1, I1, r, q⟩ => ⟨I1.kIn, ?_⟩) he hpl
  exact run_fnSD F hr hb hd (hx σ) I1 r q
theorem run_fnNS {pins : List (Addr × Obj)} {σ : L2.St} {H : Hp} {s : Shared} {Q : VK} {us ws : List Value} {vs zs : List V} (F : FnOk X.prog X.w X.K X.mg X.base CX k f fd ps sp) (hr : Room k X.A) (hb : KBn X.K fd ps n ks g gV) (hx : PassesAt CX X σ (E σ))
    (I : Inv X pins σ H s) (r : Vals vs us) (rz : Vals zs ws) (l1 : vs.length = n) (l2 : zs.length = ks.length) (h : sp (gV vs zs) H Q (E σ)) : wpAny (model X.prog X.w) X.A (call (.ref f) us (ks.zip ws)) (EP X pins σ Q) X.xe s := by
  have r2 := hb.rel r rz
  refine wpAny_call (codeAny_mono (F.run X.A X.stack s H ⟨us, ks.zip ws⟩ (g us ws) (gV vs zs) Q (E σ) hr I.env0 (hb.to s us ws I.kIn (r.length.symm.trans l1) (rz.length.symm.trans l2)) r2 h) fun r s' hq => ?_)
  cases r with
  | error e => exact hx pins H s e s' I hq
  | ok fl =>
    cases fl with
    | ret u => exact I.after hq
    | next => exact False.elim hq
    | brk => exact False.elim hq
    | cont => exact False.elim hq
theorem pe_callNS (F : FnOk X.prog X.w X.K X.mg X.base CX k f fd ps sp) (hr : Room k X.A) (hg : Gl X x) (hm : X.mg x = some (.ref f)) (hk : PySem.W.keepIn X.K (.ref f) = true) (hb : KBn X.K fd ps n ks g gV) (hx : ∀ σ, PassesAt CX X σ (E σ))
    (ha : PA X (e :: es) t) (hkw : PK X kws tk) (hall : (backToKw pos (keywordEach kws X.env)).all (·.1.isSome) = true := by rfl) (hks : (backToKw pos (keywordEach kws X.env)).filterMap (·.1) = ks := by rfl)
    (hdb : (x == ("__debug__" : Str)) = false := by decide) (he : starEach (e :: es) X.env = (false, eval e X.env) :: starEach es X.env := by rfl)
    (hpl : ((backTo pos (starEach (e :: es) X.env)).any (·.1) || (backToKw pos (keywordEach kws X.env)).any (·.1.isNone)) = false := by rfl) :
    PE X (.Call (.Name x p) (e :: es) kws pos) (tCallNS n ks.length sp gV E t tk) := by
  refine ⟨fun pins s σ H Q I h => ?_⟩
  refine wpAny_Call_Name_kw (ld_glob I hg hm ?_ hdb)
  refine PySem.W.callWith_KW (h₀ := X.base) I.ok.mod.kin hk hall (thn (ha.run pos pins s σ H _ I h) fun us s1 ⟨vs, H1, I1, r, q⟩ => ?_) hpl he
  refine thn (hkw.run pos pins s1 σ H1 _ I1 q) fun ws s2 ⟨zs, H2, I2, rz, l1, l2, q2⟩ => ⟨I2.kIn, ?_⟩
  rw [hks]
  exact run_fnNS F hr hb (hx σ) I2 r rz l1 l2 q2
variable {σ : L2.St} {H : Hp} {Q : VK}
instance : Step (tCallSD sp dvs E t σ H Q) (t σ H fun vs H1 => sp (vs ++ dvs) H1 Q (E σ)) := ⟨fun q => q⟩
instance {m : Nat} : Step (tCallNS n m sp gV E t tk σ H Q) (t σ H fun vs H1 => tk σ H1 fun zs H2 => vs.length = n ∧ zs.length = m ∧ sp (gV vs zs) H2 Q (E σ)) := ⟨fun q => q⟩
end
/-- the def x as the top left it, with its defaults -/
structure DfG (K : PySem.W.Frag) (mg : Str → Option Value) (x : Str) (st : Stmt) (dvs : List V) (kws : List (Str × V)) : Prop where
  ex : ∃ (f : Addr) (fd : FuncData), mg x = some (.ref f) ∧ FunD K x x (defArgs st) (defBody st) (defScope st) dvs kws f fd
/-- .. may be called (CX: what it may let out) -/
structure ClG (CX : CXT) (P : Program) (w : World) (K : PySem.W.Frag) (mg : Str → Option Value) (base : Heap) (k : Nat) (x : Str) (st : Stmt) (ps : List Str) (dvs : List V) (kws : List (Str × V)) (sp : Sp) : Prop where
  ex : ∃ (f : Addr) (fd : FuncData), mg x = some (.ref f) ∧ FunD K x x (defArgs st) (defBody st) (defScope st) dvs kws f fd ∧ FnOk P w K mg base CX k f fd ps sp
theorem DfG.ok {P : Program} {w : World} {K : PySem.W.Frag} {mg : Str → Option Value} {base : Heap} {CX : CXT} {x : Str} {st : Stmt} {N ps : List Str} {dvs : List V} {kws : List (Str × V)} {k : Nat} {sp : Sp} (D : DfG K mg x st dvs kws) (S : FnScope N ps (defScope st)) (len : ∀ vs H Q E, sp vs H Q E → vs.length = ps.length)
    (hbody : ∀ (f : Addr) (cdv : Value) (A : Around) (outer : List Env) (s : Shared) (H : Hp) (vs : List V) (Q : VK) (E : XK), Room k (A.deeper (envOfC x (defScope st) s.heap.objs.size f cdv)) → sp vs H Q E →
      ∃ t, PSs (cxOf CX P w K mg base N x (defScope st) f cdv A outer s H E) (defBody st) t ∧ t { nx := fun _ H' => Q .non H', rt := Q } (start N vs) H) : ClG CX P w K mg base (k + 1) x st ps dvs kws sp := by
  obtain ⟨f, fd, h1, h2⟩ := D.ex
  exact ⟨f, fd, h1, h2, h2.ok S len fun cdv A outer s H vs Q E hr h => hbody f cdv A outer s H vs Q E hr h⟩
theorem passC {X : Cx} {W : WX} (tk : Takes X W) (σ : L2.St) : PassesAt (L2.CX X.prog X.w) X σ (WE W σ) := passAt tk σ
section
variable {X : Cx} {CX : CXT} {k n : Nat} {ps ks : List Str} {sp : Sp} {E : L2.St → XK} {x : Str} {p pos : Pos} {e : Expr} {es : List Expr} {kw : List Keyword} {t tk : TA} {st : Stmt} {dvs : List V} {kws : List (Str × V)}
/-- every parameter given by place -/
theorem pe_g (C : ClG CX X.prog X.w X.K X.mg X.base k x st ps [] kws sp) (hr : Room k X.A) (hx : ∀ σ, PassesAt CX X σ (E σ))
    (h : ∀ (kV doc pm : Value) (an : Option Addr) (cdv ct : Value) (us : List Value), us.length = ps.length → bindArgs (PySem.W.fnOf x x (defArgs st) (defBody st) (defScope st) .none kV doc pm an cdv ct) ⟨us, []⟩ = pure (ps.zip us))
    (ha : PA X (e :: es) t) (hg : Gl X x := by rfl) (hdb : (x == ("__debug__" : Str)) = false := by decide)
    (he : starEach (e :: es) X.env = (false, eval e X.env) :: starEach es X.env := by rfl) (hpl : (backTo pos (starEach es X.env)).any (·.1) = false := by rfl) :
    PE X (.Call (.Name x p) (e :: es) [] pos) (tCallSD sp [] E t) := by
  obtain ⟨f, fd, h1, h2, h4⟩ := C.ex
  exact pe_callSD h4 hr hg h1 h2.kp (h2.bindsN h) .nil hx ha hdb he hpl
/-- the keyword-only ones lack -/
theorem pe_g0 (C : ClG CX X.prog X.w X.K X.mg X.base k x st ps [] kws sp) (hr : Room k X.A) (hx : ∀ σ, PassesAt CX X σ (E σ)) (n : Nat) (hk : kws ≠ []) (hn : n + kws.length = ps.length)
    (h : ∀ (D : Addr) (doc pm : Value) (an : Option Addr) (cdv ct : Value) (us ks : List Value), us.length = n → ks.length = kws.length →
      KwChain D ((kws.map (·.1)).zip ks) (bindArgs (PySem.W.fnOf x x (defArgs st) (defBody st) (defScope st) .none (.ref D) doc pm an cdv ct) ⟨us, []⟩) (ps.zip (us ++ ks)))
    (ha : PA X (e :: es) t) (hg : Gl X x := by rfl) (hdb : (x == ("__debug__" : Str)) = false := by decide)
    (he : starEach (e :: es) X.env = (false, eval e X.env) :: starEach es X.env := by rfl) (hpl : (backTo pos (starEach es X.env)).any (·.1) = false := by rfl) :
    PE X (.Call (.Name x p) (e :: es) [] pos) (tCallSD sp (kws.map (·.2)) E t) := by
  obtain ⟨f, fd, h1, h2, h4⟩ := C.ex
  obtain ⟨ds, r, b⟩ := h2.binds0 n hk hn h
  exact pe_callSD h4 hr hg h1 h2.kp b r hx ha hdb he hpl
/-- the last ones lack (places with defaults; no keyword-only parameters) -/
theorem pe_g1 (C : ClG CX X.prog X.w X.K X.mg X.base k x st ps dvs kws sp) (hr : Room k X.A) (hx : ∀ σ, PassesAt CX X σ (E σ)) (n j : Nat) (hd : dvs ≠ []) (hn : n + (dvs.length - j) = ps.length)
    (h : ∀ (T : Addr) (kV doc pm : Value) (an : Option Addr) (cdv ct : Value) (us its : List Value), us.length = n → its.length = dvs.length →
      ∃ k, bindArgs (PySem.W.fnOf x x (defArgs st) (defBody st) (defScope st) (.ref T) kV doc pm an cdv ct) ⟨us, []⟩ = seqItems? (.ref T) >>= k ∧ k (some its.toArray) = pure (ps.zip (us ++ its.drop j)))
    (ha : PA X (e :: es) t) (hg : Gl X x := by rfl) (hdb : (x == ("__debug__" : Str)) = false := by decide)
    (he : starEach (e :: es) X.env = (false, eval e X.env) :: starEach es X.env := by rfl) (hpl : (backTo pos (starEach es X.env)).any (·.1) = false := by rfl) :
    PE X (.Call (.Name x p) (e :: es) [] pos) (tCallSD sp (dvs.drop j) E t) := by
  obtain ⟨f, fd, h1, h2, h4⟩ := C.ex
  obtain ⟨ds, r, b⟩ := h2.binds1 n j hd hn h
  exact pe_callSD h4 hr hg h1 h2.kp b r hx ha hdb he hpl
theorem pe_gk (C : ClG CX X.prog X.w X.K X.mg X.base k x st ps [] kws sp) (hr : Room k X.A) (hx : ∀ σ, PassesAt CX X σ (E σ)) (n : Nat) (ks : List Str) (ms : List (Str × V)) (g : {α : Type} → List α → List α → List α → List α) (hk : kws ≠ []) (hms : ∀ q ∈ ms, q ∈ kws)
    (hrel : ∀ {vs mz zs : List V} {us mv ws : List Value}, Vals vs us → Vals mz mv → Vals zs ws → Vals (g vs mz zs) (g us mv ws))
    (h : ∀ (D : Addr) (doc pm : Value) (an : Option Addr) (cdv ct : Value) (us mv ws : List Value), us.length = n → mv.length = ms.length → ws.length = ks.length →
      KwChain D ((ms.map (·.1)).zip mv) (bindArgs (PySem.W.fnOf x x (defArgs st) (defBody st) (defScope st) .none (.ref D) doc pm an cdv ct) ⟨us, ks.zip ws⟩) (ps.zip (g us mv ws)))
    (ha : PA X (e :: es) t) (hkw : PK X kw tk) (hg : Gl X x := by rfl) (hall : (backToKw pos (keywordEach kw X.env)).all (·.1.isSome) = true := by rfl) (hks : (backToKw pos (keywordEach kw X.env)).filterMap (·.1) = ks := by rfl)
    (hdb : (x == ("__debug__" : Str)) = false := by decide) (he : starEach (e :: es) X.env = (false, eval e X.env) :: starEach es X.env := by rfl)
    (hpl : ((backTo pos (starEach (e :: es) X.env)).any (·.1) || (backToKw pos (keywordEach kw X.env)).any (·.1.isNone)) = false := by rfl) :
    PE X (.Call (.Name x p) (e :: es) kw pos) (tCallNS n ks.length sp (fun vs zs => g vs (ms.map (·.2)) zs) E t tk) := by
  obtain ⟨f, fd, h1, h2, h4⟩ := C.ex
  obtain ⟨mv, b⟩ := h2.kbinds0 n ks ms g hk hms hrel h
  exact pe_callNS h4 hr hg h1 h2.kp b hx ha hkw hall hks hdb he hpl
end
theorem passC0 {X : Cx} (σ : L2.St) : PassesAt CX0 X σ E0 := fun _ _ _ _ _ _ h => h.elim
theorem DfG.okP {P : Program} {w : World} {K : PySem.W.Frag} {mg : Str → Option Value} {base : Heap} {x : Str} {st : Stmt} {N ps : List Str} {dvs : List V} {kws : List (Str × V)} {k : Nat} {sp : Sp} (D : DfG K mg x st dvs kws) (S : FnScope N ps (defScope st)) (len : ∀ vs H Q E, sp vs H Q E → vs.length = ps.length)
    (hbody : ∀ (f : Addr) (cdv : Value) (A : Around) (outer : List Env) (s : Shared) (H : Hp) (vs : List V) (Q : VK) (E : XK), Room k (A.deeper (envOfC x (defScope st) s.heap.objs.size f cdv)) → sp vs H Q E →
      ∃ t, PSs (cxOf CX0 P w K mg base N x (defScope st) f cdv A outer s H E).nox (defBody st) t ∧ t { nx := fun _ H' => Q .non H', rt := Q } (start N vs) H) : ClG CX0 P w K mg base (k + 1) x st ps dvs kws sp :=
  D.ok S len fun f cdv A outer s H vs Q E hr h => by
    obtain ⟨t, a, b⟩ := hbody f cdv A outer s H vs Q E hr h
    exact ⟨t, a.nox, b⟩
theorem DfG.okS {P : Program} {w : World} {K : PySem.W.Frag} {mg : Str → Option Value} {base : Heap} {x : Str} {st : Stmt} {N ps : List Str} {k : Nat} {sp : Addr → Value → Option Addr → Sp} (D : DfG K mg x st [] []) (S : FnScope N ps (defScope st)) (len : ∀ a c d vs H Q E, sp a c d vs H Q E → vs.length = ps.length)
    (hb : ∀ (kV doc pm : Value) (an : Option Addr) (cdv ct : Value) (us : List Value), us.length = ps.length → bindArgs (PySem.W.fnOf x x (defArgs st) (defBody st) (defScope st) .none kV doc pm an cdv ct) ⟨us, []⟩ = pure (ps.zip us))
    (hbody : ∀ (f : Addr) (cdv : Value) (A : Around) (outer : List Env) (s : Shared) (H : Hp) (vs : List V) (Q : VK) (E : XK) (a : Addr) (oe : Obj) (c : Value) (d : Option Addr), RoomH k (A.deeper (envOfC x (defScope st) s.heap.objs.size f cdv)) → Zc c d oe → (∃ fv, oe.data = .fields fv) → sp a c d vs H Q E →
      ∃ t, PSs (cxH CX0 P w K mg base N x (defScope st) f cdv A outer s H E (a, oe)) (defBody st) t ∧ t { nx := fun _ H' => Q .non H', rt := Q } (start N vs) H) : ClS P w K mg base (k + 1) x ps sp := by
  obtain ⟨f, fd, h1, h2⟩ := D.ex
  obtain ⟨oc, od, dV, kV, doc, pm, an, cdv, ct, osl, rfl, lk, hcd, hD, _⟩ := h2.ex
  have hd : dV = .none := by
    rcases hD with ⟨_, e⟩ | ⟨e, _⟩
    · exact e
    · exact absurd rfl e
  subst hd
  exact ⟨f, _, h1, h2.kp, hb kV doc pm an cdv ct, fn_ofS lk hcd S len fun A outer s H vs Q E a oe c d hr hz hf h => hbody f cdv A outer s H vs Q E a oe c d hr hz hf h⟩
theorem ex_nox {X : Cx} {body : List Stmt} {R : TS → Prop} (h : ∃ t, PSs X.nox body t ∧ R t) : ∃ t, PSs X body t ∧ R t := by
  obtain ⟨t, a, b⟩ := h
  exact ⟨t, a.nox, b⟩
theorem hu64H {k : Nat} {A : Around} (hr : RoomH k A) : A.units + 64 < cLine := by
  have := hr.un
  omega
theorem dfg_mk {K : PySem.W.Frag} {mg : Str → Option Value} {h : Heap} {x : Str} {st : Stmt} {f : Addr} {oc dV kV : Value} {od an : Option Addr} {osl : Array (Option Value)} {doc pm cdv ct : Value} {dvs : List V} {kws : List (Str × V)} (X : K.In h) (G : h.Ns mainGlobals mg)
    (a : PySem.W.nsIn K mainGlobals x = some (some (.ref f))) (l : K.lookup f = some ⟨oc, od, .func (PySem.W.fnOf x x (defArgs st) (defBody st) (defScope st) dV kV doc pm an cdv ct), osl⟩)
    (c : PySem.W.codeIn K cdv x = true) (k : PySem.W.keepIn K (.ref f) = true) (d : DflV K dV dvs) (q : KwdV K kV kws) : DfG K mg x st dvs kws :=
  ⟨f, _, PySem.W.mg_of X G a, ⟨⟨oc, od, dV, kV, doc, pm, an, cdv, ct, osl, rfl, l, c, d, q⟩, k⟩⟩
instance {C : Addr} {n : Str} {ta : TA} {σ : L2.St} {H : Hp} {Q : XK} : Step (tMk1 C n ta σ H Q) (ta σ H fun vs H1 => rMk1 C n vs H1 Q) := ⟨fun q => q⟩

/-! ### a try's wish, a caught exception: steps -/
section
variable {K : PySem.W.Frag} {c cls : Value} {i : Nat} {ts : Addr → Value → Option Addr → TS} {Wout : WX} {D : Ends} {d : Option Addr} {σ τ : L2.St} {H H1 : Hp} {Q : VK} {a C dd : Addr} {fs : List (Str × V)} {n : Str} {v : V} {te : TE}
def rUnset (i : Nat) (R : L2.St → Hp → Prop) (σ : L2.St) (H : Hp) : Prop := R (σ.set i none) H
instance {R : L2.St → Hp → Prop} [h : SetL σ i none τ] : Step (rUnset i R σ H) (R τ H) := ⟨fun q => by show R _ H; rw [h.eq]; exact q⟩
theorem g_wasT (hb : PySem.W.exmOne K cls c = some true) (q : ∀ a, Nw H a → gName i (.ref a) σ H fun σ' H' => ts a cls d (Ends.mk (fun σ' H' => rUnset i D.nx σ' H') D.rt (fun σ' H' => rUnset i D.bk σ' H') (fun σ' H' => rUnset i D.ct σ' H')) σ' H') :
    wAs K c i ts Wout D cls d σ H := ⟨true, hb, fun _ a ha => q a ⟨ha⟩, fun h => nomatch h⟩
theorem g_wasF (hb : PySem.W.exmOne K cls c = some false) (q : Wout cls d σ H) : wAs K c i ts Wout D cls d σ H := ⟨false, hb, fun h => (nomatch h), fun _ => q⟩
theorem g_wonT (hb : PySem.W.exmOne K cls c = some true) (q : ∀ a, Nw H a → ts a cls d D σ H) : wOnly K c ts Wout D cls d σ H := ⟨true, hb, fun _ a ha => q a ⟨ha⟩, fun h => nomatch h⟩
theorem g_wonF (hb : PySem.W.exmOne K cls c = some false) (q : Wout cls d σ H) : wOnly K c ts Wout D cls d σ H := ⟨false, hb, fun h => (nomatch h), fun _ => q⟩
theorem g_isS {t : V} {tv : Value} {b : Bool} [h : At H dd (.xd fs)] (xc : ExcC K C) (hv : ∀ u, RelV t u → u = tv) (kt : PySem.W.kitOne K (.ref C) tv = some b) (q : Q (.bl b) H) : rIsS K a (.ref C) (some dd) [.ref a, t] H Q :=
  ⟨C, dd, fs, t, tv, b, rfl, rfl, rfl, xc, hv, kt, h.eq, q⟩
def rXs (K : PySem.W.Frag) (a : Addr) (c : Value) (d : Option Addr) (n : Str) (x : V) (H1 : Hp) (Q : VK) : Prop := x = .ref a ∧ ∃ (C dd : Addr) (fs : List (Str × V)) (v : V), c = .ref C ∧ d = some dd ∧ XfC K C ∧ PySem.W.findIn K (.ref C) n = some none ∧ H1 dd = some (.xd fs) ∧ fs.lookup n = some v ∧ Q v H1
instance : Step (tXs K a c d n te σ H Q) (te σ H fun x H1 => rXs K a c d n x H1 Q) := ⟨fun q => q⟩
theorem g_xs [h : At H dd (.xd fs)] (T : XfC K C) (hf : PySem.W.findIn K (.ref C) n = some none) (hl : fs.lookup n = some v) (q : Q v H) : rXs K a (.ref C) (some dd) n (.ref a) H Q :=
  ⟨rfl, C, dd, fs, v, rfl, rfl, T, hf, h.eq, hl, q⟩
end
/-! ### the end: what the written part says of the classes -/
section
open PySem.W
variable {P : Program} {K : Frag} {S T : Addr} {b : Bool}
theorem kitc_of (h2 : isClsIn K T = true) (h3 : typeIn K (.ref T) = some (.type "type")) (h4 : subIn K (.ref S) (.ref T) = some b) : kitCls K (.ref S) (.ref T) = some b := by
  have h2' : (clsIn K T).isSome = true := h2
  show (if ((clsIn K T).isSome && typeIn K (.ref T) == some (.type "type")) = true then subIn K (.ref S) (.ref T) else none) = some b
  rw [h2', h3, if_pos (by decide)]
  exact h4
theorem exm_of (h1 : subIn K (.ref T) (.type "BaseException") = some true) (h2 : isClsIn K T = true) (h3 : typeIn K (.ref T) = some (.type "type")) (h4 : subIn K (.ref S) (.ref T) = some b) : exmOne K (.ref S) (.ref T) = some b := by
  unfold exmOne
  rw [h1, if_pos (by decide)]
  exact kitc_of h2 h3 h4
theorem kit_same : kitOne K (.ref S) (.ref S) = some true := by
  unfold kitOne
  rw [if_pos (by simp)]
theorem kit_ne (h : (Value.ref S == Value.ref T) = false) (h2 : isClsIn K T = true) (h3 : typeIn K (.ref T) = some (.type "type")) (h4 : subIn K (.ref S) (.ref T) = some b) : kitOne K (.ref S) (.ref T) = some b := by
  unfold kitOne
  rw [h, if_neg Bool.false_ne_true]
  exact kitc_of h2 h3 h4
theorem kit_tyB {x : String} (h1 : kitMeta x = true) (h4 : subIn K (.ref S) (.type x) = some b) : kitOne K (.ref S) (.type x) = some b := by
  unfold kitOne
  rw [if_neg (by intro h; cases (beq_iff_eq.mp h))]
  show (if kitMeta x = true then subIn K (.ref S) (.type x) else none) = some b
  rw [if_pos h1]
  exact h4
theorem exm_tyB {x : String} (h1 : kitMeta x = true) (h2 : subIn K (.type x) (.type "BaseException") = some true) (h4 : subIn K (.ref S) (.type x) = some b) : exmOne K (.ref S) (.type x) = some b := by
  unfold exmOne
  rw [h2, if_pos (by decide)]
  show (if kitMeta x = true then subIn K (.ref S) (.type x) else none) = some b
  rw [if_pos h1]
  exact h4
theorem find_mro {C : Addr} {cd : ClassData} {n : Str} (h : clsIn K C = some cd) : findIn K (.ref C) n = alongIn K n cd.mro := by
  unfold clsIn at h
  unfold findIn
  split at h
  · rename_i e
    cases h
    simp only [e]
  · cases h
theorem drop_head {v : Value} {r : List Value} : ((v :: r).dropWhile (· != v)).drop 1 = r := by
  rw [List.dropWhile_cons_of_neg]
  · rfl
  · simp
theorem sup_of {C : Addr} {cd cdS : ClassData} {n : Str} {r : Option Value} (h1 : clsIn K C = some cd) (h2 : clsIn K S = some cdS) (hm : cd.mro = .ref C :: cdS.mro) (hf : findIn K (.ref S) n = some r) : ks_superIn K C C n = some r := by
  unfold ks_superIn
  rw [h1, Option.bind_some, hm, drop_head, ← find_mro h2]
  exact hf
theorem dfl1 {A : Addr} {v : V} {u oc : Value} {od : Option Addr} {n : Nat} {sl : Array (Option Value)} (l : K.lookup A = some ⟨oc, od, .seq #[u] n, sl⟩) (r : RelV v u) : DflV K (.ref A) [v] := .inr ⟨by simp, A, _, [u], n, rfl, l, rfl, .cons r .nil⟩
theorem dfl2 {A : Addr} {v v2 : V} {u u2 oc : Value} {od : Option Addr} {n : Nat} {sl : Array (Option Value)} (l : K.lookup A = some ⟨oc, od, .seq #[u, u2] n, sl⟩) (r : RelV v u) (r2 : RelV v2 u2) : DflV K (.ref A) [v, v2] := .inr ⟨by simp, A, _, [u, u2], n, rfl, l, rfl, .cons r (.cons r2 .nil)⟩
theorem exd_mk {mg : Str → Option Value} {sx : Str} {h : Heap} {x qual : Str} {st : Stmt} {ps : List Str} {C f c cc N : Addr} {nm q n : Str} {bs bm : List Value} {sn : List Str} {sub : List Value} {ab : Bool} {col : Option Bool} {dd : Option Addr} {k0 k1 k2 k3 k5 : Option Value}
    {cd cdS : ClassData} {oc doc pm ct cl ccl : Value} {od cld cdd : Option Addr} {osl csl ccs : Array (Option Value)} {vs : Array Value} {file : Str} {tf : Tok} (X : K.In h) (G : h.Ns mainGlobals mg) (aS : nsIn K mainGlobals sx = some (some (.ref S)))
    (a : nsIn K mainGlobals x = some (some (.ref C))) (xL : K.lookup C = some (excClassObj nm q C N bs bm true sn sub ab col dd k0 k1 k2 k3 k5 "ValueError.__new__")) (hbm : PySem.HandSPX.refsVE bm = true)
    (sa : findIn K (.ref C) "__setattr__" = some (some (.builtin "object.__setattr__"))) (exC : subIn K (.ref C) (.type "BaseException") = some true) (tyC : typeIn K (.ref C) = some (.type "type")) (kC : keepIn K (.ref C) = true)
    (mro : mroIn K C (.ref C) = some true) (h1 : clsIn K C = some cd) (h2 : clsIn K S = some cdS) (hm : cd.mro = .ref C :: cdS.mro) (hf : findIn K (.ref S) "__init__" = some (some (.builtin "ValueError.__init__"))) (sub' : subIn K (.ref C) (.type "ValueError") = some true)
    (hn : ps[1]? = some n) (fl : findIn K (.ref C) n = some none) (i1 : findIn K (.ref C) "__init__" = some (some (.ref f))) (i2 : typeIn K (.ref f) = some (.type "function"))
    (lf : K.lookup f = some ⟨oc, od, .func (fnX "__init__" qual (defArgs st) (defBody st) (defScope st) [("__class__", cc)] .none .none doc pm none (.ref c) ct), osl⟩) (cf : codeIn K (.ref c) qual = true)
    (lc : K.lookup c = some ⟨ccl, cdd, .fields vs, ccs⟩) (hv : vs[2]? = some (.str file tf)) (hfile : ((P.main.file : Str) == file) = true) (lcc : K.lookup cc = some ⟨cl, cld, .cell (some (.ref C)), csl⟩)
    (ns : nsIn K mainGlobals "super" = some none) (top : (P.main.scope.names.lookup ("super" : Str)).isSome = false) (op : nsIn K cStatics "thirdparty.any" = some none) : ExD P K mg x qual st ps C :=
  ⟨mg_of X G a, ⟨⟨⟨nm, q, N, bs, bm, sn, sub, ab, col, dd, k0, k1, k2, k3, k5, xL, hbm⟩, sa, exC, tyC, kC⟩, mro, sup_of h1 h2 hm hf, sub'⟩, fun m hm => by rw [hn] at hm; cases hm; exact fl,
    f, _, i1, i2, ⟨c, cc, oc, doc, pm, ct, cl, ccl, od, cld, cdd, osl, csl, ccs, vs, file, tf, cd, rfl, lf, cf, lc, hv, hfile, lcc, h1⟩, mg_none_of X G ns, top, op⟩
end
end Gx

set_option linter.all false
set_option maxRecDepth 100000
set_option maxHeartbeats 2000000
/-! Gr: methods of an own class, Rounds, tuples. -/
namespace Gx
open PySem PySem.Spec PyProof.Rows L2 _root_.ClX StX
/-! ### sums of tuples, tuples joined, cut, asked by a place -/
section
variable {X : Cx} {K : PySem.W.Frag} {H : Hp} {Q : VK} {a b p : Addr} {xs ys : List V} {ns ms : List Int}
def rSumT (K : PySem.W.Frag) : List V → Hp → VK → Prop := fun vs H Q => ∃ (a : Addr) (ns : List Int), vs = [V.ref a] ∧ SqT K H a (ns.map V.int) ∧ Q (.int ns.sum) H
theorem cr_sumT (hc : X.calm = true) : CallR X (.builtin "sum") (rSumT X.K) := by
  intro pins s σ H vs us Q I r h
  obtain ⟨a, ns, rfl, hs, q⟩ := h
  obtain ⟨its, rv, hl, _⟩ := I.tuple hs
  rw [Vals.ref1 r]
  have hi : IntsAre its ns := rv.ints
  obtain ⟨xs, e⟩ := hi.allInts.items
  have hn : numsOf (intItems xs).toList = ns := by rw [← e]; exact hi.numsOf
  rw [nums_intItems] at hn
  rw [e] at hl
  refine PySem.W.ktm_sumG (I.ok.hd hc) hl fun h' tk t' hk => ?_
  rw [preSum_eq, List.take_of_length_le (by simp), hn]
  exact ⟨.int _, H, I.kept hk, ⟨_, rfl⟩, q⟩
def rSumX (K : PySem.W.Frag) : List V → Hp → VK → Prop := fun vs H Q => rSum K vs H Q ∨ rSumT K vs H Q
theorem callSumXK (h : X.K = K) (hc : X.calm = true) : CallR X (.builtin "sum") (rSumX K) := by
  subst h
  intro pins s σ H vs us Q I r h
  rcases h with h | h
  · exact cr_sum hc pins s σ H vs us Q I r h
  · exact cr_sumT hc pins s σ H vs us Q I r h
instance [h : SqC K H a (ns.map V.int)] : Step (rSumX K [V.ref a] H Q) (Q (.int ns.sum) H) := ⟨fun q => .inl ⟨a, ns, rfl, h.sq, q⟩⟩
instance [h : StC K H a (ns.map V.int)] : Step (rSumX K [V.ref a] H Q) (Q (.int ns.sum) H) := ⟨fun q => .inr ⟨a, ns, rfl, h.st, q⟩⟩
/-- a tuple of these ints at a: fresh or not -/
theorem g_catT [h1 : StC K H a (ns.map V.int)] [h2 : StC K H b (ms.map V.int)] [k1 : At H a (.tup (ns.map V.int))] [k2 : At H b (.tup (ms.map V.int))] (hz : ns.length + ms.length ≤ 100000) (q : ∀ p H2, Ex H H2 → At H2 p (.tup ((ns ++ ms).map V.int)) → Q (.ref p) H2) : rAdd K (.ref a) (.ref b) H Q := by
  refine .inr (.inr (.inr ⟨a, b, _, _, rfl, rfl, h1.st, h2.st, by rw [List.length_map, List.length_map]; exact Nat.le_trans hz (by decide), fun e => ?_, fun _ e => ?_, fun _ _ p hp => ?_⟩))
  · have e' : ns = [] := List.map_eq_nil_iff.mp e
    subst e'
    exact q b H (Ex.refl H) k2
  · have e' : ms = [] := List.map_eq_nil_iff.mp e
    subst e'
    exact q a H (Ex.refl H) ⟨by rw [List.append_nil]; exact k1.eq⟩
  · exact q p _ (Ex.mk hp) ⟨by rw [List.map_append]; exact upd_same⟩
/-- the places a cut takes -/
def cutI (ns : List Int) (lo hi : Option Int) : List Int := (ns.drop (HT.sIx ns.length 0 lo)).take (HT.sIx ns.length ns.length hi - HT.sIx ns.length 0 lo)
theorem cutV_int {lo hi : Option Int} : cutV (ns.map V.int) lo hi = (cutI ns lo hi).map V.int := by
  unfold cutV cutI
  rw [List.length_map, List.map_take, List.map_drop]
theorem g_slTup {lo hi : Option Int} [h : StC K H a (ns.map V.int)] [k : At H a (.tup (ns.map V.int))] (q : ∀ p H2, Ex H H2 → At H2 p (.tup ((cutI ns lo hi).map V.int)) → Q (.ref p) H2) : rSlX K (.ref a) lo hi H Q := by
  refine .inr (.inr ⟨a, _, rfl, h.st, fun e => ?_, fun _ p hp => ?_⟩)
  · refine q a H (Ex.refl H) ⟨?_⟩
    rw [List.length_map] at e
    rw [k.eq, ← cutV_int]
    unfold cutV
    rw [List.length_map, e.1, e.2, List.drop_zero, Nat.sub_zero, List.take_of_length_le (by simp)]
  · exact q p _ (Ex.mk hp) ⟨by rw [← cutV_int]; exact upd_same⟩
theorem g_ixTI {i : Int} [h : StC K H a (ns.map V.int)] (h0 : 0 ≤ i) (h1 : i < (ns.length : Int)) (q : Q (.int (ns.getD i.toNat 0)) H) : rIx K (.ref a) (.int i) H Q := by
  obtain ⟨j, rfl⟩ : ∃ j : Nat, i = (j : Int) := ⟨i.toNat, by omega⟩
  refine g_ixT (atI_nat ?_) q
  have h2 : j < ns.length := by omega
  rw [List.getElem?_map, List.getElem?_eq_getElem h2, Option.map_some, Int.toNat_natCast, List.getD_eq_getElem?_getD, List.getElem?_eq_getElem h2, Option.getD_some]
instance (priority := high) [h : StC K H p (ns.map V.int)] : Step (rLen K [.ref p] H Q) (Q (.int (ns.length : Nat)) H) := ⟨fun q => g_len len_t (by rw [List.length_map]; exact q)⟩
/-! lists and tuples made of a list or a tuple -/
theorem g_listOfT [h : StC K H p xs] (q : ∀ p H2, Nw H p → Ex H H2 → At H2 p (.lst xs) → Q (.ref p) H2) : rListOf K [V.ref p] H Q := ⟨p, xs, rfl, .inr h.st, g_new q⟩
def rTupOf (K : PySem.W.Frag) : List V → Hp → VK → Prop := fun xs H Q => ∃ p ys, xs = [.ref p] ∧ ((SqL K H p ys ∧ ∀ l, H l = none → Q (.ref l) (upd H l (.tup ys))) ∨ (SqT K H p ys ∧ Q (.ref p) H))
theorem callTupOfK (h : X.K = K) : CallR X (.type "tuple") (rTupOf K) := h ▸ call_tuple_of
instance [h : StC K H p xs] : Step (rTupOf K [.ref p] H Q) (Q (.ref p) H) := ⟨fun q => ⟨p, xs, rfl, .inr ⟨h.st, q⟩⟩⟩
theorem g_tupOfL [h : SqC K H p xs] (q : ∀ p H2, Nw H p → Ex H H2 → At H2 p (.tup xs) → Q (.ref p) H2) : rTupOf K [V.ref p] H Q := ⟨p, xs, rfl, .inl ⟨h.sq, g_new q⟩⟩
theorem cdivP {i j : Int} (h : 0 < j ∧ j < 2 ^ 200) (h2 : -(2 ^ 300) < i ∧ i < 2 ^ 300) : CDivP i j := by
  refine divp_ok h.1 ?_
  have b : ∀ x : Int, Builtin.Int.intBits x ≤ x.natAbs.log2 + 1 := fun x => by
    unfold Builtin.Int.intBits
    split
    · omega
    · omega
  have h3 := b i
  have h4 : i.natAbs.log2 < 300 := PySem.Flt.log2_lt_of (k := 300) (by decide) (by omega)
  omega
def rDivmod : List V → Hp → VK → Prop := fun xs H Q => ∃ i j, xs = [.int i, .int j] ∧ CDivP i j ∧ ∀ p, H p = none → Q (.ref p) (upd H p (.tup [.int (i / j), .int (i % j)]))
theorem callDivmod : CallR X (.builtin "divmod") rDivmod := call_divmodW
theorem g_divmod {H : Hp} {Q : VK} {i j : Int} (h : CDivP i j) (q : ∀ p H2, Nw H p → Ex H H2 → At H2 p (.tup [.int (i / j), .int (i % j)]) → Q (.ref p) H2) : rDivmod [.int i, .int j] H Q := ⟨i, j, rfl, h, g_new q⟩
end
/-! ### methods -/
structure DfM (K : PySem.W.Frag) (C : Addr) (m qual : Str) (st : Stmt) (dvs : List V) (kws : List (Str × V)) : Prop where
  ex : ∃ (f : Addr) (fd : FuncData), Meth K C m f ∧ FunD K m qual (defArgs st) (defBody st) (defScope st) dvs kws f fd
structure ClM (CX : CXT) (P : Program) (w : World) (K : PySem.W.Frag) (mg : Str → Option Value) (base : Heap) (k : Nat) (C : Addr) (m qual : Str) (st : Stmt) (ps : List Str) (dvs : List V) (kws : List (Str × V)) (sp : Sp) : Prop where
  ex : ∃ (f : Addr) (fd : FuncData), Meth K C m f ∧ FunD K m qual (defArgs st) (defBody st) (defScope st) dvs kws f fd ∧ FnOk P w K mg base CX k f fd ps sp
section
variable {P : Program} {w : World} {K : PySem.W.Frag} {mg : Str → Option Value} {base : Heap}
theorem DfM.ok {CX : CXT} {C : Addr} {m qual : Str} {st : Stmt} {N ps : List Str} {dvs : List V} {kws : List (Str × V)} {k : Nat} {sp : Sp} (D : DfM K C m qual st dvs kws) (S : FnScope N ps (defScope st)) (len : ∀ vs H Q E, sp vs H Q E → vs.length = ps.length)
    (hbody : ∀ (f : Addr) (cdv : Value) (A : Around) (outer : List Env) (s : Shared) (H : Hp) (vs : List V) (Q : VK) (E : XK), Room k (A.deeper (envOfC qual (defScope st) s.heap.objs.size f cdv)) → sp vs H Q E →
      ∃ t, PSs (cxOf CX P w K mg base N qual (defScope st) f cdv A outer s H E) (defBody st) t ∧ t { nx := fun _ H' => Q .non H', rt := Q } (start N vs) H) : ClM CX P w K mg base (k + 1) C m qual st ps dvs kws sp := by
  obtain ⟨f, fd, h1, h2⟩ := D.ex
  exact ⟨f, fd, h1, h2, h2.ok S len fun cdv A outer s H vs Q E hr h => hbody f cdv A outer s H vs Q E hr h⟩
theorem DfM.okP {C : Addr} {m qual : Str} {st : Stmt} {N ps : List Str} {dvs : List V} {kws : List (Str × V)} {k : Nat} {sp : Sp} (D : DfM K C m qual st dvs kws) (S : FnScope N ps (defScope st)) (len : ∀ vs H Q E, sp vs H Q E → vs.length = ps.length)
    (hbody : ∀ (f : Addr) (cdv : Value) (A : Around) (outer : List Env) (s : Shared) (H : Hp) (vs : List V) (Q : VK) (E : XK), Room k (A.deeper (envOfC qual (defScope st) s.heap.objs.size f cdv)) → sp vs H Q E →
      ∃ t, PSs (cxOf CX0 P w K mg base N qual (defScope st) f cdv A outer s H E).nox (defBody st) t ∧ t { nx := fun _ H' => Q .non H', rt := Q } (start N vs) H) : ClM CX0 P w K mg base (k + 1) C m qual st ps dvs kws sp :=
  D.ok S len fun f cdv A outer s H vs Q E hr h => by
    obtain ⟨t, a, b⟩ := hbody f cdv A outer s H vs Q E hr h
    exact ⟨t, a.nox, b⟩
end
section
variable {X : Cx} {CX : CXT} {k : Nat} {C : Addr} {m qual : Str} {st : Stmt} {ps : List Str} {sp : Sp} {E : XK} {o e : Expr} {es : List Expr} {ta : TE} {t : TA} {apos pos : Pos} {pl : Sem Bool}
theorem pe_m (M : ClM CX X.prog X.w X.K X.mg X.base k C m qual st ps [] [] sp) (c : Cls X.K C) (hr : Room k X.A) (hx : Passes CX X E)
    (h : ∀ (kV doc pm : Value) (an : Option Addr) (cdv ct : Value) (us : List Value), us.length = ps.length → bindArgs (PySem.W.fnOf m qual (defArgs st) (defBody st) (defScope st) .none kV doc pm an cdv ct) ⟨us, []⟩ = pure (ps.zip us))
    (he : PE X o ta) (ha : PA X (e :: es) t)
    (hst : starEach (e :: es) X.env = (false, eval e X.env) :: starEach es X.env := by rfl) (hpl : (backTo pos (starEach es X.env)).any (·.1) = false := by rfl)
    (ht : eval (.Call (.Attribute o m apos) (e :: es) [] pos) X.env = (do
      let ov ← eval o X.env
      standAt apos.atName
      let (f, first) ← holding [ov] (getMethod ov m pl)
      callWith pos f first (backTo pos (starEach (e :: es) X.env)) (backToKw pos (keywordEach [] X.env))) := by rfl) :
    PE X (.Call (.Attribute o m apos) (e :: es) [] pos) (tMeth C m sp [] E ta t) := by
  obtain ⟨f, fd, h1, h2, h4⟩ := M.ex
  exact pe_meth he c h1 h4 hr (h2.bindsN h) .nil hx ha hst hpl ht
theorem pe_m0 (M : ClM CX X.prog X.w X.K X.mg X.base k C m qual st ps [] [] sp) (c : Cls X.K C) (hr : Room k X.A) (hx : Passes CX X E)
    (h : ∀ (kV doc pm : Value) (an : Option Addr) (cdv ct : Value) (us : List Value), us.length = ps.length → bindArgs (PySem.W.fnOf m qual (defArgs st) (defBody st) (defScope st) .none kV doc pm an cdv ct) ⟨us, []⟩ = pure (ps.zip us))
    (he : PE X o ta)
    (ht : eval (.Call (.Attribute o m apos) [] [] pos) X.env = (do
      let ov ← eval o X.env
      standAt apos.atName
      let (f, first) ← holding [ov] (getMethod ov m pl)
      callWith pos f first (backTo pos (starEach [] X.env)) (backToKw pos (keywordEach [] X.env))) := by rfl) :
    PE X (.Call (.Attribute o m apos) [] [] pos) (tMeth C m sp [] E ta tNil) := by
  obtain ⟨f, fd, h1, h2, h4⟩ := M.ex
  exact pe_meth0 he c h1 h4 hr (h2.bindsN h) .nil hx ht
end
section
variable {K : PySem.W.Frag} {σ : L2.St} {H H1 : Hp} {Q : VK} {C a : Addr} {m f : Str} {sp : Sp} {dvs : List V} {E : XK} {ta tv : TE} {t : TA} {x y : V} {bs : List Int} {D : Ends}
def rMeth (C : Addr) (m : Str) (sp : Sp) (dvs : List V) (E : XK) (t : TA) (σ : L2.St) (x : V) (H1 : Hp) (Q : VK) : Prop := ∃ a dx fs, x = .ref a ∧ H1 a = some (.ins C dx fs) ∧ fs.lookup m = none ∧ t σ H1 fun vs H2 => sp (x :: (vs ++ dvs)) H2 Q E
instance : Step (tMeth C m sp dvs E ta t σ H Q) (ta σ H fun x H1 => rMeth C m sp dvs E t σ x H1 Q) := ⟨fun q => q⟩
theorem g_rmeth [h : RdC C H1 a bs] (hm : (m == ("_budgets" : Str)) = false) (q : t σ H1 fun vs H2 => sp (.ref a :: (vs ++ dvs)) H2 Q E) : rMeth C m sp dvs E t σ (.ref a) H1 Q := by
  obtain ⟨dx, p, h1, h2⟩ := h.ex
  refine ⟨a, dx, _, rfl, h1, ?_, q⟩
  rw [List.lookup_cons, hm]
  rfl
def rFld (K : PySem.W.Frag) (f : Str) (x : V) (H1 : Hp) (Q : VK) : Prop := ∃ a C dx fs v, x = .ref a ∧ H1 a = some (.ins C dx fs) ∧ Cls K C ∧ NoAttr K C f ∧ fs.lookup f = some v ∧ Q v H1
instance : Step (tFld K ta f σ H Q) (ta σ H fun x H1 => rFld K f x H1 Q) := ⟨fun q => q⟩
theorem g_fldB [h : RdC C H1 a bs] (c : Cls K C) (n : NoAttr K C "_budgets") (q : ∀ p, At H1 p (.tup (bs.map V.int)) → Q (.ref p) H1) : rFld K "_budgets" (.ref a) H1 Q := by
  obtain ⟨dx, p, h1, h2⟩ := h.ex
  exact ⟨a, C, dx, _, _, rfl, h1, c, n, rfl, q p ⟨h2⟩⟩
def rProp (C : Addr) (sp : Sp) (dvs : List V) (E : XK) (x : V) (H1 : Hp) (Q : VK) : Prop := ∃ a dx fs, x = .ref a ∧ H1 a = some (.ins C dx fs) ∧ sp (.ref a :: dvs) H1 Q E
instance : Step (tProp C sp dvs E ta σ H Q) (ta σ H fun x H1 => rProp C sp dvs E x H1 Q) := ⟨fun q => q⟩
instance [h : RdC C H1 a bs] : Step (rProp C sp dvs E (.ref a) H1 Q) (sp (.ref a :: dvs) H1 Q E) := ⟨fun q => by
  obtain ⟨dx, p, h1, h2⟩ := h.ex
  exact ⟨a, dx, _, rfl, h1, q⟩⟩
end
/-! ### a Round made -/
/-- __init__(self, *budgets): what it is given, at its own frame -/
def spIni (C : Addr) : Sp := fun vs H Q E => ∃ (a dx t : Addr) (bs : List Int), vs = [.ref a, .ref t] ∧ (H a = some (.ins C dx []) ∧ At H t (.tup (bs.map V.int)) ∧ 1 ≤ bs.length ∧ bs.length ≤ 12 ∧ ∀ b ∈ bs, 0 ≤ b) ∧
  ∀ H', (∀ b o, b ≠ a → H b = some o → H' b = some o) → (∀ b, H' b = none → H b = none) → H' a = some (.ins C dx [("_budgets", .ref t)]) → Q .non H'
structure DfI (K : PySem.W.Frag) (C : Addr) (qual : Str) (st : Stmt) : Prop where
  ex : ∃ (f : Addr) (oc doc pm cdv ct : Value) (an od : Option Addr) (osl : Array (Option Value)), Mk K C f ∧ K.lookup f = some ⟨oc, od, .func (PySem.W.fnOf "__init__" qual (defArgs st) (defBody st) (defScope st) .none .none doc pm an cdv ct), osl⟩ ∧ PySem.W.codeIn K cdv qual = true
structure ClI (CX : CXT) (P : Program) (w : World) (K : PySem.W.Frag) (mg : Str → Option Value) (base : Heap) (k : Nat) (C : Addr) : Prop where
  ex : ∃ f, Mk K C f ∧ FnR P w K mg base CX k f (fun vs H Q E => ∃ ws rest, vs = ws ++ rest ∧ ws.length = 1 ∧ rest.length ≤ sizeLine ∧ ∀ p, H p = Option.none → spIni C (ws ++ [V.ref p]) (upd H p (.tup rest)) Q E)
theorem DfI.ok {CX : CXT} {P : Program} {w : World} {K : PySem.W.Frag} {mg : Str → Option Value} {base : Heap} {C : Addr} {qual : Str} {st : Stmt} {N : List Str} {k : Nat} (D : DfI K C qual st) (S : FnScope N ["self", "budgets"] (defScope st)) (hCX : CXUp CX)
    (hb : ∀ (doc pm cdv ct : Value) (an : Option Addr) (us rest : List Value), us.length = 1 → bindArgs (PySem.W.fnOf "__init__" qual (defArgs st) (defBody st) (defScope st) .none .none doc pm an cdv ct) ⟨us ++ rest, []⟩ = (newTuple rest >>= fun t => pure ((["self"] : List Str).zip us ++ [(("budgets" : Str), t)])))
    (hbody : ∀ (f : Addr) (cdv : Value) (A : Around) (outer : List Env) (s : Shared) (H : Hp) (vs : List V) (Q : VK) (E : XK), Room k (A.deeper (envOfC qual (defScope st) s.heap.objs.size f cdv)) → spIni C vs H Q E →
      ∃ t, PSs (cxOf CX P w K mg base N qual (defScope st) f cdv A outer s H E) (defBody st) t ∧ t { nx := fun _ H' => Q .non H', rt := Q } (start N vs) H) : ClI CX P w K mg base (k + 1) C := by
  obtain ⟨f, oc, doc, pm, cdv, ct, an, od, osl, h1, lk, hcd⟩ := D.ex
  exact ⟨f, h1, fn_star (ps := ["self"]) (pv := "budgets") lk hcd S hCX (hb doc pm cdv ct an) fun A outer s H vs Q E hr h => hbody f cdv A outer s H vs Q E hr h⟩
section
variable {X : Cx} {CX : CXT} {k : Nat} {C : Addr} {x : Str} {e : Expr} {es : List Expr} {t : TA} {E : XK} {p pos : Pos}
def rMkR (C : Addr) (E : XK) (vs : List V) (H1 : Hp) (Q : VK) : Prop := ∀ x dx, H1 x = none → H1 dx = none → dx ≠ x → (∃ ws rest, V.ref x :: vs = ws ++ rest ∧ ws.length = 1 ∧ rest.length ≤ sizeLine ∧ ∀ p, (upd (upd H1 dx (.own x)) x (.ins C dx [])) p = Option.none → spIni C (ws ++ [V.ref p]) (upd (upd (upd H1 dx (.own x)) x (.ins C dx [])) p (.tup rest)) (fun v H2 => v = .non ∧ Q (.ref x) H2) E)
def tMkR (C : Addr) (E : XK) (t : TA) : TE := fun σ H Q => t σ H fun vs H1 => rMkR C E vs H1 Q
theorem pe_mkR (M : ClI CX X.prog X.w X.K X.mg X.base k C) (hr : Room (k + 1) X.A) (hg : Gl X x) (hm : X.mg x = some (.ref C)) (hx : Passes CX X E) (ha : PA X (e :: es) t) (hdb : (x == ("__debug__" : Str)) = false := by decide)
    (he : starEach (e :: es) X.env = (false, eval e X.env) :: starEach es X.env := by rfl) (hpl : (backTo pos (starEach es X.env)).any (·.1) = false := by rfl) :
    PE X (.Call (.Name x p) (e :: es) [] pos) (tMkR C E t) := by
  obtain ⟨f, h1, F⟩ := M.ex
  exact pe_makeR h1 F hr hg hm hx ha hdb he hpl
/-- C(*y) -/
def tMkS (K : PySem.W.Frag) (C : Addr) (E : XK) (te : TE) : TE := fun σ H Q => te σ H fun y H1 => ∃ a xs, y = V.ref a ∧ (SqT K H1 a xs ∨ SqL K H1 a xs) ∧ rMkR C E xs H1 Q
theorem pe_mkS {K : PySem.W.Frag} {te : TE} {sp_ : Pos} (hK : X.K = K) (M : ClI CX X.prog X.w X.K X.mg X.base k C) (hr : Room (k + 1) X.A) (hg : Gl X x) (hm : X.mg x = some (.ref C)) (hx : Passes CX X E) (he : PE X e te) (hd : (x == ("__debug__" : Str)) = false := by decide)
    (hst : starEach [.Starred e sp_] X.env = [(true, eval e X.env)] := by rfl) :
    PE X (.Call (.Name x p) [.Starred e sp_] [] pos) (tMkS K C E te) := by
  subst hK
  obtain ⟨f, h1, F⟩ := M.ex
  refine ⟨fun pins s σ H Q I h => ?_⟩
  refine wpAny_Call_Name_kw (ld_glob I hg hm ?_ hd)
  refine PySem.W.callWith_S (h₀ := X.base) I.ok.mod.kin h1.kp (thn (he.run pins s σ H _ I h) fun v s1 ⟨y, H1, I1, ry, a, xs, ey, hxs, q⟩ => ?_) hst
  subst ey
  obtain rfl : v = Value.ref a := ry
  exact star_any I1 hxs fun us s2 I2 rv => ⟨I2.kIn, run_makeR h1 F hr hx I2 rv q⟩
theorem g_mkR {bs : List Int} {H1 : Hp} {Q : VK} (h : 1 ≤ bs.length ∧ bs.length ≤ 12) (h0 : ∀ b ∈ bs, 0 ≤ b) (q : ∀ a H', Nw H1 a → Ex H1 H' → RdC C H' a bs → Q (.ref a) H') : rMkR C E (bs.map V.int) H1 Q := by
  intro x dx hx hdx hne
  refine ⟨[.ref x], bs.map V.int, rfl, rfl, by rw [List.length_map, sizeLine_eq]; omega, fun p hp => ?_⟩
  have hxp : x ≠ p := fun e => by rw [← e, upd_same] at hp; cases hp
  have hdp : dx ≠ p := fun e => by rw [← e, upd_ne hne, upd_same] at hp; cases hp
  have hp1 : H1 p = none := by rw [upd_ne hxp.symm, upd_ne hdp.symm] at hp; exact hp
  refine ⟨x, dx, p, bs, rfl, ⟨by rw [upd_ne hxp, upd_same], ⟨upd_same⟩, h.1, h.2, h0⟩, fun H' keep live hx' => ⟨rfl, q x H' ⟨hx⟩ ?_ ⟨dx, p, hx', ?_⟩⟩⟩
  · have K1 : ∀ b o, H1 b = some o → H' b = some o := fun b o hb => by
      have hbx : b ≠ x := ne_of_none hb hx
      refine keep b o hbx ?_
      rw [upd_ne (ne_of_none hb hp1), upd_ne hbx, upd_ne (ne_of_none hb hdx)]
      exact hb
    refine ⟨fun b o _ => K1 b o, fun b hb => ?_, fun b o _ => K1 b o⟩
    have h2 := live b hb
    by_cases z : b = p
    · rw [z]; exact hp1
    · rw [upd_ne z] at h2
      by_cases y : b = x
      · rw [y]; exact hx
      · rw [upd_ne y] at h2
        by_cases u : b = dx
        · rw [u]; exact hdx
        · rw [upd_ne u] at h2; exact h2
  · exact keep p _ hxp.symm upd_same
instance {σ : L2.St} {H : Hp} {Q : VK} : Step (tMkR C E t σ H Q) (t σ H fun vs H1 => rMkR C E vs H1 Q) := ⟨fun q => q⟩
def rMkS (K : PySem.W.Frag) (C : Addr) (E : XK) (y : V) (H1 : Hp) (Q : VK) : Prop := ∃ a xs, y = V.ref a ∧ (SqT K H1 a xs ∨ SqL K H1 a xs) ∧ rMkR C E xs H1 Q
instance {K : PySem.W.Frag} {σ : L2.St} {te : TE} {H : Hp} {Q : VK} : Step (tMkS K C E te σ H Q) (te σ H fun y H1 => rMkS K C E y H1 Q) := ⟨fun q => q⟩
instance {K : PySem.W.Frag} {a : Addr} {xs : List V} {H : Hp} {Q : VK} [h : StC K H a xs] : Step (rMkS K C E (.ref a) H Q) (rMkR C E xs H Q) := ⟨fun q => ⟨a, xs, rfl, .inl h.st, q⟩⟩
instance {K : PySem.W.Frag} {a : Addr} {xs : List V} {H : Hp} {Q : VK} [h : SqC K H a xs] : Step (rMkS K C E (.ref a) H Q) (rMkR C E xs H Q) := ⟨fun q => ⟨a, xs, rfl, .inr h.sq, q⟩⟩
end
/-! ### chains, loops over tuples -/
section
variable {σ : L2.St} {H H1 : Hp} {Q : VK} {r r' : R2} {ta tb tc : TE} {x y : V} {b : Bool}
def rChain (r r' : R2) (tc : TE) (σ : L2.St) (x y : V) (H2 : Hp) (Q : VK) : Prop := r x y H2 fun z H3 => ∃ k, z = .bl k ∧ (if k = true then tc σ H3 fun w' H4 => r' y w' H4 Q else Q (.bl false) H3)
instance : Step (tChain r r' ta tb tc σ H Q) (ta σ H fun x H1 => tb σ H1 fun y H2 => r x y H2 fun z H3 => ∃ k, z = .bl k ∧ (if k = true then tc σ H3 fun w' H4 => r' y w' H4 Q else Q (.bl false) H3)) := ⟨fun q => q⟩
theorem pi_tupK {X : Cx} {K : PySem.W.Frag} {tg l : Expr} {tl : TE} (h : X.K = K) (hl : PE X l tl) : PI X tg l (iTup K tl) := h ▸ pi_tup hl
end
/-! ### while -/
section
variable {σ : L2.St} {H : Hp} {D : Ends} {tt : TT} {tb : TS}
def rTurn (W : Nat → L2.St → Hp → Prop) (m : Nat) (tb : TS) (D : Ends) (σ : L2.St) (H1 : Hp) : Prop := ∃ N : L2.St → Hp → Prop, (∀ σ' H', N σ' H' → ∃ m', m' < m ∧ W m' σ' H') ∧ tb { D with nx := N, ct := N, bk := D.nx } σ H1
instance {W : Nat → L2.St → Hp → Prop} {m : Nat} : Step (rTurn W m tb D σ H) (tb { D with nx := fun σ' H' => ∃ m', m' < m ∧ W m' σ' H', ct := fun σ' H' => ∃ m', m' < m ∧ W m' σ' H', bk := D.nx } σ H) := ⟨fun q => ⟨_, fun _ _ z => z, q⟩⟩
/-- m falls at each turn -/
theorem whileX (bs : List Addr) (Pv : Nat → L2.St → Hp → Prop) (m : Nat) (h0 : Pv m σ H)
    (hs : ∀ (m : Nat) σ' H', Chg bs H H' → Pv m σ' H' → tt σ' H' fun b H1 => if b = true then rTurn (fun k σ2 H2 => LI bs H (Pv k) σ2 H2) m tb D σ' H1 else D.nx σ' H1) : tWhile tt tb D σ H :=
  ⟨fun k σ' H' => LI bs H (Pv k) σ' H', ⟨m, Chg.refl _ _, h0⟩, fun k σ' H' z => hs k σ' H' z.1 z.2⟩
end
/-! ### what the top says of the class Round -/
structure RdF (K : PySem.W.Frag) (mg : Str → Option Value) (C : Addr) : Prop where
  g : mg "Round" = some (.ref C)
  c : Cls K C
  nb : NoAttr K C "_budgets"
  most : CRead K C (.type "type") ∧ ∃ u : Value, CVal K C (.type "type") "MOST" (.int 12) u
  sf : PySem.W.selfFirst K C = true
  ty : PySem.W.findIn K (.ref C) "__class__" = some (some (.builtin "object.__class__")) ∧ PySem.W.specialIn K (.builtin "object.__class__") "__get__" = some (some (.builtin "getset_descriptor.__get__")) ∧ PySem.W.takesIn K (.builtin "object.__class__") = some true ∧ PySem.W.mroIn K C (.type "object") = some true
theorem rdf_mk {K : PySem.W.Frag} {h : Heap} {mg : Str → Option Value} {C : Addr} {t : Tok} (X : K.In h) (G : h.Ns mainGlobals mg) (a : PySem.W.nsIn K mainGlobals "Round" = some (some (.ref C))) (pg : PySem.W.plainGet K C Str.empty = true) (hd : PySem.W.hasDictIn K C = true) (po : PySem.W.plainOver K C = true)
    (sa : PySem.W.findIn K (.ref C) "__setattr__" = some (some (.builtin "object.__setattr__"))) (nb : PySem.W.findIn K (.ref C) "_budgets" = some none) (rd : PySem.W.readsIn K C (.type "type") = true) (ga : PySem.W.specialIn K (.ref C) "__getattribute__" = some (some (.builtin "type.__getattribute__")))
    (mo : PySem.W.findCls K (.ref C) (.type "type") "MOST" = some (.val (.int 12 t)))
    (sf : PySem.W.selfFirst K C = true) (t1 : PySem.W.findIn K (.ref C) "__class__" = some (some (.builtin "object.__class__"))) (t2 : PySem.W.specialIn K (.builtin "object.__class__") "__get__" = some (some (.builtin "getset_descriptor.__get__"))) (t3 : PySem.W.takesIn K (.builtin "object.__class__") = some true) (t4 : PySem.W.mroIn K C (.type "object") = some true) : RdF K mg C :=
  ⟨PySem.W.mg_of X G a, ⟨pg, hd, po, sa⟩, nb, ⟨⟨rd, ga⟩, _, mo, ⟨_, rfl⟩⟩, sf, t1, t2, t3, t4⟩
theorem dfm_mk {K : PySem.W.Frag} {C : Addr} {m qual : Str} {st : Stmt} {f : Addr} {oc dV kV : Value} {od an : Option Addr} {osl : Array (Option Value)} {doc pm cdv ct : Value} {dvs : List V} {kws : List (Str × V)}
    (a : PySem.W.findIn K (.ref C) m = some (some (.ref f))) (b : PySem.W.isFn K (.ref f) = true) (k : PySem.W.keepIn K (.ref f) = true) (l : K.lookup f = some ⟨oc, od, .func (PySem.W.fnOf m qual (defArgs st) (defBody st) (defScope st) dV kV doc pm an cdv ct), osl⟩)
    (c : PySem.W.codeIn K cdv qual = true) (d : DflV K dV dvs) (q : KwdV K kV kws) : DfM K C m qual st dvs kws :=
  ⟨f, _, ⟨a, b, k⟩, ⟨⟨oc, od, dV, kV, doc, pm, an, cdv, ct, osl, rfl, l, c, d, q⟩, k⟩⟩
theorem dfi_mk {K : PySem.W.Frag} {C : Addr} {qual : Str} {st : Stmt} {f : Addr} {oc : Value} {od an : Option Addr} {osl : Array (Option Value)} {doc pm cdv ct : Value}
    (mk : PySem.W.makesIn K C = true) (a : PySem.W.findIn K (.ref C) "__init__" = some (some (.ref f))) (b : PySem.W.isFn K (.ref f) = true) (k : PySem.W.keepIn K (.ref C) = true) (l : K.lookup f = some ⟨oc, od, .func (PySem.W.fnOf "__init__" qual (defArgs st) (defBody st) (defScope st) .none .none doc pm an cdv ct), osl⟩)
    (c : PySem.W.codeIn K cdv qual = true) : DfI K C qual st := ⟨f, oc, doc, pm, cdv, ct, an, od, osl, ⟨mk, a, b, k⟩, l, c⟩
/-! properties -/
structure DfP (K : PySem.W.Frag) (C : Addr) (m qual : Str) (st : Stmt) : Prop where
  ex : ∃ (p g : Addr) (fd : FuncData), PropOf K C m p g ∧ FunD K m qual (defArgs st) (defBody st) (defScope st) [] [] g fd
structure ClP (CX : CXT) (P : Program) (w : World) (K : PySem.W.Frag) (mg : Str → Option Value) (base : Heap) (k : Nat) (C : Addr) (m qual : Str) (st : Stmt) (sp : Sp) : Prop where
  ex : ∃ (p g : Addr) (fd : FuncData), PropOf K C m p g ∧ FunD K m qual (defArgs st) (defBody st) (defScope st) [] [] g fd ∧ FnOk P w K mg base CX k g fd ["self"] sp
theorem dfp_mk {K : PySem.W.Frag} {C : Addr} {m qual : Str} {st : Stmt} {p g : Addr} {rest : List Value} {oc : Value} {od an : Option Addr} {osl : Array (Option Value)} {doc pm cdv ct : Value}
    (a : PySem.W.findIn K (.ref C) m = some (some (.ref p))) (b : PySem.W.specialIn K (.ref p) "__get__" = some (some (.builtin "property.__get__"))) (t : PySem.W.takesIn K (.ref p) = some true) (r : PySem.W.recIn K p "property" = some (.ref g :: rest))
    (l : K.lookup g = some ⟨oc, od, .func (PySem.W.fnOf m qual (defArgs st) (defBody st) (defScope st) .none .none doc pm an cdv ct), osl⟩) (c : PySem.W.codeIn K cdv qual = true) (k : PySem.W.keepIn K (.ref g) = true) : DfP K C m qual st :=
  ⟨p, g, _, ⟨a, b, t, rest, r⟩, ⟨⟨oc, od, .none, .none, doc, pm, an, cdv, ct, osl, rfl, l, c, .inl ⟨rfl, rfl⟩, .inl rfl⟩, k⟩⟩
theorem DfP.okP {P : Program} {w : World} {K : PySem.W.Frag} {mg : Str → Option Value} {base : Heap} {C : Addr} {m qual : Str} {st : Stmt} {N : List Str} {k : Nat} {sp : Sp} (D : DfP K C m qual st) (S : FnScope N ["self"] (defScope st)) (len : ∀ vs H Q E, sp vs H Q E → vs.length = 1)
    (hbody : ∀ (f : Addr) (cdv : Value) (A : Around) (outer : List Env) (s : Shared) (H : Hp) (vs : List V) (Q : VK) (E : XK), Room k (A.deeper (envOfC qual (defScope st) s.heap.objs.size f cdv)) → sp vs H Q E →
      ∃ t, PSs (cxOf CX0 P w K mg base N qual (defScope st) f cdv A outer s H E).nox (defBody st) t ∧ t { nx := fun _ H' => Q .non H', rt := Q } (start N vs) H) : ClP CX0 P w K mg base (k + 1) C m qual st sp := by
  obtain ⟨p, g, fd, h1, h2⟩ := D.ex
  exact ⟨p, g, fd, h1, h2, h2.ok S len fun cdv A outer s H vs Q E hr h => by
    obtain ⟨t, a, b⟩ := hbody g cdv A outer s H vs Q E hr h
    exact ⟨t, a.nox, b⟩⟩
theorem pe_p {X : Cx} {CX : CXT} {k : Nat} {C : Addr} {m qual : Str} {st : Stmt} {sp : Sp} {E : XK} {e : Expr} {pos : Pos} {ta : TE} (M : ClP CX X.prog X.w X.K X.mg X.base k C m qual st sp) (c : Cls X.K C) (hr : Room (k + 1) X.A) (hx : Passes CX X.nox E)
    (h : ∀ (kV doc pm : Value) (an : Option Addr) (cdv ct : Value) (us : List Value), us.length = (["self"] : List Str).length → bindArgs (PySem.W.fnOf m qual (defArgs st) (defBody st) (defScope st) .none kV doc pm an cdv ct) ⟨us, []⟩ = pure ((["self"] : List Str).zip us))
    (he : PE X e ta) (hab : attributeBase e m X.env (eval e X.env) = eval e X.env := by rfl) : PE X (.Attribute e m pos) (tProp C sp [] E ta) := by
  obtain ⟨p, g, fd, h1, h2, h4⟩ := M.ex
  exact pe_prop he c h1 h4 hr (h2.bindsN h) .nil hx hab
/-! the class's constant -/
section
variable {K : PySem.W.Frag} {σ : L2.St} {H : Hp} {Q : VK} {ta : TE} {f : Str} {C : Addr} {mg : Str → Option Value}
def rCVal (K : PySem.W.Frag) (f : Str) (x : V) (H1 : Hp) (Q : VK) : Prop := ∃ C mc v u, x = .ref C ∧ CRead K C mc ∧ CVal K C mc f v u ∧ Q v H1
instance : Step (tCVal K ta f σ H Q) (ta σ H fun x H1 => rCVal K f x H1 Q) := ⟨fun q => q⟩
theorem g_most (R : RdF K mg C) (q : Q (.int 12) H) : rCVal K "MOST" (.ref C) H Q := by
  obtain ⟨h1, u, h2⟩ := R.most
  exact ⟨C, _, _, u, rfl, h1, h2, q⟩
/-- self._budgets = the tuple at t -/
def rFldS (K : PySem.W.Frag) (f : Str) (D : Ends) (σ : L2.St) (y : V) (x : V) (H2 : Hp) : Prop := ∃ a C dx fs, x = .ref a ∧ H2 a = some (.ins C dx fs) ∧ Cls K C ∧ NoAttr K C f ∧ fs.length < 1000 ∧ D.nx σ (upd H2 a (.ins C dx (putF f y fs)))
instance {tv : TE} {D : Ends} : Step (sFld K ta tv f D σ H) (tv σ H fun y H1 => ta σ H1 fun x H2 => rFldS K f D σ y x H2) := ⟨fun q => q⟩
theorem g_fldS {a dx : Addr} {y : V} {D : Ends} (h : H a = some (.ins C dx [])) (R : RdF K mg C) (q : D.nx σ (upd H a (.ins C dx [("_budgets", y)]))) : rFldS K "_budgets" D σ y (.ref a) H := ⟨a, C, dx, [], rfl, h, R.c, R.nb, by decide, q⟩
end
/-! ### own operators of two of one class -/
section
variable {X : Cx} {CX : CXT} {k : Nat} {C : Addr} {m qual : Str} {st : Stmt} {ps : List Str} {sp : Sp} {E : XK}
/-- own two-place operator: the answer is an object -/
def rOwn2 (C : Addr) (sp : Sp) (E : XK) : R2 := fun x y H Q => ∃ a b dx dy fs gs, x = .ref a ∧ y = .ref b ∧ H a = some (.ins C dx fs) ∧ H b = some (.ins C dy gs) ∧ sp [.ref a, .ref b] H (fun v H' => (∃ q, v = .ref q) ∧ Q v H') E
/-- own ==: the answer is a bool -/
def rOwnEq (C : Addr) (sp : Sp) (E : XK) : R2 := fun x y H Q => ∃ a b dx dy fs gs, x = .ref a ∧ y = .ref b ∧ H a = some (.ins C dx fs) ∧ H b = some (.ins C dy gs) ∧ sp [.ref a, .ref b] H (fun v H' => (∃ q, v = .bl q) ∧ Q v H') E
theorem opOwnAdd (M : ClM CX X.prog X.w X.K X.mg X.base k C "__add__" qual st ps [] [] sp) (c : PySem.W.selfFirst X.K C = true) (hr : Room k X.A) (hx : Passes CX X E)
    (h : ∀ (kV doc pm : Value) (an : Option Addr) (cdv ct : Value) (us : List Value), us.length = ps.length → bindArgs (PySem.W.fnOf "__add__" qual (defArgs st) (defBody st) (defScope st) .none kV doc pm an cdv ct) ⟨us, []⟩ = pure (ps.zip us)) :
    OpR X (binaryOp .Add) (rOwn2 C sp E) := by
  obtain ⟨f, fd, h1, h2, h4⟩ := M.ex
  intro pins s σ H x y v u Q I rx ry d
  obtain ⟨a, b, dx, dy, fs, gs, rfl, rfl, ha, hb', hsp⟩ := d
  cases rx
  cases ry
  obtain ⟨mA, J, _⟩ := ins_get I.hok ha
  obtain ⟨mB, J', _⟩ := ins_get I.hok hb'
  obtain ⟨od, J, _⟩ := J.look
  obtain ⟨od', J', _⟩ := J'.look
  obtain ⟨m', hF⟩ := I.fr
  refine PySem.W.binop_K (op := .Add) hF I.ok.mod.kin J J'.type c h1.at_ h1.fn ?_
  refine wpAny_mono (run_fn (us := [.ref a, .ref b]) (vs := [.ref a, .ref b]) h4 hr (h2.bindsN h) .nil hx I (.cons rfl (.cons rfl .nil)) hsp) (fun r s' z => ?_) fun _ _ e => e
  obtain ⟨z, H', I', rz, ⟨q, ez⟩, hq⟩ := z
  subst ez
  cases rz
  exact ⟨.ref q, H', I', rfl, hq⟩
theorem opOwnEq (M : ClM CX X.prog X.w X.K X.mg X.base k C "__eq__" qual st ps [] [] sp) (hr : Room k X.A) (hx : Passes CX X E)
    (h : ∀ (kV doc pm : Value) (an : Option Addr) (cdv ct : Value) (us : List Value), us.length = ps.length → bindArgs (PySem.W.fnOf "__eq__" qual (defArgs st) (defBody st) (defScope st) .none kV doc pm an cdv ct) ⟨us, []⟩ = pure (ps.zip us)) :
    OpR X (compareOp .Eq) (rOwnEq C sp E) := by
  obtain ⟨f, fd, h1, h2, h4⟩ := M.ex
  intro pins s σ H x y v u Q I rx ry d
  obtain ⟨a, b, dx, dy, fs, gs, rfl, rfl, ha, hb', hsp⟩ := d
  cases rx
  cases ry
  obtain ⟨mA, J, _⟩ := ins_get I.hok ha
  obtain ⟨mB, J', _⟩ := ins_get I.hok hb'
  obtain ⟨od, J, _⟩ := J.look
  obtain ⟨od', J', _⟩ := J'.look
  obtain ⟨m', hF⟩ := I.fr
  show wpAny (model X.prog X.w) X.A (richCompare .Eq (.ref a) (.ref b)) (EP X pins σ Q) X.xe s
  refine PySem.W.cmp_K (op := .Eq) (tb := .ref C) hr.units0 hF I.ok.mod.kin J J'.type (by simp [PySem.W.notFirst]) h1.at_ h1.fn ?_
  refine wpAny_mono (run_fn (us := [.ref a, .ref b]) (vs := [.ref a, .ref b]) h4 hr (h2.bindsN h) .nil hx I (.cons rfl (.cons rfl .nil)) hsp) (fun r s' z => ?_) fun _ _ e => e
  obtain ⟨z, H', I', rz, ⟨q, ez⟩, hq⟩ := z
  subst ez
  cases rz
  exact ⟨.bl q, H', I', rfl, hq⟩
theorem opOr2 {f : Value → Value → Sem Value} {r r' : R2} (a : OpR X f r) (b : OpR X f r') : OpR X f (fun x y H Q => r x y H Q ∨ r' x y H Q) := fun pins s σ H x y v u Q I rx ry d => d.elim (fun d => a pins s σ H x y v u Q I rx ry d) fun d => b pins s σ H x y v u Q I rx ry d
/-- own len -/
def rOwnLen (C : Addr) (sp : Sp) (E : XK) : List V → Hp → VK → Prop := fun vs H Q => ∃ a dx fs, vs = [.ref a] ∧ H a = some (.ins C dx fs) ∧ sp [.ref a] H (fun v H' => (∃ n : Nat, v = .int n ∧ n < 2 ^ 60) ∧ Q v H') E
theorem callOwnLen (M : ClM CX X.prog X.w X.K X.mg X.base k C "__len__" qual st ps [] [] sp) (hr : Room (k + 1) X.A) (hx : Passes CX X E)
    (h : ∀ (kV doc pm : Value) (an : Option Addr) (cdv ct : Value) (us : List Value), us.length = ps.length → bindArgs (PySem.W.fnOf "__len__" qual (defArgs st) (defBody st) (defScope st) .none kV doc pm an cdv ct) ⟨us, []⟩ = pure (ps.zip us)) :
    CallR X (.builtin "len") (rOwnLen C sp E) := by
  obtain ⟨f, fd, h1, h2, h4⟩ := M.ex
  intro pins s σ H xs us Q I r d
  obtain ⟨a, dx, fs, rfl, ha, hsp⟩ := d
  rw [Vals.ref1 r]
  obtain ⟨mA, J, _⟩ := ins_get I.hok ha
  obtain ⟨od, J, _⟩ := J.look
  obtain ⟨m', hF⟩ := I.fr
  refine PySem.W.len_K hF I.ok.mod.kin J h1.at_ h1.fn ?_
  have hb := h2.bindsN h
  have hl := h4.len _ _ _ _ hsp
  have r2 : Vals [V.ref a] [Value.ref a] := .cons rfl .nil
  have e0 : Env0 X.prog X.w X.K X.mg X.base X.A.in1 X.stack s H := by
    have e := I.env0
    exact ⟨e.frames, e.mod, e.bs, e.bsz, e.funs, e.frf, e.hok, e.bare⟩
  refine wpAny_call (codeAny_mono (h4.run X.A.in1 X.stack s H ⟨[.ref a], []⟩ [.ref a] [.ref a] _ E hr.in1 e0 (by
    have := hb s [.ref a] I.kIn (by simpa using hl)
    simpa using this) r2 hsp) fun r s' hq => ?_)
  cases r with
  | error e => exact hx pins σ H s e s' I hq
  | ok fl =>
    cases fl with
    | ret w =>
      obtain ⟨z, H', I', rz, ⟨n, ez, hn⟩, hq2⟩ := I.after hq
      subst ez
      obtain ⟨t, rfl⟩ : ∃ t, w = .int (n : Int) t := rz
      exact ⟨⟨by omega, by omega⟩, .int n, H', I'.tok _, ⟨_, rfl⟩, hq2⟩
    | next => exact False.elim hq
    | brk => exact False.elim hq
    | cont => exact False.elim hq
end
section
variable {K : PySem.W.Frag} {H : Hp} {Q : VK} {a b C : Addr} {bs cs : List Int} {sp : Sp} {E : XK} {mg : Str → Option Value}
instance [h1 : RdC C H a bs] [h2 : RdC C H b cs] : Step (rOwn2 C sp E (.ref a) (.ref b) H Q) (sp [.ref a, .ref b] H (fun v H' => (∃ q, v = .ref q) ∧ Q v H') E) := ⟨fun q => by
  obtain ⟨dx, p, h1, _⟩ := h1.ex
  obtain ⟨dy, p', h2, _⟩ := h2.ex
  exact ⟨a, b, dx, dy, _, _, rfl, rfl, h1, h2, q⟩⟩
instance [h1 : RdC C H a bs] [h2 : RdC C H b cs] : Step (rOwnEq C sp E (.ref a) (.ref b) H Q) (sp [.ref a, .ref b] H (fun v H' => (∃ q, v = .bl q) ∧ Q v H') E) := ⟨fun q => by
  obtain ⟨dx, p, h1, _⟩ := h1.ex
  obtain ⟨dy, p', h2, _⟩ := h2.ex
  exact ⟨a, b, dx, dy, _, _, rfl, rfl, h1, h2, q⟩⟩
instance {p : Addr} : Step ((∃ q, V.ref p = V.ref q) ∧ Q (.ref p) H) (Q (.ref p) H) := ⟨fun q => ⟨⟨p, rfl⟩, q⟩⟩
instance {p : Bool} : Step ((∃ q, V.bl p = V.bl q) ∧ Q (.bl p) H) (Q (.bl p) H) := ⟨fun q => ⟨⟨p, rfl⟩, q⟩⟩
/-- isinstance(a, Round) -/
theorem g_isR [h : RdC C H a bs] (R : RdF K mg C) (q : Q (.bl true) H) : rIsi K [.ref a, .ref C] H Q := by
  obtain ⟨dx, p, h1, _⟩ := h.ex
  refine g_isi (.own C) (.base (.ins h1 R.c R.ty.1 R.ty.2.1 R.ty.2.2.1 R.ty.2.2.2)) ?_ q
  unfold PySem.W.kitOne
  rw [if_pos (beq_self_eq_true _)]
end
/-! ### a staticmethod -/
structure SMet (K : PySem.W.Frag) (C : Addr) (m : Str) (p f : Addr) : Prop where
  at_ : PySem.W.findCls K (.ref C) (.type "type") m = some (.get (.builtin "staticmethod.__get__") (.ref p) .none (.ref C))
  rc : ∃ rest, PySem.W.recIn K p "staticmethod" = some (.ref f :: rest)
  kp : PySem.W.keepIn K (.ref f) = true
structure DfT (K : PySem.W.Frag) (C : Addr) (m qual : Str) (st : Stmt) : Prop where
  ex : ∃ (p f : Addr) (fd : FuncData), SMet K C m p f ∧ FunD K m qual (defArgs st) (defBody st) (defScope st) [] [] f fd
structure ClT (CX : CXT) (P : Program) (w : World) (K : PySem.W.Frag) (mg : Str → Option Value) (base : Heap) (k : Nat) (C : Addr) (m qual : Str) (st : Stmt) (ps : List Str) (sp : Sp) : Prop where
  ex : ∃ (p f : Addr) (fd : FuncData), SMet K C m p f ∧ FunD K m qual (defArgs st) (defBody st) (defScope st) [] [] f fd ∧ FnOk P w K mg base CX k f fd ps sp
theorem dft_mk {K : PySem.W.Frag} {C : Addr} {m qual : Str} {st : Stmt} {p f : Addr} {rest : List Value} {oc : Value} {od an : Option Addr} {osl : Array (Option Value)} {doc pm cdv ct : Value}
    (a : PySem.W.findCls K (.ref C) (.type "type") m = some (.get (.builtin "staticmethod.__get__") (.ref p) .none (.ref C))) (r : PySem.W.recIn K p "staticmethod" = some (.ref f :: rest))
    (l : K.lookup f = some ⟨oc, od, .func (PySem.W.fnOf m qual (defArgs st) (defBody st) (defScope st) .none .none doc pm an cdv ct), osl⟩) (c : PySem.W.codeIn K cdv qual = true) (k : PySem.W.keepIn K (.ref f) = true) : DfT K C m qual st :=
  ⟨p, f, _, ⟨a, ⟨rest, r⟩, k⟩, ⟨⟨oc, od, .none, .none, doc, pm, an, cdv, ct, osl, rfl, l, c, .inl ⟨rfl, rfl⟩, .inl rfl⟩, k⟩⟩
theorem DfT.okP {P : Program} {w : World} {K : PySem.W.Frag} {mg : Str → Option Value} {base : Heap} {C : Addr} {m qual : Str} {st : Stmt} {N ps : List Str} {k : Nat} {sp : Sp} (D : DfT K C m qual st) (S : FnScope N ps (defScope st)) (len : ∀ vs H Q E, sp vs H Q E → vs.length = ps.length)
    (hbody : ∀ (f : Addr) (cdv : Value) (A : Around) (outer : List Env) (s : Shared) (H : Hp) (vs : List V) (Q : VK) (E : XK), Room k (A.deeper (envOfC qual (defScope st) s.heap.objs.size f cdv)) → sp vs H Q E →
      ∃ t, PSs (cxOf CX0 P w K mg base N qual (defScope st) f cdv A outer s H E).nox (defBody st) t ∧ t { nx := fun _ H' => Q .non H', rt := Q } (start N vs) H) : ClT CX0 P w K mg base (k + 1) C m qual st ps sp := by
  obtain ⟨p, f, fd, h1, h2⟩ := D.ex
  exact ⟨p, f, fd, h1, h2, h2.ok S len fun cdv A outer s H vs Q E hr h => by
    obtain ⟨t, a, b⟩ := hbody f cdv A outer s H vs Q E hr h
    exact ⟨t, a.nox, b⟩⟩
section
variable {X : Cx} {CX : CXT} {k : Nat} {C : Addr} {m qual : Str} {st : Stmt} {ps : List Str} {sp : Sp} {E : XK} {o e : Expr} {es : List Expr} {ta : TE} {t : TA} {apos pos : Pos} {pl : Sem Bool}
def tSm (C : Addr) (sp : Sp) (E : XK) (ta : TE) (t : TA) : TE := fun σ H Q => ta σ H fun x H1 => x = .ref C ∧ t σ H1 fun vs H2 => sp vs H2 Q E
theorem pe_sm (M : ClT CX X.prog X.w X.K X.mg X.base k C m qual st ps sp) (r : CRead X.K C (.type "type")) (hr : Room k X.A) (hx : Passes CX X E)
    (h : ∀ (kV doc pm : Value) (an : Option Addr) (cdv ct : Value) (us : List Value), us.length = ps.length → bindArgs (PySem.W.fnOf m qual (defArgs st) (defBody st) (defScope st) .none kV doc pm an cdv ct) ⟨us, []⟩ = pure (ps.zip us))
    (he : PE X o ta) (ha : PA X (e :: es) t)
    (hst : starEach (e :: es) X.env = (false, eval e X.env) :: starEach es X.env := by rfl) (hpl : (backTo pos (starEach es X.env)).any (·.1) = false := by rfl)
    (ht : eval (.Call (.Attribute o m apos) (e :: es) [] pos) X.env = (do
      let ov ← eval o X.env
      standAt apos.atName
      let (f, first) ← holding [ov] (getMethod ov m pl)
      callWith pos f first (backTo pos (starEach (e :: es) X.env)) (backToKw pos (keywordEach [] X.env))) := by rfl) :
    PE X (.Call (.Attribute o m apos) (e :: es) [] pos) (tSm C sp E ta t) := by
  obtain ⟨p, f, fd, c, h2, F⟩ := M.ex
  refine ⟨fun pins s σ H Q I h3 => ?_⟩
  refine PySem.W.methodCall_KW (pl := pl) (thn (he.run pins s σ H _ I h3) fun u s1 ⟨x, H1, I1, rx, ex, q⟩ => ?_) ht
  subst ex
  obtain rfl : u = Value.ref C := rx
  obtain ⟨rest, hp⟩ := c.rc
  refine PySem.W.method_cls I1.kIn r.ga (PySem.W.cls_bind I1.kIn r.rd c.at_ (wpAny_call (PySem.W.sm_get (s := { s1 with toks := s1.toks + 1 }) I1.kIn hp (PySem.W.handed_on rfl ?_))))
  refine PySem.W.callWith_K (first := []) (h₀ := X.base) I.ok.mod.kin c.kp (thn (ha.run pos pins _ σ H1 _ (I1.tok _) q) fun us s2 ⟨vs, H2, I2, rv, q2⟩ => ⟨I2.kIn, ?_⟩) hst hpl
  exact run_fn F hr (h2.bindsN h) .nil hx I2 rv (by rw [List.append_nil]; exact q2)
instance {σ : L2.St} {H : Hp} {Q : VK} : Step (tSm C sp E ta t σ H Q) (ta σ H fun x H1 => x = .ref C ∧ t σ H1 fun vs H2 => sp vs H2 Q E) := ⟨fun q => q⟩
instance {σ : L2.St} {H : Hp} {Q : VK} : Step (V.ref C = V.ref C ∧ t σ H fun vs H2 => sp vs H2 Q E) (t σ H fun vs H2 => sp vs H2 Q E) := ⟨fun q => ⟨rfl, q⟩⟩
end
end Gx

set_option linter.all false
set_option maxRecDepth 100000
set_option maxHeartbeats 2000000
/-! Gs: reversed lists in comprehensions, isqrt, lists of bools compared, the greatest of a list. -/
namespace Gx
open PySem PySem.Spec PyProof.Rows L2 _root_.ClX StX
/-! ### isqrt -/
section
variable {X : Cx} {K : PySem.W.Frag} {H : Hp} {Q : VK}
def rIsqrt : List V → Hp → VK → Prop := fun vs H Q => ∃ a : Int, vs = [.int a] ∧ 0 ≤ a ∧ a < 2 ^ 64 ∧ ∀ r : Int, 0 ≤ r → r * r ≤ a → a < (r + 1) * (r + 1) → Q (.int r) H
theorem callIsqrt : CallR X (.builtin "math.isqrt") rIsqrt := by
  intro pins s σ H vs us Q I r h
  obtain ⟨a, rfl, h0, h1, q⟩ := h
  obtain ⟨u, rfl, t, rfl⟩ := vals1 r
  obtain ⟨h2, h3⟩ := Float64.isqrt_spec a.toNat
  refine PySem.W.mg_isqrt h0 h1 ⟨.int _, H, I.tok _, ⟨_, rfl⟩, q _ (by omega) ?_ ?_⟩
  · have : ((Float64.isqrt a.toNat * Float64.isqrt a.toNat : Nat) : Int) ≤ (a.toNat : Int) := by exact_mod_cast h2
    rw [Int.natCast_mul] at this
    omega
  · have : (a.toNat : Int) < (((Float64.isqrt a.toNat + 1) * (Float64.isqrt a.toNat + 1) : Nat) : Int) := by exact_mod_cast h3
    rw [Int.natCast_mul] at this
    have e : ((Float64.isqrt a.toNat + 1 : Nat) : Int) = (Float64.isqrt a.toNat : Int) + 1 := rfl
    rw [e] at this
    omega
theorem g_isqrt {a : Int} (h : 0 ≤ a ∧ a < 2 ^ 64) (q : ∀ r : Int, 0 ≤ r → r * r ≤ a → a < (r + 1) * (r + 1) → Q (.int r) H) : rIsqrt [.int a] H Q := ⟨a, rfl, h.1, h.2, q⟩
end
/-! ### reversed -/
section
variable {K : PySem.W.Frag} {σ τ : L2.St} {H : Hp} {Q : VK} {ta : TA} {te : TE} {tt : TT} {g : TG}
theorem fd_rev {a : Addr} {xs : List V} : Feeds (Itv K a xs.length) xs.length (fun H => SqL K H a xs) (fun i H x H' => H' = H ∧ xs.reverse[i]? = some x) := by
  refine ⟨fun i H s h => ⟨h, xs, xs[xs.length - 1 - i], s, List.getElem?_eq_getElem (by omega)⟩, fun i H x H' s h y => ⟨y.1, ?_⟩, fun H s => Nat.le_refl _⟩
  rw [List.getElem?_reverse h]
  exact y.2 xs s
def rLcV (K : PySem.W.Frag) (us : List V) (g : TG) (tt : TT) (te : TE) (vs : List Nat) (σ : L2.St) (H : Hp) (Q : VK) : Prop := tLc (iRev K fun _ H R => R us H) g tt te vs σ H Q
instance {vs : List Nat} : Step (tLc (iRev K ta) g tt te vs σ H Q) (ta σ H fun us H1 => rLcV K us g tt te vs σ H1 Q) := ⟨fun q => q⟩
theorem lcV_F {vs : List Nat} {a : Addr} {xs : List V} (F : Nat → List V) [hx : SqC K H a xs] [hw : Wipe σ vs τ] (hF : F 0 = []) (hz : ∀ i, i < xs.length → (F i).length < 100000)
    (hs : ∀ D (i : Nat) x H', xs.reverse[i]? = some x → Nw H D → Ex H H' → At H' D (.lst (F i)) → (F i).length < 100000 → g x τ H' fun σ2 H2 => wipe σ2 vs = τ ∧ tt σ2 H2 fun b H3 =>
      if b = true then te σ2 H3 (rApp D (rW D fun ac H5 => Ex H H5 ∧ ac = F (i + 1))) else rW D (fun ac H5 => Ex H H5 ∧ ac = F (i + 1)) H3)
    (hd : ∀ D H', Nw H D → Ex H H' → At H' D (.lst (F xs.length)) → Q (.ref D) H') : rLcV K [.ref a] g tt te vs σ H Q :=
  ⟨a, xs, rfl, hx.sq, lc_F fd_rev F hF (fun _ e => e.l hx.sq) hz (fun D i H' x H'' hi hD e hp z y => by
    obtain ⟨rfl, y⟩ := y
    exact hs D i x _ y hD e hp z) hd⟩
theorem pi_revK {X : Cx} {K : PySem.W.Frag} {tg : Expr} {e : Expr} {ta : TA} {p pos : Pos} (h : X.K = K) (hg : Gl X "reversed") (hm : X.mg "reversed" = none) (ha : PA X [e] ta) (hs : starEach [e] X.env = [(false, eval e X.env)] := by rfl) : PI X tg (.Call (.Name "reversed" p) [e] [] pos) (iRev K ta) := h ▸ pi_reversed hg hm ha hs
/-- a comprehension that keeps some and turns them: what comes out -/
def fm (p : Int → Bool) (f : Int → Int) (ns : List Int) : List Int := (ns.filter p).map f
theorem fm_take {p : Int → Bool} {f : Int → Int} {ns : List Int} {i : Nat} {x : Int} (h : ns[i]? = some x) : fm p f (ns.take (i + 1)) = if p x = true then fm p f (ns.take i) ++ [f x] else fm p f (ns.take i) := by
  unfold fm
  rw [List.take_succ, h, List.filter_append, List.map_append]
  by_cases z : p x = true
  · simp [z]
  · simp [z]
theorem fm_len {p : Int → Bool} {f : Int → Int} {ns : List Int} {i : Nat} : (fm p f (ns.take i)).length ≤ ns.length := by
  unfold fm
  rw [List.length_map]
  exact Nat.le_trans (List.length_filter_le ..) (by rw [List.length_take]; omega)
end
/-! ### the greatest of a list -/
def IsMax (ns : List Int) (m : Int) : Prop := m ∈ ns ∧ ∀ y ∈ ns, y ≤ m
theorem g_max {K : PySem.W.Frag} {H : Hp} {Q : VK} {p : Addr} {ns : List Int} [h : SqC K H p (ns.map V.int)] (h0 : 0 < ns.length) (q : ∀ m, IsMax ns m → Q (.int m) H) : rMax K [.ref p] H Q := ⟨p, ns, rfl, h.sq, h0, fun m h1 h2 => q m ⟨h1, h2⟩⟩
/-! ### calls with keywords where places have defaults -/
section
variable {X : Cx} {CX : CXT} {k n : Nat} {ps ks : List Str} {sp : Sp} {E : L2.St → XK} {x : Str} {p pos : Pos} {e : Expr} {es : List Expr} {kw : List Keyword} {t tk : TA} {st : Stmt} {dvs : List V} {kws : List (Str × V)}
theorem pe_gkd (C : ClG CX X.prog X.w X.K X.mg X.base k x st ps dvs kws sp) (hr : Room k X.A) (hx : ∀ σ, PassesAt CX X σ (E σ)) (n : Nat) (ks : List Str) (ms : List (Str × V)) (g : {α : Type} → List α → List α → List α → List α → List α) (hd : dvs ≠ []) (hk : kws ≠ []) (hms : ∀ q ∈ ms, q ∈ kws)
    (hrel : ∀ {vs ds mz zs : List V} {us its mv ws : List Value}, Vals vs us → Vals ds its → Vals mz mv → Vals zs ws → Vals (g vs ds mz zs) (g us its mv ws))
    (h : ∀ (T D : Addr) (doc pm : Value) (an : Option Addr) (cdv ct : Value) (us its mv ws : List Value), us.length = n → its.length = dvs.length → mv.length = ms.length → ws.length = ks.length →
      ∃ k, bindArgs (PySem.W.fnOf x x (defArgs st) (defBody st) (defScope st) (.ref T) (.ref D) doc pm an cdv ct) ⟨us, ks.zip ws⟩ = seqItems? (.ref T) >>= k ∧ KwChain D ((ms.map (·.1)).zip mv) (k (some its.toArray)) (ps.zip (g us its mv ws)))
    (ha : PA X (e :: es) t) (hkw : PK X kw tk) (hg : Gl X x := by rfl) (hall : (backToKw pos (keywordEach kw X.env)).all (·.1.isSome) = true := by rfl) (hks : (backToKw pos (keywordEach kw X.env)).filterMap (·.1) = ks := by rfl)
    (hdb : (x == ("__debug__" : Str)) = false := by decide) (he : starEach (e :: es) X.env = (false, eval e X.env) :: starEach es X.env := by rfl)
    (hpl : ((backTo pos (starEach (e :: es) X.env)).any (·.1) || (backToKw pos (keywordEach kw X.env)).any (·.1.isNone)) = false := by rfl) :
    PE X (.Call (.Name x p) (e :: es) kw pos) (tCallNS n ks.length sp (fun vs zs => g vs dvs (ms.map (·.2)) zs) E t tk) := by
  obtain ⟨f, fd, h1, h2, h4⟩ := C.ex
  obtain ⟨its, mv, b⟩ := h2.kbinds n ks ms g hd hk hms hrel h
  exact pe_callNS h4 hr hg h1 h2.kp b hx ha hkw hall hks hdb he hpl
end
/-! ### len of a Round -/
section
variable {K : PySem.W.Frag} {H : Hp} {Q : VK} {C a : Addr} {bs : List Int} {sp : Sp} {E : XK}
instance [h : RdC C H a bs] : Step (rOwnLen C sp E [.ref a] H Q) (sp [.ref a] H (fun v H' => (∃ n : Nat, v = .int n ∧ n < 2 ^ 60) ∧ Q v H') E) := ⟨fun q => by
  obtain ⟨dx, p, h1, _⟩ := h.ex
  exact ⟨a, dx, _, rfl, h1, q⟩⟩
/-- __len__'s spec -/
def spLen (C : Addr) : Sp := fun vs H Q _ => ∃ (a : Addr) (bs : List Int), vs = [.ref a] ∧ RdC C H a bs ∧ Q (.int (bs.length : Nat)) H
theorem use_len [h : RdC C H a bs] (hl : bs.length ≤ 1000) (q : Q (.int (bs.length : Nat)) H) : spLen C [.ref a] H (fun v H' => (∃ n : Nat, v = .int n ∧ n < 2 ^ 60) ∧ Q v H') E := ⟨a, bs, rfl, h, ⟨_, rfl, by omega⟩, q⟩
end
/-! ### lists of bools compared -/
section
variable {K : PySem.W.Frag} {H : Hp} {Q : VK}
theorem ev3 {a b c d e f : Bool} : PyData.eqv (.list [.bool a, .bool b, .bool c]) (.list [.bool d, .bool e, .bool f]) = ((a == d) && ((b == e) && (c == f))) := by
  cases a <;> cases b <;> cases c <;> cases d <;> cases e <;> cases f <;> rfl
end
end Gx

set_option linter.all false
/-! the newest play by words and blocks; the formula of the life -/
namespace Lif
/-- leading zeros dropped -/
def tz (l : List Bool) : List Bool := l.dropWhile (! ·)
theorem tz_t {l : List Bool} : tz (true :: l) = true :: l := rfl
theorem tz_f {l : List Bool} : tz (false :: l) = tz l := rfl
theorem tz_app : ∀ {l : List Bool} (m : List Bool), tz l ≠ [] → tz (l ++ m) = tz l ++ m
  | [], m, h => absurd rfl h
  | true :: l, m, _ => rfl
  | false :: l, m, h => by
    show tz (l ++ m) = tz l ++ m
    exact tz_app m h
theorem tz_nil_app : ∀ {l : List Bool} (m : List Bool), tz l = [] → tz (l ++ m) = tz m
  | [], m, h => rfl
  | true :: l, m, h => by cases h
  | false :: l, m, h => tz_nil_app (l := l) m h
theorem tz_cnt : ∀ {l : List Bool}, (tz l).count true = l.count true
  | [] => rfl
  | true :: l => rfl
  | false :: l => by
    rw [tz_f, tz_cnt, List.count_cons_of_ne (by simp)]
theorem tz_len : ∀ {l : List Bool}, (tz l).length ≤ l.length
  | [] => Nat.le_refl _
  | true :: l => Nat.le_refl _
  | false :: l => Nat.le_succ_of_le (tz_len (l := l))
theorem tz_zer : ∀ {l : List Bool}, (tz l).count false ≤ l.count false
  | [] => Nat.le_refl _
  | true :: l => Nat.le_refl _
  | false :: l => Nat.le_trans (tz_zer (l := l)) (by rw [List.count_cons_self]; omega)
theorem tz_idem : ∀ {l : List Bool}, tz (tz l) = tz l
  | [] => rfl
  | true :: l => rfl
  | false :: l => tz_idem (l := l)
theorem tz_ne {l : List Bool} (h : 0 < l.count true) : tz l ≠ [] := fun e => by
  have := tz_cnt (l := l)
  rw [e] at this
  simp at this
  omega
theorem tz_nil {l : List Bool} (h : l.count true = 0) : tz l = [] := by
  induction l with
  | nil => rfl
  | cons b r ih =>
    cases b with
    | true => rw [List.count_cons_self] at h; omega
    | false => rw [List.count_cons_of_ne (by simp)] at h; exact ih h
/-- the word from its j-th one on -/
def sfx : Nat → List Bool → List Bool
  | 0, l => tz l
  | j + 1, l => tz (sfx j l).tail
theorem sfx_cnt {l : List Bool} : ∀ {j : Nat}, (sfx j l).count true = l.count true - j
  | 0 => tz_cnt
  | j + 1 => by
    have ih := sfx_cnt (l := l) (j := j)
    rw [sfx, tz_cnt]
    cases e : sfx j l with
    | nil => rw [e] at ih; simp at ih ⊢; omega
    | cons b r =>
      have hb : b = true := by
        have : ∀ {j : Nat} {l : List Bool} {b : Bool} {r : List Bool}, sfx j l = b :: r → b = true := by
          intro j l b r h
          have key : ∀ {m : List Bool} {b : Bool} {r : List Bool}, tz m = b :: r → b = true := by
            intro m
            induction m with
            | nil => intro b r h; cases h
            | cons x y ih =>
              intro b r h
              cases x with
              | true => cases h; rfl
              | false => exact ih h
          cases j with
          | zero => exact key h
          | succ j => exact key h
        exact this e
      subst hb
      rw [e, List.count_cons_self] at ih
      rw [List.tail_cons]
      omega
theorem tz_head : ∀ {m : List Bool} {b : Bool} {r : List Bool}, tz m = b :: r → b = true
  | [], _, _, h => by cases h
  | true :: _, _, _, h => by cases h; rfl
  | false :: m, _, _, h => tz_head (m := m) h
theorem sfx_head {j : Nat} {l : List Bool} {b : Bool} {r : List Bool} (h : sfx j l = b :: r) : b = true := by
  cases j with
  | zero => exact tz_head h
  | succ j => exact tz_head h
theorem sfx_ne {j : Nat} {l : List Bool} (h : j < l.count true) : sfx j l ≠ [] := fun e => by
  have := sfx_cnt (l := l) (j := j)
  rw [e] at this
  simp at this
  omega
/-- one carry -/
def car (w : List Bool) : List Bool := if w = [] then w else tz (w.tail ++ [true])
def cars : Nat → List Bool → List Bool
  | 0, w => w
  | j + 1, w => car (cars j w)
theorem car_cnt {w : List Bool} (h : tz w = w) : (car w).count true = w.count true := by
  cases w with
  | nil => rfl
  | cons b r =>
    have hb := tz_head h
    subst hb
    unfold car
    rw [if_neg (by simp), tz_cnt, List.tail_cons, List.count_append]
    simp [List.count_cons]
theorem car_tz {w : List Bool} (h : tz w = w) : tz (car w) = car w := by
  unfold car
  split
  · exact h
  · exact tz_idem
theorem cars_tz {w : List Bool} (h : tz w = w) : ∀ j, tz (cars j w) = cars j w
  | 0 => h
  | j + 1 => car_tz (cars_tz h j)
theorem cars_cnt {w : List Bool} (h : tz w = w) : ∀ j, (cars j w).count true = w.count true
  | 0 => rfl
  | j + 1 => by rw [cars, car_cnt (cars_tz h j), cars_cnt h j]
theorem car_zer {w : List Bool} : (car w).count false ≤ w.count false := by
  unfold car
  split
  · exact Nat.le_refl _
  · refine Nat.le_trans tz_zer ?_
    rw [List.count_append]
    cases w with
    | nil => simp
    | cons b r => cases b <;> simp [List.count_cons]
theorem cars_zer {w : List Bool} : ∀ j, (cars j w).count false ≤ w.count false
  | 0 => Nat.le_refl _
  | j + 1 => Nat.le_trans car_zer (cars_zer j)
def ones (n : Nat) : List Bool := List.replicate n true
theorem ones_snoc {j : Nat} : ones j ++ [true] = ones (j + 1) := by unfold ones; rw [List.replicate_succ']
/-- carries while old ones are left -/
theorem cars_sfx {l : List Bool} (T : List Bool) {B : Nat} : ∀ {j : Nat}, B + j < l.count true → cars j (sfx B l ++ T) = sfx (B + j) l ++ (T ++ ones j)
  | 0, _ => by rw [show ones 0 = [] from rfl, List.append_nil]; rfl
  | j + 1, h => by
    rw [cars, cars_sfx T (by omega)]
    have h1 := sfx_ne (l := l) (j := B + j) (by omega)
    have h2 := sfx_ne (l := l) (j := B + (j + 1)) h
    unfold car
    rw [if_neg (by simp [h1])]
    cases e : sfx (B + j) l with
    | nil => exact absurd e h1
    | cons b r =>
      have e2 : sfx (B + (j + 1)) l = tz r := by
        show tz (sfx (B + j) l).tail = _
        rw [e]
        rfl
      rw [e2] at h2 ⊢
      rw [List.cons_append, List.tail_cons, List.append_assoc, tz_app _ h2, List.append_assoc, ones_snoc]
/-- .. and beyond them: what is left is of the tail -/
theorem cars_end {l : List Bool} (T : List Bool) {B m : Nat} (h : l.count true ≤ B + m) (hB : B < l.count true) : (cars m (sfx B l ++ T)).count false ≤ T.count false := by
  obtain ⟨j, hj⟩ : ∃ j, B + j + 1 = l.count true := ⟨l.count true - B - 1, by omega⟩
  have e1 := cars_sfx (l := l) T (B := B) (j := j) (by omega)
  have h1 := sfx_ne (l := l) (j := B + j) (by omega)
  have key : (cars (j + 1) (sfx B l ++ T)).count false ≤ T.count false := by
    rw [cars, e1]
    cases e : sfx (B + j) l with
    | nil => exact absurd e h1
    | cons b r =>
      have hc := sfx_cnt (l := l) (j := B + j)
      have hb := sfx_head e
      subst hb
      rw [e, List.count_cons_self] at hc
      unfold car
      rw [if_neg (by simp), List.cons_append, List.tail_cons, List.append_assoc, tz_nil_app _ (tz_nil (by omega))]
      refine Nat.le_trans tz_zer ?_
      rw [List.count_append, List.count_append]
      have : ∀ n, (ones n).count false = 0 := fun n => by unfold ones; rw [List.count_replicate]; simp
      rw [this]
      simp
  obtain ⟨d, hd⟩ : ∃ d, m = j + 1 + d := ⟨m - (j + 1), by omega⟩
  have cars_add : ∀ a b w, cars (a + b) w = cars b (cars a w) := fun a b w => by
    induction b with
    | zero => rfl
    | succ b ih => rw [← Nat.add_assoc, cars, ih]; rfl
  rw [hd, cars_add]
  exact Nat.le_trans (cars_zer d) key
/-- the last one away -/
def zl : List Bool → List Bool
  | [] => []
  | x :: r => if r.count true = 0 then false :: r else x :: zl r
theorem zl_snoc : ∀ {w : List Bool}, zl (w ++ [true]) = w ++ [false]
  | [] => rfl
  | x :: r => by
    rw [List.cons_append, zl, if_neg (by rw [List.count_append]; simp), zl_snoc (w := r)]
    rfl
theorem zl_len : ∀ {w : List Bool}, (zl w).length = w.length
  | [] => rfl
  | x :: r => by
    rw [zl]
    split
    · rfl
    · rw [List.length_cons, zl_len (w := r), List.length_cons]
theorem zl_cnt : ∀ {w : List Bool}, (zl w).count true = w.count true - 1
  | [] => rfl
  | x :: r => by
    have ih := zl_cnt (w := r)
    rw [zl]
    split
    · rename_i h
      cases x <;> simp [List.count_cons, h]
    · rename_i h
      cases x <;> simp [List.count_cons, ih] <;> omega
theorem zl_zer : ∀ {w : List Bool}, (zl w).count false ≤ w.count false + 1
  | [] => by simp [zl]
  | x :: r => by
    have ih := zl_zer (w := r)
    rw [zl]
    split
    · cases x <;> simp [List.count_cons]
    · cases x <;> simp [List.count_cons] <;> omega
theorem tz_zl : ∀ {w : List Bool}, 2 ≤ w.count true → tz (zl w) = zl (tz w)
  | [], h => by simp at h
  | true :: r, h => by
    rw [List.count_cons_self] at h
    rw [zl, if_neg (by omega), tz_t, tz_t, zl, if_neg (by omega)]
  | false :: r, h => by
    rw [List.count_cons_of_ne (by simp)] at h
    rw [zl, if_neg (by omega), tz_f, tz_f]
    exact tz_zl h
theorem sfx_zl {l : List Bool} : ∀ {j : Nat}, j + 1 < l.count true → sfx j (zl l) = zl (sfx j l)
  | 0, h => tz_zl (by omega)
  | j + 1, h => by
    have ih := sfx_zl (l := l) (j := j) (by omega)
    have hc := sfx_cnt (l := l) (j := j)
    rw [sfx, sfx, ih]
    cases e : sfx j l with
    | nil => rw [e] at hc; simp at hc; omega
    | cons x r =>
      have hb := sfx_head e
      subst hb
      rw [e, List.count_cons_self] at hc
      rw [zl, if_neg (by omega), List.tail_cons, List.tail_cons]
      exact tz_zl (by omega)
def rel (lim : Nat) (w : List Bool) : List Bool := if w.count true < lim then w else tz (zl w)
/-- the word at put t, behind the release -/
def Uw (lim : Nat) (b : Nat → Nat) (l : List Bool) : Nat → List Bool
  | 0 => rel lim l
  | t + 1 => rel lim (cars (min (b t) ((Uw lim b l t).count true)) (Uw lim b l t) ++ [true])
section
variable {lim : Nat} {b : Nat → Nat} {l : List Bool}
theorem rel_tz {w : List Bool} (h : tz w = w) : tz (rel lim w) = rel lim w := by
  unfold rel
  split
  · exact h
  · exact tz_idem
theorem snoc_tz {w : List Bool} (h : tz w = w) : tz (w ++ [true]) = w ++ [true] := by
  cases w with
  | nil => rfl
  | cons x r =>
    have hb := tz_head h
    subst hb
    rfl
theorem Uw_tz (h : tz l = l) : ∀ t, tz (Uw lim b l t) = Uw lim b l t
  | 0 => rel_tz h
  | t + 1 => rel_tz (snoc_tz (cars_tz (Uw_tz h t) _))
theorem Uw_cnt (h : tz l = l) (hl : l.count true ≤ lim) (h1 : 1 ≤ lim) : ∀ t, (Uw lim b l t).count true = if l.count true + t < lim then l.count true + t else lim - 1
  | 0 => by
    rw [Uw, rel]
    split
    · rename_i z
      rw [if_pos (by omega)]
      rfl
    · rename_i z
      rw [if_neg (by omega), tz_cnt, zl_cnt]
      omega
  | t + 1 => by
    have ih := Uw_cnt h hl h1 t
    have hc : (cars (min (b t) ((Uw lim b l t).count true)) (Uw lim b l t) ++ [true]).count true = (Uw lim b l t).count true + 1 := by
      rw [List.count_append, cars_cnt (Uw_tz h t)]
      rfl
    rw [Uw, rel]
    split
    · rename_i z
      rw [hc] at z ⊢
      rw [ih] at z ⊢
      split at z
      · rw [if_pos (by omega), if_pos (by omega)]; omega
      · omega
    · rename_i z
      rw [hc] at z
      rw [tz_cnt, zl_cnt, hc]
      rw [ih] at z ⊢
      split at z
      · rw [if_pos (by omega), if_neg (by omega)]; omega
      · rw [if_neg (by omega), if_neg (by omega)]; omega
def bsum (b : Nat → Nat) (s : Nat) : Nat → Nat
  | 0 => 0
  | n + 1 => bsum b s n + b (s + n)
/-- the releases of records that were put within -/
def rls (o lim : Nat) : Nat → Nat
  | 0 => 0
  | t + 1 => rls o lim t + if o + (t + 1) < lim then 0 else 1
theorem rls_le {o lim : Nat} : ∀ {t : Nat}, rls o lim t ≤ t + 1 - (lim - o) ∧ (o + t < lim → rls o lim t = 0)
  | 0 => ⟨Nat.zero_le _, fun _ => rfl⟩
  | t + 1 => by
    obtain ⟨h1, h2⟩ := rls_le (o := o) (lim := lim) (t := t)
    rw [rls]
    split
    · rename_i z
      have := h2 (by omega)
      exact ⟨by omega, fun _ => by omega⟩
    · rename_i z
      refine ⟨?_, fun y => absurd y z⟩
      by_cases y : o + t < lim
      · have := h2 y
        omega
      · omega
/-- the word whose ones are carried first -/
def old (lim : Nat) (l : List Bool) : List Bool := if l.count true < lim then l else zl l
theorem old_cnt (hl : l.count true ≤ lim) (h1 : 1 ≤ lim) : (old lim l).count true = min (l.count true) (lim - 1) := by
  unfold old
  split
  · omega
  · rw [zl_cnt]; omega
theorem old_sfx {j : Nat} (hl : l.count true ≤ lim) (h1 : 1 ≤ lim) (hj : j < (old lim l).count true) : (sfx j (old lim l)).length = (sfx j l).length := by
  rw [old_cnt hl h1] at hj
  unfold old
  split
  · rfl
  · rw [sfx_zl (by omega), zl_len]
theorem Uw_zero (h : tz l = l) : Uw lim b l 0 = sfx 0 (old lim l) := by
  rw [Uw, rel, old, sfx]
  split
  · exact h.symm
  · rfl
/-- while old ones are left to be carried -/
theorem case_a (h : tz l = l) (hl : l.count true ≤ lim) (h1 : 1 ≤ lim) : ∀ {t : Nat}, bsum b 0 t < (old lim l).count true → ∃ T : List Bool, Uw lim b l t = sfx (bsum b 0 t) (old lim l) ++ T ∧ T.length = bsum b 0 t + t ∧ T.count false ≤ rls (l.count true) lim t
  | 0, _ => ⟨[], by rw [Uw_zero h, List.append_nil]; rfl, rfl, Nat.le_refl _⟩
  | t + 1, hb => by
    have e1 : bsum b 0 (t + 1) = bsum b 0 t + b t := by rw [bsum, Nat.zero_add]
    rw [e1] at hb ⊢
    obtain ⟨T, c1, c2, c3⟩ := case_a h hl h1 (t := t) (by omega)
    have hk := old_cnt hl h1
    have hu := Uw_cnt (b := b) h hl h1 t
    have hm : min (b t) ((Uw lim b l t).count true) = b t := by
      rw [hu]
      split <;> omega
    have hU : cars (min (b t) ((Uw lim b l t).count true)) (Uw lim b l t) = sfx (bsum b 0 t + b t) (old lim l) ++ (T ++ ones (b t)) := by
      rw [hm, c1, cars_sfx T hb]
    have hcnt : (cars (min (b t) ((Uw lim b l t).count true)) (Uw lim b l t) ++ [true]).count true = (Uw lim b l t).count true + 1 := by
      rw [List.count_append, cars_cnt (Uw_tz h t)]
      rfl
    have hone : (ones (b t)).count false = 0 := by unfold ones; rw [List.count_replicate]; simp
    have hnl : (ones (b t)).length = b t := List.length_replicate ..
    rw [Uw, rel, hcnt, hU, hu]
    by_cases z : l.count true + (t + 1) < lim
    · rw [if_pos (show l.count true + t < lim by omega), if_pos (by omega)]
      refine ⟨T ++ ones (b t) ++ [true], by rw [List.append_assoc, List.append_assoc], ?_, ?_⟩
      · rw [List.length_append, List.length_append, hnl, c2]; simp; omega
      · rw [List.count_append, List.count_append, hone, rls, if_pos z]
        simp
        exact c3
    · have hne := sfx_ne hb
      have hif : ¬ (if l.count true + t < lim then l.count true + t else lim - 1) + 1 < lim := by split <;> omega
      rw [if_neg hif, zl_snoc]
      refine ⟨T ++ ones (b t) ++ [false], ?_, ?_, ?_⟩
      · have hs : tz (sfx (bsum b 0 t + b t) (old lim l)) = sfx (bsum b 0 t + b t) (old lim l) := by
          cases e : sfx (bsum b 0 t + b t) (old lim l) with
          | nil => rfl
          | cons x r =>
            have hx := sfx_head e
            subst hx
            rfl
        rw [List.append_assoc, tz_app _ (by rw [hs]; exact hne), hs]
      · rw [List.length_append, List.length_append, hnl, c2]; simp; omega
      · rw [List.count_append, List.count_append, hone, rls, if_neg z]
        simp
        exact c3
/-- when all old ones have been carried -/
theorem case_b (h : tz l = l) (hl : l.count true ≤ lim) (h1 : 1 ≤ lim) : ∀ {t : Nat}, (old lim l).count true ≤ bsum b 0 t → (Uw lim b l t).count false ≤ rls (l.count true) lim t
  | 0, hb => by
    rw [Uw_zero h, sfx, tz_nil (by rw [bsum] at hb; omega)]
    simp
  | t + 1, hb => by
    have e1 : bsum b 0 (t + 1) = bsum b 0 t + b t := by rw [bsum, Nat.zero_add]
    rw [e1] at hb
    have hk := old_cnt hl h1
    have hu := Uw_cnt (b := b) h hl h1 t
    have hz : (cars (min (b t) ((Uw lim b l t).count true)) (Uw lim b l t)).count false ≤ rls (l.count true) lim t := by
      by_cases z : (old lim l).count true ≤ bsum b 0 t
      · exact Nat.le_trans (cars_zer _) (case_b h hl h1 z)
      · obtain ⟨T, c1, c2, c3⟩ := case_a (b := b) h hl h1 (t := t) (by omega)
        have hm : (old lim l).count true ≤ bsum b 0 t + min (b t) ((Uw lim b l t).count true) := by
          have hx : (old lim l).count true ≤ (Uw lim b l t).count true := by
            rw [hu]
            split <;> omega
          generalize (Uw lim b l t).count true = c at hx ⊢
          omega
        generalize min (b t) ((Uw lim b l t).count true) = m at hm ⊢
        rw [c1]
        exact Nat.le_trans (cars_end T hm (by omega)) c3
    have hcnt : (cars (min (b t) ((Uw lim b l t).count true)) (Uw lim b l t) ++ [true]).count true = (Uw lim b l t).count true + 1 := by
      rw [List.count_append, cars_cnt (Uw_tz h t)]
      rfl
    rw [Uw, rel, hcnt, rls]
    obtain ⟨W, hW⟩ : ∃ W, W = cars (min (b t) ((Uw lim b l t).count true)) (Uw lim b l t) := ⟨_, rfl⟩
    rw [← hW] at hz ⊢
    rw [hu]
    by_cases z : l.count true + (t + 1) < lim
    · rw [if_pos (show l.count true + t < lim by omega), if_pos (by omega), if_pos z, List.count_append]
      simpa using hz
    · have hif : ¬ (if l.count true + t < lim then l.count true + t else lim - 1) + 1 < lim := by split <;> omega
      rw [if_neg hif, if_neg z, zl_snoc]
      refine Nat.le_trans tz_zer ?_
      rw [List.count_append]
      simpa using hz
end

/-! ### blocks -/
def tn : List Nat → List Nat
  | [] => []
  | 0 :: r => tn r
  | (n + 1) :: r => (n + 1) :: r

def eat : List Nat → List Nat
  | [] => []
  | n :: r => if n ≤ 1 then tn r else (n - 1) :: r
theorem eat_cons {n : Nat} {r : List Nat} : eat (n :: r) = if n ≤ 1 then tn r else (n - 1) :: r := rfl
def eats : Nat → List Nat → List Nat
  | 0, N => N
  | j + 1, N => eat (eats j N)
def Can : List Nat → Prop
  | [] => True
  | n :: _ => 1 ≤ n
theorem tn_can : ∀ N, Can (tn N)
  | [] => trivial
  | 0 :: r => tn_can r
  | (n + 1) :: r => Nat.succ_le_succ (Nat.zero_le n)
theorem tn_of : ∀ {N}, Can N → tn N = N
  | [], _ => rfl
  | 0 :: r, h => absurd h (Nat.not_succ_le_zero 0)
  | (n + 1) :: r, _ => rfl
theorem tn_sum : ∀ N, (tn N).sum = N.sum
  | [] => rfl
  | 0 :: r => by rw [tn, tn_sum r, List.sum_cons, Nat.zero_add]
  | (n + 1) :: r => rfl
theorem tn_len : ∀ N, (tn N).length ≤ N.length
  | [] => Nat.le_refl _
  | 0 :: r => Nat.le_succ_of_le (tn_len r)
  | (n + 1) :: r => Nat.le_refl _
theorem eat_can {N : List Nat} (h : Can N) : Can (eat N) := by
  cases N with
  | nil => exact trivial
  | cons n r =>
    rw [eat_cons]
    by_cases z : n ≤ 1
    · rw [if_pos z]; exact tn_can r
    · rw [if_neg z]
      show 1 ≤ n - 1
      omega
theorem eat_sum {N : List Nat} (h : Can N) : (eat N).sum = N.sum - 1 := by
  cases N with
  | nil => rfl
  | cons n r =>
    have h' : 1 ≤ n := h
    rw [eat_cons]
    by_cases z : n ≤ 1
    · rw [if_pos z, tn_sum, List.sum_cons]
      omega
    · rw [if_neg z, List.sum_cons, List.sum_cons]
      omega
theorem eats_can {N : List Nat} (h : Can N) : ∀ j, Can (eats j N)
  | 0 => h
  | j + 1 => eat_can (eats_can h j)
theorem eats_sum {N : List Nat} (h : Can N) : ∀ j, (eats j N).sum = N.sum - j
  | 0 => rfl
  | j + 1 => by rw [eats, eat_sum (eats_can h j), eats_sum h j]; omega
/-- a list cut at the front: the blocks behind stay -/
theorem eats_app {A : List Nat} (B : List Nat) (h : Can A) : ∀ {j : Nat}, j < A.sum → eats j (A ++ B) = eats j A ++ B ∧ eats j A ≠ []
  | 0, hj => ⟨rfl, fun e => by rw [show A = [] from e] at hj; cases hj⟩
  | j + 1, hj => by
    obtain ⟨h1, h2⟩ := eats_app B h (j := j) (by omega)
    have h3 := eats_can h j
    have h4 := eats_sum h j
    rw [eats, eats, h1]
    cases e : eats j A with
    | nil => exact absurd e h2
    | cons n r =>
      rw [e] at h3 h4
      have h3' : 1 ≤ n := h3
      rw [List.cons_append, eat_cons, eat_cons]
      by_cases z : n ≤ 1
      · rw [if_pos z, if_pos z]
        rw [List.sum_cons] at h4
        have h5 : 0 < r.sum := by omega
        have key : ∀ r : List Nat, 0 < r.sum → tn (r ++ B) = tn r ++ B ∧ tn r ≠ [] := by
          intro r
          induction r with
          | nil => intro h; cases h
          | cons x r ih =>
            intro h
            cases x with
            | zero =>
              rw [List.sum_cons, Nat.zero_add] at h
              exact ih h
            | succ x => exact ⟨rfl, fun e => by cases e⟩
        exact key r h5
      · rw [if_neg z, if_neg z]
        exact ⟨rfl, fun e => by cases e⟩

def enc : List Nat → List Bool
  | [] => []
  | n :: r => List.replicate n true ++ false :: enc r
theorem enc_snoc : ∀ (N : List Nat) (c : Nat), enc (N ++ [c]) = enc N ++ (ones c ++ [false])
  | [], c => rfl
  | n :: r, c => by
    show List.replicate n true ++ false :: enc (r ++ [c]) = (List.replicate n true ++ false :: enc r) ++ _
    rw [enc_snoc r c, List.append_assoc]
    rfl
theorem enc_len : ∀ N : List Nat, (enc N).length = N.sum + N.length
  | [] => rfl
  | n :: r => by
    show (List.replicate n true ++ false :: enc r).length = _
    rw [List.length_append, List.length_replicate, List.length_cons, enc_len r, List.sum_cons, List.length_cons]
    omega
theorem enc_cnt : ∀ N : List Nat, (enc N).count true = N.sum
  | [] => rfl
  | n :: r => by
    show (List.replicate n true ++ false :: enc r).count true = _
    rw [List.count_append, List.count_replicate, List.count_cons_of_ne (by simp), enc_cnt r, List.sum_cons]
    simp
theorem enc_zer : ∀ N : List Nat, (enc N).count false = N.length
  | [] => rfl
  | n :: r => by
    show (List.replicate n true ++ false :: enc r).count false = _
    rw [List.count_append, List.count_replicate, List.count_cons_self, enc_zer r, List.length_cons]
    simp
theorem tz_ones {n : Nat} {l : List Bool} : tz (ones (n + 1) ++ l) = ones (n + 1) ++ l := by
  unfold ones
  rw [List.replicate_succ, List.cons_append]
  rfl
theorem tz_enc : ∀ (N : List Nat) (l : List Bool), tz l = l → tz (enc N ++ l) = enc (tn N) ++ l
  | [], l, h => h
  | 0 :: r, l, h => by
    show tz (false :: (enc r ++ l)) = _
    rw [tz_f, tn]
    exact tz_enc r l h
  | (n + 1) :: r, l, h => by
    rw [tn]
    show tz ((List.replicate (n + 1) true ++ false :: enc r) ++ l) = _
    rw [List.append_assoc]
    refine Eq.trans tz_ones ?_
    show _ = (List.replicate (n + 1) true ++ false :: enc r) ++ l
    rw [List.append_assoc]
    rfl
theorem ones_tz : ∀ {n : Nat}, tz (ones n) = ones n
  | 0 => rfl
  | n + 1 => by
    have := tz_ones (n := n) (l := [])
    rw [List.append_nil] at this
    exact this
theorem car_enc {N : List Nat} {j : Nat} (h : Can N) (h0 : N ≠ []) : car (enc N ++ ones j) = enc (eat N) ++ ones (j + 1) := by
  cases N with
  | nil => exact absurd rfl h0
  | cons n r =>
    have h' : 1 ≤ n := h
    obtain ⟨m, rfl⟩ : ∃ m, n = m + 1 := ⟨n - 1, by omega⟩
    have e : (enc ((m + 1) :: r) ++ ones j).tail ++ [true] = (List.replicate m true ++ false :: enc r) ++ ones (j + 1) := by
      rw [← ones_snoc]
      show ((List.replicate (m + 1) true ++ false :: enc r) ++ ones j).tail ++ [true] = _
      rw [List.replicate_succ, List.cons_append, List.cons_append, List.tail_cons, List.append_assoc]
    unfold car
    rw [if_neg (by show ¬ ((List.replicate (m + 1) true ++ false :: enc r) ++ ones j = []); simp), e]
    show tz (enc (m :: r) ++ ones (j + 1)) = _
    rw [tz_enc _ _ ones_tz]
    congr 1
    rw [eat_cons]
    by_cases z : m = 0
    · subst z
      rfl
    · obtain ⟨q, rfl⟩ : ∃ q, m = q + 1 := ⟨m - 1, by omega⟩
      rw [if_neg (by omega)]
      rfl
theorem cars_enc {N : List Nat} (h : Can N) : ∀ {j : Nat}, j ≤ N.sum → cars j (enc N) = enc (eats j N) ++ ones j
  | 0, _ => by rw [show ones 0 = [] from rfl, List.append_nil]; rfl
  | j + 1, hj => by
    have hne : eats j N ≠ [] := fun e => by
      have := eats_sum h j
      rw [e] at this
      simp at this
      omega
    rw [cars, cars_enc h (by omega), car_enc (eats_can h j) hne, eats]
/-- a word that ends with a zero -/
theorem enc_ex : ∀ (w : List Bool), ∃ N c, w = enc N ++ ones c
  | [] => ⟨[], 0, rfl⟩
  | true :: r => by
    obtain ⟨N, c, e⟩ := enc_ex r
    cases N with
    | nil => exact ⟨[], c + 1, by rw [e]; rfl⟩
    | cons n M => exact ⟨(n + 1) :: M, c, by rw [e]; rfl⟩
  | false :: r => by
    obtain ⟨N, c, e⟩ := enc_ex r
    exact ⟨0 :: N, c, by rw [e]; rfl⟩
theorem enc_of {w : List Bool} (h : tz w = w) (hz : w = [] ∨ w.getLast? = some false) : ∃ N, w = enc N ∧ Can N := by
  obtain ⟨N, c, e⟩ := enc_ex w
  have hc : c = 0 := by
    rcases hz with z | z
    · rw [z] at e
      cases c with
      | zero => rfl
      | succ c =>
        have := congrArg List.length e
        rw [List.length_append, ones, List.length_replicate] at this
        simp at this
    · cases c with
      | zero => rfl
      | succ c =>
        rw [e, ← ones_snoc, ← List.append_assoc, List.getLast?_concat] at z
        cases z
  subst hc
  rw [show ones 0 = [] from rfl, List.append_nil] at e
  refine ⟨N, e, ?_⟩
  cases N with
  | nil => trivial
  | cons n M =>
    cases n with
    | zero =>
      exfalso
      rw [e] at h
      have h2 : tz (false :: enc M) = false :: enc M := h
      rw [tz_f] at h2
      have := tz_len (l := enc M)
      rw [h2] at this
      simp at this
      omega
    | succ n => exact Nat.succ_le_succ (Nat.zero_le n)
/-- the blocks at the i-th put behind the growth: others k - 1, budgets b -/
def SG (N0 : List Nat) (k : Nat) (b : Nat → Nat) : Nat → List Nat
  | 0 => N0
  | i + 1 => tn (eats (min (k - 1) (b i)) (SG N0 k b i) ++ [min (k - 1) (b i)])
theorem SG_can {N0 : List Nat} {k : Nat} {b : Nat → Nat} (h : Can N0) (i : Nat) : Can (SG N0 k b i) := by
  cases i with
  | zero => exact h
  | succ i => exact tn_can _
theorem SG_sum {N0 : List Nat} {k : Nat} {b : Nat → Nat} (h : Can N0) (hs : N0.sum = k - 1) : ∀ i, (SG N0 k b i).sum = k - 1
  | 0 => hs
  | i + 1 => by
    rw [SG, tn_sum, List.sum_append, eats_sum (SG_can h i), SG_sum h hs i]
    simp
    omega
theorem SG_long {N0 : List Nat} {k g w : Nat} {b : Nat → Nat} (hc0 : Can N0) (hs0 : N0.sum = k - 1) (hk : 2 ≤ k) (h : bsum b w g ≤ k - 2) : g + 1 ≤ (SG N0 k b (w + g)).length := by
  have key : ∀ i, i ≤ g → ∃ A B : List Nat, SG N0 k b (w + i) = A ++ B ∧ B.length = i ∧ Can A ∧ A.sum + bsum b w i = k - 1 := by
    have mono : ∀ i j, i ≤ j → bsum b w i ≤ bsum b w j := by
      intro i j hij
      induction j with
      | zero => rw [Nat.le_zero.mp hij]; exact Nat.le_refl _
      | succ j ih =>
        rcases Nat.lt_or_ge j i with z | z
        · rw [show i = j + 1 from by omega]; exact Nat.le_refl _
        · exact Nat.le_trans (ih z) (Nat.le_add_right _ _)
    intro i
    induction i with
    | zero => exact fun _ => ⟨SG N0 k b w, [], by rw [List.append_nil]; rfl, rfl, SG_can hc0 w, by rw [SG_sum hc0 hs0]; rfl⟩
    | succ i ih =>
      intro hi
      obtain ⟨A, B, h1, h2, h3, h4⟩ := ih (by omega)
      have h5 := mono (i + 1) g hi
      have h6 : bsum b w (i + 1) = bsum b w i + b (w + i) := rfl
      have hlt : b (w + i) < A.sum := by omega
      have hle : b (w + i) ≤ k - 1 := by omega
      have hsum : A.sum - b (w + i) + (bsum b w i + b (w + i)) = k - 1 := by omega
      have h7 : min (k - 1) (b (w + i)) = b (w + i) := Nat.min_eq_right hle
      obtain ⟨h8, h9⟩ := eats_app B h3 (j := b (w + i)) hlt
      have hc := eats_can h3 (b (w + i))
      refine ⟨eats (b (w + i)) A, B ++ [b (w + i)], ?_, by rw [List.length_append, h2]; rfl, hc, by rw [eats_sum h3]; exact hsum⟩
      rw [← Nat.add_assoc, SG, h7, h1, h8, List.append_assoc]
      refine tn_of ?_
      cases e : eats (b (w + i)) A with
      | nil => exact absurd e h9
      | cons n r => rw [e] at hc; exact hc
  obtain ⟨A, B, h1, h2, h3, h4⟩ := key g (Nat.le_refl _)
  have : A ≠ [] := fun e => by
    rw [e] at h4
    simp at h4
    omega
  have := List.length_pos_iff.mpr this
  rw [h1, List.length_append, h2]
  omega
theorem tn_tail : ∀ (r : List Nat) {n' : Nat} {r' : List Nat}, tn r = n' :: r' → ∃ q, r = q ++ r'
  | [], _, _, h => by cases h
  | 0 :: r, n', r', h => by
    obtain ⟨q, e⟩ := tn_tail r h
    exact ⟨0 :: q, by rw [e]; rfl⟩
  | (n + 1) :: r, n', r', h => by
    cases h
    exact ⟨[n + 1], rfl⟩
theorem eats_tail {n : Nat} {r : List Nat} : ∀ {j : Nat} {n' : Nat} {r' : List Nat}, eats j (n :: r) = n' :: r' → ∃ q, r = q ++ r'
  | 0, n', r', h => by
    cases h
    exact ⟨[], rfl⟩
  | j + 1, n', r', h => by
    rw [eats] at h
    cases e : eats j (n :: r) with
    | nil => rw [e] at h; cases h
    | cons x y =>
      obtain ⟨q, hq⟩ := eats_tail e
      rw [e, eat_cons] at h
      by_cases z : x ≤ 1
      · rw [if_pos z] at h
        obtain ⟨p, hp⟩ := tn_tail y h
        exact ⟨q ++ p, by rw [hq, hp, List.append_assoc]⟩
      · rw [if_neg z] at h
        cases h
        exact ⟨q, hq⟩

theorem SG_hist {N0 : List Nat} {k : Nat} {b : Nat → Nat} (hc0 : Can N0) : ∀ {i n : Nat} {r : List Nat}, SG N0 k b i = n :: r → ∀ g, g ≤ r.length → g ≤ i → (r.drop (r.length - g)).sum = bsum (fun x => min (k - 1) (b x)) (i - g) g
  | 0, n, r, h => fun g hg hi => by
    rw [Nat.le_zero.mp hi]
    simp [bsum]
  | i + 1, n, r, h => by
    rw [SG] at h
    obtain ⟨m, hm⟩ : ∃ m, m = min (k - 1) (b i) := ⟨_, rfl⟩
    rw [← hm] at h
    cases e : eats m (SG N0 k b i) with
    | nil =>
      rw [e] at h
      have hr : r = [] := by
        cases m with
        | zero => cases h
        | succ m => cases h; rfl
      subst hr
      intro g hg hi
      rw [Nat.le_zero.mp hg]
      rfl
    | cons x y =>
      have hc := eats_can (SG_can (k := k) (b := b) hc0 i) m
      rw [e] at h hc
      have hc' : Can ((x :: y) ++ [m]) := hc
      rw [tn_of hc'] at h
      rw [List.cons_append] at h
      obtain ⟨h1, h2⟩ := List.cons.inj h
      subst h1 h2
      cases e2 : SG N0 k b i with
      | nil =>
        rw [e2] at e
        exfalso
        have : ∀ j, eats j [] = [] := fun j => by
          induction j with
          | zero => rfl
          | succ j ih => rw [eats, ih]; rfl
        rw [this] at e
        cases e
      | cons n0 r0 =>
        rw [e2] at e
        obtain ⟨q, hq⟩ := eats_tail e
        have h4 := SG_hist hc0 e2
        have hl : r0.length = q.length + y.length := by rw [hq, List.length_append]
        intro g hg hi
        rw [List.length_append] at hg ⊢
        cases g with
        | zero => simp [bsum]
        | succ g =>
          have hg' : g ≤ y.length := by simpa using hg
          have h5 := h4 g (by omega) (by omega)
          have e3 : r0.drop (r0.length - g) = y.drop (y.length - g) := by
            rw [hq, List.length_append, show q.length + y.length - g = q.length + (y.length - g) from by omega, List.drop_append, List.drop_eq_nil_of_le (by omega), List.nil_append]
            congr 1
            omega
          rw [show y.length + [m].length - (g + 1) = y.length - g from by simp, List.drop_append_of_le_length (by omega), List.sum_append, ← e3, h5]
          show _ = bsum (fun x => min (k - 1) (b x)) (i + 1 - (g + 1)) g + min (k - 1) (b (i + 1 - (g + 1) + g))
          rw [show i + 1 - (g + 1) = i - g from by omega, show i - g + g = i from by omega, hm]
          simp
theorem drop_sum_le : ∀ (r : List Nat) (n : Nat), (r.drop n).sum ≤ r.sum
  | [], n => by simp
  | x :: r, 0 => Nat.le_refl _
  | x :: r, n + 1 => Nat.le_trans (drop_sum_le r n) (by rw [List.sum_cons]; omega)
theorem bsum_min {c : Nat} {b : Nat → Nat} {s : Nat} : ∀ {g : Nat}, bsum (fun x => min c (b x)) s g < c → bsum b s g = bsum (fun x => min c (b x)) s g
  | 0, _ => rfl
  | g + 1, h => by
    have h1 : bsum (fun x => min c (b x)) s g + min c (b (s + g)) < c := h
    have h2 : min c (b (s + g)) < c := Nat.lt_of_le_of_lt (Nat.le_add_left _ _) h1
    have h3 : b (s + g) ≤ c := by
      rcases Nat.le_total (b (s + g)) c with z | z
      · exact z
      · rw [Nat.min_eq_left z] at h2; exact absurd h2 (Nat.lt_irrefl _)
    have h4 := bsum_min (s := s) (b := b) (g := g) (Nat.lt_of_le_of_lt (Nat.le_add_right _ _) h1)
    show bsum b s g + b (s + g) = bsum (fun x => min c (b x)) s g + min c (b (s + g))
    rw [h4, Nat.min_eq_right h3]

theorem SG_short {N0 : List Nat} {k g i : Nat} {b : Nat → Nat} (hc0 : Can N0) (hs0 : N0.sum = k - 1) (hi : g ≤ i) (h : g + 1 ≤ (SG N0 k b i).length) : 2 ≤ k ∧ bsum b (i - g) g ≤ k - 2 := by
  cases e : SG N0 k b i with
  | nil => rw [e] at h; cases h
  | cons n r =>
    have hc := SG_can (k := k) (b := b) hc0 i
    have hs := SG_sum (k := k) (b := b) hc0 hs0 i
    rw [e] at h hc hs
    have hn : 1 ≤ n := hc
    rw [List.sum_cons] at hs
    rw [List.length_cons] at h
    have h3 := SG_hist hc0 e g (by omega) hi
    have h4 := drop_sum_le r (r.length - g)
    have h5 : bsum (fun x => min (k - 1) (b x)) (i - g) g < k - 1 := by omega
    have h6 := bsum_min h5
    refine ⟨by omega, ?_⟩
    rw [h6]
    omega

/-! ### the formula -/
section
variable {lim : Nat} {b : Nat → Nat} {l : List Bool}
theorem tz_last {w : List Bool} (h : w.getLast? = some false) : tz w = [] ∨ (tz w).getLast? = some false := by
  induction w with
  | nil => cases h
  | cons x r ih =>
    cases x with
    | true => exact .inr h
    | false =>
      cases r with
      | nil => exact .inl rfl
      | cons y t => exact ih (by rw [← h]; simp [List.getLast?_cons_cons])
theorem zl_last : ∀ {w : List Bool}, zl w = [] ∨ (zl w).getLast? = some false
  | [] => .inl rfl
  | x :: r => by
    right
    rw [zl]
    split
    · rename_i h
      induction r with
      | nil => rfl
      | cons y t ih =>
        cases y with
        | true => rw [List.count_cons_self] at h; omega
        | false =>
          rw [List.count_cons_of_ne (by simp)] at h
          have := ih h
          rw [List.getLast?_cons_cons]
          exact this
    · rename_i h
      cases e : zl r with
      | nil =>
        have := zl_len (w := r)
        rw [e] at this
        cases r with
        | nil => simp at h
        | cons y t => simp at this
      | cons y t =>
        rcases zl_last (w := r) with z | z
        · rw [e] at z; cases z
        · rw [e] at z
          rw [List.getLast?_cons_cons]
          exact z
theorem rel_enc {w : List Bool} (hc : lim ≤ w.count true) : ∃ N, rel lim w = enc N ∧ Can N := by
  have h : tz (rel lim w) = rel lim w := by
    unfold rel
    rw [if_neg (by omega)]
    exact tz_idem
  refine enc_of h ?_
  unfold rel
  rw [if_neg (by omega)]
  rcases zl_last (w := w) with z | z
  · rw [z]; exact .inl rfl
  · exact tz_last z
/-- behind the growth the word is told by its blocks -/
theorem steady (h : tz l = l) (hl : l.count true ≤ lim) (h1 : 1 ≤ lim) : ∃ N0, Can N0 ∧ N0.sum = lim - 1 ∧ ∀ i, Uw lim b l (lim - l.count true + i) = enc (SG N0 lim (fun j => b (lim - l.count true + j)) i) := by
  have h0 : ∃ N0, Uw lim b l (lim - l.count true) = enc N0 ∧ Can N0 := by
    rcases Nat.lt_or_ge (l.count true) lim with z | z
    · obtain ⟨g, hg⟩ : ∃ g, lim - l.count true = g + 1 := ⟨lim - l.count true - 1, by omega⟩
      rw [hg, Uw]
      refine rel_enc ?_
      rw [List.count_append, cars_cnt (Uw_tz h g), Uw_cnt h hl h1, if_pos (by omega)]
      simp
      omega
    · rw [show lim - l.count true = 0 from by omega, Uw]
      exact rel_enc z
  obtain ⟨N0, e0, c0⟩ := h0
  have s0 : N0.sum = lim - 1 := by
    rw [← enc_cnt, ← e0, Uw_cnt h hl h1, if_neg (by omega)]
  refine ⟨N0, c0, s0, fun i => ?_⟩
  induction i with
  | zero => exact e0
  | succ i ih =>
    have hs := SG_sum (b := fun j => b (lim - l.count true + j)) c0 s0 i
    have hcan := SG_can (k := lim) (b := fun j => b (lim - l.count true + j)) c0 i
    have hcn : (Uw lim b l (lim - l.count true + i)).count true = lim - 1 := by rw [ih, enc_cnt, hs]
    rw [← Nat.add_assoc, Uw, hcn, ih, Nat.min_comm, cars_enc hcan (by rw [hs]; exact Nat.min_le_left _ _)]
    unfold rel
    rw [if_neg (by
      rw [List.count_append, List.count_append, enc_cnt, eats_sum hcan, hs]
      have h2 : (ones (min (lim - 1) (b (lim - l.count true + i)))).count true = min (lim - 1) (b (lim - l.count true + i)) := by unfold ones; rw [List.count_replicate]; simp
      rw [h2]
      have h3 := Nat.min_le_left (lim - 1) (b (lim - l.count true + i))
      generalize min (lim - 1) (b (lim - l.count true + i)) = m at h3 ⊢
      simp
      omega), zl_snoc, List.append_assoc, ← enc_snoc]
    have := tz_enc (eats (min (lim - 1) (b (lim - l.count true + i))) (SG N0 lim (fun j => b (lim - l.count true + j)) i) ++ [min (lim - 1) (b (lim - l.count true + i))]) [] rfl
    rw [List.append_nil, List.append_nil] at this
    rw [this]
    rfl
def BlkN (l : List Bool) (lim C : Nat) (b : Nat → Nat) (t : Nat) : Prop := bsum b 0 t < l.count true ∧ bsum b 0 t < lim - 1 ∧ C ≤ (sfx (bsum b 0 t) l).length + bsum b 0 t + t
def ShtN (o lim C : Nat) (b : Nat → Nat) (t : Nat) : Prop := C ≤ t + o ∧ bsum b (t - (C - lim)) (C - lim) < lim - 1
theorem bsum_shift {b : Nat → Nat} {s d : Nat} : ∀ {n : Nat}, bsum (fun j => b (d + j)) s n = bsum b (d + s) n
  | 0 => rfl
  | n + 1 => by rw [bsum, bsum, bsum_shift, Nat.add_assoc]
theorem len_split (w : List Bool) : w.length = w.count true + w.count false := by
  induction w with
  | nil => rfl
  | cons x r ih => cases x <;> simp [List.count_cons, ih] <;> omega
/-- the word is full exactly if the formula says so -/
theorem full_iff (h : tz l = l) (hl : l.count true ≤ lim) (h1 : 1 ≤ lim) {C : Nat} (hC : lim ≤ C) (t : Nat) : C ≤ (Uw lim b l t).length ↔ (BlkN l lim C b t ∨ ShtN (l.count true) lim C b t) := by
  have hk := old_cnt hl h1
  have hu := Uw_cnt (b := b) h hl h1 t
  have hsh : ShtN (l.count true) lim C b t → C ≤ (Uw lim b l t).length := by
    rintro ⟨s1, s2⟩
    obtain ⟨N0, c0, s0, hst⟩ := steady (b := b) h hl h1
    have e := hst (t - (lim - l.count true))
    rw [show lim - l.count true + (t - (lim - l.count true)) = t from by omega] at e
    have h2 := SG_long (w := t - (lim - l.count true) - (C - lim)) (g := C - lim) (b := fun j => b (lim - l.count true + j)) c0 s0 (by omega) (by
      rw [bsum_shift, show lim - l.count true + (t - (lim - l.count true) - (C - lim)) = t - (C - lim) from by omega]
      omega)
    rw [show t - (lim - l.count true) - (C - lim) + (C - lim) = t - (lim - l.count true) from by omega] at h2
    rw [e, enc_len, SG_sum c0 s0]
    omega
  by_cases ha : bsum b 0 t < (old lim l).count true
  · obtain ⟨T, c1, c2, c3⟩ := case_a (b := b) h hl h1 ha
    have hlen : (Uw lim b l t).length = (sfx (bsum b 0 t) l).length + bsum b 0 t + t := by
      rw [c1, List.length_append, c2, old_sfx hl h1 ha]
      omega
    rw [hk] at ha
    constructor
    · intro z
      rw [hlen] at z
      exact .inl ⟨by omega, by omega, z⟩
    · rintro (⟨_, _, z⟩ | z)
      · rw [hlen]; exact z
      · exact hsh z
  · constructor
    · intro z
      right
      have hz := case_b (b := b) h hl h1 (t := t) (by omega)
      have hr := rls_le (o := l.count true) (lim := lim) (t := t)
      rw [len_split, hu] at z
      by_cases y : l.count true + t < lim
      · rw [if_pos y] at z
        have := hr.2 y
        omega
      · rw [if_neg y] at z
        obtain ⟨N0, c0, s0, hst⟩ := steady (b := b) h hl h1
        have e := hst (t - (lim - l.count true))
        rw [show lim - l.count true + (t - (lim - l.count true)) = t from by omega] at e
        have hz2 := hr.1
        rw [e, enc_zer] at z hz
        obtain ⟨q1, q2⟩ := SG_short (g := C - lim) c0 s0 (by omega) (i := t - (lim - l.count true)) (b := fun j => b (lim - l.count true + j)) (by omega)
        rw [bsum_shift, show lim - l.count true + (t - (lim - l.count true) - (C - lim)) = t - (C - lim) from by omega] at q2
        exact ⟨by omega, by omega⟩
    · rintro (⟨z1, z2, _⟩ | z)
      · rw [hk] at ha
        omega
      · exact hsh z
end
end Lif

set_option Elab.async false
set_option linter.all false
set_option maxRecDepth 100000
set_option maxHeartbeats 4000000
/-! generators: a for loop in a generator's body -/
namespace Gx
open PySem PySem.Spec PyProof.Rows L2 GenW
def notedK (env : Env) (e : Value) : Sem PySem.Fin := (do noteFrame e env; theTreesLotGoes e : Sem Unit).wrap (fun _ => .raise e) .raise id id
section
variable {prog : Program} {w : World} {A : Around} {R : GenEnd} {Y : Protocol} {n : Nat} {s₀ : Shared} {c : Code} {fs : List Frame} {s : Shared} {env : Env}
theorem seg_forLoop {target : Expr} {itv : Value} {body : List Stmt}
    (h : wpAny (model prog w) (A.over (.forLoop target itv body [] env) fs) (pyNext itv) (fun r s1 => match r with
        | none => Seg (model prog w) A R Y n s₀ (.forLoop target itv body [] env) (.pure (.again (.block [] env))) fs s1
        | some v => wpAny (model prog w) (A.over (.forLoop target itv body [] env) fs) (letOwnedTupleGo target itv v) (fun _ s2 =>
            wpAny (model prog w) (A.over (.forLoop target itv body [] env) fs) (assign target env v) (fun _ s3 =>
              Seg (model prog w) A R Y n s₀ (.forLoop target itv body [] env) ((execs body env).wrap (fun f => match f with
                | .next | .cont => .pure (.again (.forLoop target itv body [] env))
                | .brk => .pure (.done .next)
                | .ret v => .pure (.done (.ret v))) (notedK env) id id) fs s3) (fun x s' => Seg (model prog w) A R Y n s₀ (.forLoop target itv body [] env) (notedK env x) fs s') s2) (fun x s' => Seg (model prog w) A R Y n s₀ (.forLoop target itv body [] env) (notedK env x) fs s') s1)
      (fun x s' => Seg (model prog w) A R Y n s₀ (.forLoop target itv body [] env) (notedK env x) fs s') s) :
    Seg (model prog w) A R Y n s₀ (.forLoop target itv body [] env) ((model prog w).den (.forLoop target itv body [] env)) fs s := by
  show Seg _ A R Y n s₀ _ ((forTurn target itv body [] env).onRaise (fun x => do noteFrame x env; theTreesLotGoes x)) fs s
  have hN : ∀ e : Value, (do noteFrame e env; theTreesLotGoes e : Sem Unit).bind (fun _ => (.raise e : Sem PySem.Fin)) = notedK env e := fun e => by
    rw [Sem.bind_eq_wrap]; rfl
  unfold forTurn
  rw [Sem.onRaise_eq_wrap]
  refine seg_bind_wrap (wpAny_standAt ?_)
  refine seg_bind_wrap (wpAny_onRaise (wpAny_mono h (fun r s1 h1 => ?_) fun x s' hx => wpAny_standAt (by rw [hN]; exact hx)))
  cases r with
  | none => exact h1
  | some v =>
    refine seg_bind_wrap (wpAny_mono h1 (fun _ s2 h2 => ?_) fun x s' hx => by rw [hN]; exact hx)
    refine seg_bind_wrap (wpAny_mono h2 (fun _ s3 h3 => ?_) fun x s' hx => by rw [hN]; exact hx)
    rw [Sem.bind_eq_wrap', Sem.wrap_wrap]
    refine Eq.mpr (congrArg (fun t => Seg (model prog w) A R Y n s₀ (.forLoop target itv body [] env) t fs s3) (Sem.wrap_congr (execs body env) _ _ (K' := fun f => match f with
                | .next | .cont => .pure (.again (.forLoop target itv body [] env))
                | .brk => .pure (.done .next)
                | .ret v => .pure (.done (.ret v))) (H' := notedK env) (fun f => by cases f <;> rfl) (fun e => hN e))) h3
theorem seg_For {target iter : Expr} {body : List Stmt} {pos : Pos} {K : Flow → Sem PySem.Fin} {J : Value → Sem PySem.Fin} {gd : Bool → Bool} {lv : List Value → List Value}
    (h : wpAny (model prog w) (A.over c fs) (eval iter env) (fun x s1 => wpAny (model prog w) (A.over c fs) (pyIter x) (fun itv s2 =>
      ∀ p, Seg (model prog w) A R Y n s₀ (.forLoop target itv body [] env) ((model prog w).den (.forLoop target itv body [] env))
        (.ret (fun r => ((match r with | .ok f => (.pure f : Sem Flow) | .error e => .raise e).onRaise (cameBack env)).wrap K J gd lv) none (gd false) (lv []) c p [] :: fs) s2)
        (fun x s' => Seg (model prog w) A R Y n s₀ c (J x) fs s') s1) (fun x s' => Seg (model prog w) A R Y n s₀ c (J x) fs s') s)
    (hs : ∀ x, foldedSetIterable iter env x = pure x := by intro _; rfl) :
    Seg (model prog w) A R Y n s₀ c ((exec (.For target iter body [] pos) env).wrap K J gd lv) fs s := by
  rw [exec_For]
  refine seg_bind_wrap (wpAny_standAt ?_)
  refine seg_bind_wrap (wpAny_mono h (fun x s1 h1 => ?_) fun _ _ h' => h')
  refine seg_bind_wrap (wpAny_of_eq (hs x) ?_)
  refine seg_bind_wrap (wpAny_standAt ?_)
  refine seg_bind_wrap (wpAny_holding (wpAny_mono h1 (fun itv s2 h2 => ?_) fun _ _ h' => h'))
  exact seg_call h2
end
/-- W: the invariant by the turn and a measure; N: what the body is to reach -/
def tGFor (wi : TI) (g : TG) (tb : TGn) : TGn := fun D ys σ H => wi σ H fun J H1 => ∃ W : Nat → Nat → List V → L2.St → Hp → Prop, (∃ m, W 0 m ys σ H1) ∧ ∀ i m ys σ H, W i m ys σ H →
  (J.stop i H ∧ D.nx ys σ H) ∨ (J.go i H ∧ ∃ N : List V → L2.St → Hp → Prop, (∀ ys' σ' H', N ys' σ' H' → ∃ m', m' < m ∧ W (i + 1) m' ys' σ' H') ∧ ∀ x H', J.yld i H x H' → g x σ H' fun σ2 H2 => tb { D with nx := N, ct := N, bk := D.nx } ys σ2 H2)
section
variable {X : Cx} {tg : Expr}
theorem gs_for {iter : Expr} {body : List Stmt} {wi : TI} {g : TG} {tb : TGn} {pos : Pos} (hp : PassesOwn (model X.prog X.w) X.A X.env X.xe) (hc : X.calm = true) (hi : PI X tg iter wi) (hg : PG X tg g) (hb : GSs X body tb)
    (hs : ∀ x, foldedSetIterable iter X.env x = pure x := by intro _; rfl) : GS X (.For tg iter body [] pos) (tGFor wi g tb) := by
  refine ⟨fun A S ip R n ys s₀ c fs K J gd lv s σ H D gc hn k hI ht => ?_⟩
  obtain ⟨acc0, cc0, r0, I0⟩ := hI
  refine seg_For ?_ hs
  rw [gc.over]
  refine wpAny_mono (hi.run _ s σ H _ I0 ht) (fun v s1 h1 => wpAny_mono h1 (fun itv s2 h2 => ?_) fun x s' hx => k.exc n s₀ x s' hx) fun x s' hx => k.exc n s₀ x s' hx
  intro p
  obtain ⟨it, fp, tn, JJ, H2, e, I2, T, st2, f2, W, ⟨m0, w0⟩, turn⟩ := h2
  subst e
  have gl := fun (kk : Result → Sem PySem.Fin) => gc_loop (k := kk) (c' := .forLoop tg (.ref it) body [] X.env) (l := lv []) (kp := []) (p := p) gc rfl rfl
  have hfS : ∀ b ∈ fp, b ≠ S := fun b hb e => (f2 b hb).2.2.2.2.2 (S, lstObj acc0 cc0) (List.mem_append_right _ List.mem_cons_self) e.symm
  -- what stays true of the iterator's objects through the loop
  have stat : ∀ {H' : Hp} {acc : Array Value} {cc : Nat}, (∀ b ∈ fp, H' b = none) → ∀ b ∈ fp, FpOk X ((S, lstObj acc cc) :: ip) H' b := fun {H' acc cc} hn b hb => ⟨hn b hb, (f2 b hb).2.1, (f2 b hb).2.2.1, (f2 b hb).2.2.2.1, (f2 b hb).2.2.2.2.1, fun q hq => by
    rcases List.mem_append.mp hq with z | z
    · exact (f2 b hb).2.2.2.2.2 q (List.mem_append_left _ z)
    · rcases List.mem_cons.mp z with z | z
      · rw [z]; exact Ne.symm (hfS b hb)
      · exact (f2 b hb).2.2.2.2.2 q (List.mem_append_right _ (List.mem_cons_of_mem _ z))⟩
  have loop : ∀ (m i n : Nat) (ys : List V) (s₀ s : Shared) (σ : L2.St) (H : Hp), n + ys.length = sizeLine → W i m ys σ H → GI X S ip ys σ H s → tn i s.heap → (∀ b ∈ fp, H b = none) →
      Seg (model X.prog X.w) A R (GY X S) n s₀ (.forLoop tg (.ref it) body [] X.env) ((model X.prog X.w).den (.forLoop tg (.ref it) body [] X.env))
        (.ret (fun r => ((match r with | .ok f => (.pure f : Sem Flow) | .error e => .raise e).onRaise (cameBack X.env)).wrap K J gd lv) none (gd false) (lv []) c p [] :: fs) s := by
    intro m
    induction m using Nat.strongRecOn with
    | ind m ih =>
      intro i n ys s₀ s3 σ3 H3 hn w3 hI st3 fr3
      have ee : ∀ (n : Nat) (s₀ : Shared) (x : Value) (s' : Shared), X.xe x s' → Seg (model X.prog X.w) A R (GY X S) n s₀ (.forLoop tg (.ref it) body [] X.env)
          (notedK X.env x)
          (.ret (fun r => ((match r with | .ok f => (.pure f : Sem Flow) | .error e => .raise e).onRaise (cameBack X.env)).wrap K J gd lv) none (gd false) (lv []) c p [] :: fs) s' := fun n s₀ x s' hx => by
        unfold notedK
        refine seg_wrap ?_
        rw [(gl _).over]
        refine wpAny_bind (wpAny_mono (hp x s' hx) (fun _ s'' hcb => wpAny_theTreesLotGoes ?_) fun y s'' hcb => ?_)
        · exact seg_leaf (.error x) (seg_cameBack gc k hcb)
        · exact seg_leaf (.error y) (seg_cameBack gc k hcb)
      obtain ⟨acc, cc, r, I3⟩ := hI
      refine seg_forLoop ?_
      rw [(gl _).over]
      rcases turn i m ys σ3 H3 w3 with ⟨stop, qn⟩ | ⟨go, N, hN, step⟩
      · refine wpAny_mono (T.done X rfl rfl rfl hc i _ s3 σ3 H3 X.xe I3 (stat fr3) st3 stop) (fun r4 s4 h4 => ?_) fun x s' hx => ee n s₀ x s' hx
        obtain ⟨hr, I4⟩ := h4
        subst hr
        refine seg_again rfl ?_
        show Seg _ _ _ _ n s₀ _ ((execs [] X.env).onRaise (fun x => do noteFrame x X.env; theTreesLotGoes x) >>= fun f => Sem.pure (PySem.Fin.done f)) _ s4
        rw [Sem.bind_eq_wrap', Sem.onRaise_eq_wrap, Sem.wrap_wrap]
        refine seg_execs_nil ?_
        exact seg_leaf (.ok .next) (k.ok n ys s₀ s4 .next hn ⟨σ3, H3, ⟨acc, cc, r, I4⟩, qn⟩)
      · refine wpAny_mono (T.item X rfl rfl rfl hc i _ s3 σ3 H3 X.xe I3 (stat fr3) st3 go) (fun r4 s4 h4 => ?_) fun x s' hx => ee n s₀ x s' hx
        obtain ⟨u, hr, h4⟩ := h4
        subst hr
        refine wpAny_mono h4 (fun _ s5 h5 => ?_) fun x s' hx => ee n s₀ x s' hx
        obtain ⟨x, H5, I5, r5, y5, st5, fr5⟩ := h5
        have I5' := I5.pinned (stat fr5) (T.obj _ _ st5)
        refine wpAny_mono (hg.run _ s5 σ3 H5 x u _ I5' r5 (step x H5 y5)) (fun _ s6 h6 => ?_) fun x s' hx => ee n s₀ x s' hx
        obtain ⟨σ6, H6, I6, q6⟩ := h6
        have gcp : ∀ kk : Result → Sem PySem.Fin, GC X S (ip ++ pinsAt fp s5.heap) A (.forLoop tg (.ref it) body [] X.env) (.ret kk none (gd false) (lv []) c p [] :: fs) id := fun kk => ⟨(gl kk).pn, fun q hq => (List.mem_append.mp hq).elim ((gl kk).ip q) fun z => hfS _ (of_pinsAt z).1, (gl kk).apart, (gl kk).over, (gl kk).split, (gl kk).guard, (gl kk).gd⟩
        have unp : ∀ {ys7 : List V} {σ7 : L2.St} {H7 : Hp} {s7 : Shared}, GI X S (ip ++ pinsAt fp s5.heap) ys7 σ7 H7 s7 → GI X S ip ys7 σ7 H7 s7 := fun {ys7 σ7 H7 s7} h7 => by
          obtain ⟨a7, c7, r7, I7⟩ := h7
          exact ⟨a7, c7, r7, Inv.unpinned (pins := (S, lstObj a7 c7) :: ip) (pl := pinsAt fp s5.heap) I7⟩
        have again : ∀ {n' : Nat} {ys7 : List V} {s₀' s7 : Shared} {σ7 : L2.St} {H7 : Hp}, n' + ys7.length = sizeLine → GI X S (ip ++ pinsAt fp s5.heap) ys7 σ7 H7 s7 → N ys7 σ7 H7 → Seg (model X.prog X.w) A R (GY X S) n' s₀' (.forLoop tg (.ref it) body [] X.env) (.pure (.again (.forLoop tg (.ref it) body [] X.env)))
            (.ret (fun r => ((match r with | .ok f => (.pure f : Sem Flow) | .error e => .raise e).onRaise (cameBack X.env)).wrap K J gd lv) none (gd false) (lv []) c p [] :: fs) s7 := fun {n' ys7 s₀' s7 σ7 H7} hn' G7 n7 => by
          obtain ⟨m', hm, w7⟩ := hN ys7 σ7 H7 n7
          obtain ⟨a7, c7, r7, I7⟩ := id G7
          refine seg_again rfl (ih m' hm (i + 1) n' ys7 s₀' s7 σ7 H7 hn' w7 (unp G7) (T.keep _ _ _ st5 fun b hb o e => (I7.pin (b, o) (List.mem_append_right _ (List.mem_cons_of_mem _ (List.mem_append_right _ (mem_pinsAt hb e))))).1) fun b hb => ?_)
          obtain ⟨o, e, d⟩ := T.obj _ _ st5 b hb
          exact (I7.pin (b, o) (List.mem_append_right _ (List.mem_cons_of_mem _ (List.mem_append_right _ (mem_pinsAt hb e))))).2.1
        refine hb.run A S (ip ++ pinsAt fp s5.heap) R n ys s₀ _ _ _ _ id id s6 σ6 H6 { D with nx := N, ct := N, bk := D.nx } (gcp _) hn ⟨fun n' ys' s₀' s7 f hn' hs => ?_, fun n' s₀' x s7 hx => ee n' s₀' x s7 hx⟩ ⟨acc, cc, r, I6⟩ q6
        cases f with
        | next =>
          obtain ⟨σ7, H7, I7, n7⟩ := hs
          exact again hn' I7 n7
        | cont =>
          obtain ⟨σ7, H7, I7, n7⟩ := hs
          exact again hn' I7 n7
        | brk =>
          obtain ⟨σ7, H7, I7, q7⟩ := hs
          exact seg_leaf (.ok .next) (k.ok n' ys' s₀' s7 .next hn' ⟨σ7, H7, unp I7, q7⟩)
        | ret v =>
          obtain ⟨x7, σ7, H7, I7, r7, q7⟩ := hs
          exact seg_leaf (.ok (.ret v)) (k.ok n' ys' s₀' s7 (.ret v) hn' ⟨x7, σ7, H7, unp I7, r7, q7⟩)
  exact loop m0 0 n ys s₀ s2 σ H2 hn w0 ⟨acc0, cc0, r0, I2⟩ st2 fun b hb => (f2 b hb).1
end

/-! ### a generator def -/
structure ClY (P : Program) (w : World) (K : PySem.W.Frag) (mg : Str → Option Value) (base : Heap) (k : Nat) (x : Str) (st : Stmt) (ps : List Str) (dvs : List V) (kws : List (Str × V)) (sp : SpG) : Prop where
  ex : ∃ (f : Addr) (fd : FuncData), mg x = some (.ref f) ∧ FunD K x x (defArgs st) (defBody st) (defScope st) dvs kws f fd ∧ GFn P w K mg base k f fd ps sp
theorem DfG.okY {P : Program} {w : World} {K : PySem.W.Frag} {mg : Str → Option Value} {base : Heap} {x : Str} {st : Stmt} {N ps : List Str} {dvs : List V} {kws : List (Str × V)} {k : Nat} {sp : SpG} (D : DfG K mg x st dvs kws) (S : GScope N ps (defScope st)) (len : ∀ vs H Q E, sp vs H Q E → vs.length = ps.length)
    (hbody : ∀ (f : Addr) (cdv : Value) (A : Around) (outer : List Env) (s : Shared) (H : Hp) (vs : List V) (Q : List V → Hp → Prop) (E : XK) (pn : List (Addr × Obj)), Room k (A.deeper (envOfC x (defScope st) s.heap.objs.size f cdv)) → sp vs H Q E →
      ∃ t, GSs (gcxOf P w K mg base N x (defScope st) f cdv A outer s H E pn) (defBody st) t ∧ t { nx := fun ys _ H' => Q ys H', rt := fun ys v H' => v = .non ∧ Q ys H' } [] (start N vs) H) : ClY P w K mg base (k + 1) x st ps dvs kws sp := by
  obtain ⟨f, fd, h1, h2⟩ := D.ex
  obtain ⟨oc, od, dV, kV, doc, pm, an, cdv, ct, osl, rfl, lk, hcd, _, _⟩ := id h2.ex
  exact ⟨f, _, h1, h2, gfn_of lk hcd S len fun A outer s H vs Q E pn hr hsp => hbody f cdv A outer s H vs Q E pn hr hsp⟩
section
variable {X : Cx} {k n : Nat} {f : Addr} {fd : FuncData} {ps ks : List Str} {sp : SpG} {x : Str} {p pos : Pos} {e : Expr} {es : List Expr} {kw : List Keyword} {t tk : TA} {st : Stmt} {dvs : List V} {kws : List (Str × V)} {g : List Value → List Value → List Value} {gV : List V → List V → List V} {EE : XK}
theorem run_gfnNS {pins : List (Addr × Obj)} {σ : L2.St} {H : Hp} {s : Shared} {cont : List V → Hp → Prop} {E1 : Value → Shared → Prop} {us ws : List Value} {vs zs : List V} (F : GFn X.prog X.w X.K X.mg X.base k f fd ps sp) (hr : Room k X.A) (hb : KBn X.K fd ps n ks g gV)
    (I : Inv X pins σ H s) (r : Vals vs us) (rz : Vals zs ws) (l1 : vs.length = n) (l2 : zs.length = ks.length) (h : sp (gV vs zs) H cont EE) :
    wpAny (model X.prog X.w) X.A (call (.ref f) us (ks.zip ws)) (fun u s' => ∃ H1 sc ex, Inv X pins σ H1 sc ∧ ExOk X pins ex ∧ GMade X.prog X.w k X.stack H1 sc ex cont EE u s') E1 s := by
  have r2 := hb.rel r rz
  refine wpAny_call (codeAny_mono (F.run X.A X.stack s H ⟨us, ks.zip ws⟩ (g us ws) (gV vs zs) cont EE hr I.env0 (hb.to s us ws I.kIn (r.length.symm.trans l1) (rz.length.symm.trans l2)) r2 h) fun r s' hq => ?_)
  cases r with
  | error e => exact False.elim hq
  | ok fl =>
    cases fl with
    | ret u => exact ⟨H, s, [], I, .nil, hq⟩
    | next => exact False.elim hq
    | brk => exact False.elim hq
    | cont => exact False.elim hq
def tCallGN (n m : Nat) (sp : SpG) (gV : List V → List V → List V) (E : XK) (t tk : TA) : TGen := fun σ H cont => t σ H fun vs H1 => tk σ H1 fun zs H2 => vs.length = n ∧ zs.length = m ∧ sp (gV vs zs) H2 cont E
theorem pgen_kd (C : ClY X.prog X.w X.K X.mg X.base k x st ps dvs kws sp) (hr : Room k X.A) (n : Nat) (ks : List Str) (ms : List (Str × V)) (g : {α : Type} → List α → List α → List α → List α → List α) (hd : dvs ≠ []) (hk : kws ≠ []) (hms : ∀ q ∈ ms, q ∈ kws)
    (hrel : ∀ {vs ds mz zs : List V} {us its mv ws : List Value}, Vals vs us → Vals ds its → Vals mz mv → Vals zs ws → Vals (g vs ds mz zs) (g us its mv ws))
    (h : ∀ (T D : Addr) (doc pm : Value) (an : Option Addr) (cdv ct : Value) (us its mv ws : List Value), us.length = n → its.length = dvs.length → mv.length = ms.length → ws.length = ks.length →
      ∃ k, bindArgs (PySem.W.fnOf x x (defArgs st) (defBody st) (defScope st) (.ref T) (.ref D) doc pm an cdv ct) ⟨us, ks.zip ws⟩ = seqItems? (.ref T) >>= k ∧ KwChain D ((ms.map (·.1)).zip mv) (k (some its.toArray)) (ps.zip (g us its mv ws)))
    (ha : PA X (e :: es) t) (hkw : PK X kw tk) (hg : Gl X x := by rfl) (hall : (backToKw pos (keywordEach kw X.env)).all (·.1.isSome) = true := by rfl) (hks : (backToKw pos (keywordEach kw X.env)).filterMap (·.1) = ks := by rfl)
    (hdb : (x == ("__debug__" : Str)) = false := by decide) (he : starEach (e :: es) X.env = (false, eval e X.env) :: starEach es X.env := by rfl)
    (hpl : ((backTo pos (starEach (e :: es) X.env)).any (·.1) || (backToKw pos (keywordEach kw X.env)).any (·.1.isNone)) = false := by rfl) :
    PGen X k (.Call (.Name x p) (e :: es) kw pos) (tCallGN n ks.length sp (fun vs zs => g vs dvs (ms.map (·.2)) zs) E0 t tk) E0 := by
  obtain ⟨f, fd, h1, h2, h4⟩ := C.ex
  obtain ⟨its, mv, hb⟩ := h2.kbinds n ks ms g hd hk hms hrel h
  refine ⟨fun pins s σ H cont I q => ?_⟩
  refine wpAny_Call_Name_kw (ld_glob I hg h1 ?_ hdb)
  refine PySem.W.callWith_KW (h₀ := X.base) I.ok.mod.kin h2.kp hall (thn (ha.run pos pins s σ H _ I q) fun us s1 ⟨vs, H1, I1, r, q⟩ => ?_) hpl he
  refine thn (hkw.run pos pins s1 σ H1 _ I1 q) fun ws s2 ⟨zs, H2, I2, rz, l1, l2, q2⟩ => ⟨I2.kIn, ?_⟩
  rw [hks]
  exact run_gfnNS h4 hr hb I2 r rz l1 l2 q2
theorem passY0 {X : Cx} : Passes (L2.CX X.prog X.w) X E0 := fun _ _ _ _ _ _ _ h => by
  obtain ⟨_, _, _, _, _, _, _, _, _, _, _, _, h⟩ := h
  exact h.elim
theorem noStop0 {K : PySem.W.Frag} : NoStop K E0 := fun _ _ _ h => h.elim
theorem pe_lsG {tg : TGen} (h : PGen X k e tg E0) (hr : Room (k + 3) X.A) (hg : Gl X "list") (hmg : X.mg "list" = none)
    (he : starEach [e] X.env = (false, eval e X.env) :: starEach [] X.env := by rfl) : PE X (.Call (.Name "list" p) [e] [] pos) (tListG tg) := pe_listG h passY0 noStop0 hr hg hmg (by decide +kernel) (he := he)
end
/-! ### steps -/
section
variable {D : GEnds} {ys : List V} {σ τ : L2.St} {H : Hp} {Q : VK}
/-- what comes of a generator that is drained at once -/
def rNewG (sp : List V → Hp → (List V → Hp → Prop) → XK → Prop) (vs : List V) (E : XK) (H : Hp) (Q : VK) : Prop := sp vs H (fun out H2 => ∀ p, H2 p = none → Q (.ref p) (upd H2 p (.lst out))) E
instance {n m : Nat} {sp : SpG} {gV : List V → List V → List V} {E : XK} {t tk : TA} : Step (tListG (tCallGN n m sp gV E t tk) σ H Q) (t σ H fun vs H1 => tk σ H1 fun zs H2 => vs.length = n ∧ zs.length = m ∧ rNewG sp (gV vs zs) E H2 Q) := ⟨fun q => q⟩
theorem g_newG {out : List V} {H2 : Hp} (q : ∀ p H3, Nw H2 p → Ex H2 H3 → At H3 p (.lst out) → Q (.ref p) H3) : ∀ p, H2 p = none → Q (.ref p) (upd H2 p (.lst out)) := fun p hp => q p _ ⟨hp⟩ (Ex.mk hp) ⟨upd_same⟩
/-- a generator's ends, taken apart -/
instance {t : TS} : Step (tPlain t D ys σ H) (t (Ends.mk (D.nx ys) (D.rt ys) (D.bk ys) (D.ct ys)) σ H) := ⟨fun q => q⟩
instance {t u : TGn} : Step (tGThen t u D ys σ H) (t (GEnds.mk (fun ys' σ' H' => u D ys' σ' H') D.rt D.bk D.ct) ys σ H) := ⟨fun q => q⟩
instance : Step (tG0 D ys σ H) (D.nx ys σ H) := ⟨fun q => q⟩
section
variable {a : List V → L2.St → Hp → Prop} {r : List V → VK} {b c : List V → L2.St → Hp → Prop}
instance : Step ((GEnds.mk a r b c).nx ys σ H) (a ys σ H) := ⟨fun q => q⟩
instance : Step ((GEnds.mk a r b c).rt ys v H) (r ys v H) := ⟨fun q => q⟩
instance : Step ((GEnds.mk a r b c).bk ys σ H) (b ys σ H) := ⟨fun q => q⟩
instance : Step ((GEnds.mk a r b c).ct ys σ H) (c ys σ H) := ⟨fun q => q⟩
end
theorem g_yield {te : TE} (hz : ys.length < 100000) (q : te σ H fun x H1 => D.nx (ys ++ [x]) σ H1) : tGYield te D ys σ H := ⟨Nat.lt_of_lt_of_le hz (by decide), q⟩
def GLI (bs : List Addr) (H : Hp) (Pv : List V → L2.St → Hp → Prop) : List V → L2.St → Hp → Prop := fun ys σ' H' => Chg bs H H' ∧ Pv ys σ' H'
theorem gli {bs : List Addr} {H H' : Hp} {Pv : List V → L2.St → Hp → Prop} {ys : List V} {σ' : L2.St} [r : RelC bs H H'] [k : Anc H H'] (h : Pv ys σ' H') : GLI bs H Pv ys σ' H' := ⟨rel, h⟩
abbrev GForW (J : It) (g : TG) (tb : TGn) (D : GEnds) (ys : List V) (σ : L2.St) (H : Hp) : Prop := ∃ W : Nat → Nat → List V → L2.St → Hp → Prop, (∃ m, W 0 m ys σ H) ∧ ∀ i m ys σ H, W i m ys σ H →
  (J.stop i H ∧ D.nx ys σ H) ∨ (J.go i H ∧ ∃ N : List V → L2.St → Hp → Prop, (∀ ys' σ' H', N ys' σ' H' → ∃ m', m' < m ∧ W (i + 1) m' ys' σ' H') ∧ ∀ x H', J.yld i H x H' → g x σ H' fun σ2 H2 => tb { D with nx := N, ct := N, bk := D.nx } ys σ2 H2)
theorem gfor_feeds {J : It} {n : Nat} {S : Hp → Prop} {Y : Nat → Hp → V → Hp → Prop} {g : TG} {tb : TGn} (F : Feeds J n S Y) (bs : List Addr) (Pv : Nat → List V → L2.St → Hp → Prop) (h0 : Pv 0 ys σ H) (hS : ∀ H', Chg bs H H' → S H')
    (hs : ∀ (i : Nat) ys' σ' H' x H'', i < n → Chg bs H H' → Pv i ys' σ' H' → Y i H' x H'' → g x σ' H'' fun σ2 H2 => tb (GEnds.mk (GLI bs H (Pv (i + 1))) D.rt D.nx (GLI bs H (Pv (i + 1)))) ys' σ2 H2) (hd : ∀ ys' σ' H', Chg bs H H' → Pv n ys' σ' H' → D.nx ys' σ' H') :
    GForW J g tb D ys σ H := by
  refine ⟨fun i m ys' σ' H' => m = n - i ∧ i ≤ n ∧ GLI bs H (Pv i) ys' σ' H', ⟨n, rfl, Nat.zero_le _, Chg.refl _ _, h0⟩, ?_⟩
  rintro i m ys' σ' H' ⟨rfl, hi, r, p⟩
  have q := hS H' r
  by_cases hlt : i < n
  · exact .inr ⟨F.go i H' q hlt, GLI bs H (Pv (i + 1)), fun ys' σ' H' p' => ⟨n - (i + 1), by omega, rfl, hlt, p'⟩, fun v H'' y => hs i ys' σ' H' v H'' hlt r p (F.yld i H' v H'' q hlt y)⟩
  · have e : i = n := by omega
    subst e
    exact .inl ⟨F.stop H' q, hd ys' σ' H' r p⟩
def rGFor1 (vs : List V) (g : TG) (tb : TGn) (D : GEnds) (ys : List V) (σ : L2.St) (H : Hp) : Prop := tGFor (iRng1 fun _ H R => R vs H) g tb D ys σ H
def rGForL (K : PySem.W.Frag) (v : V) (g : TG) (tb : TGn) (D : GEnds) (ys : List V) (σ : L2.St) (H : Hp) : Prop := tGFor (iList K fun _ H R => R v H) g tb D ys σ H
instance {ta : TA} {g : TG} {tb : TGn} : Step (tGFor (iRng1 ta) g tb D ys σ H) (ta σ H fun vs H1 => rGFor1 vs g tb D ys σ H1) := ⟨fun q => q⟩
instance {K : PySem.W.Frag} {tl : TE} {g : TG} {tb : TGn} : Step (tGFor (iList K tl) g tb D ys σ H) (tl σ H fun v H1 => rGForL K v g tb D ys σ H1) := ⟨fun q => q⟩
theorem gfor1 {n : Int} {g : TG} {tb : TGn} (bs : List Addr) (Pv : Nat → List V → L2.St → Hp → Prop) (hn : -(2 ^ 62) ≤ n ∧ n < 2 ^ 62) (h0 : Pv 0 ys σ H)
    (hs : ∀ (i : Nat) ys' σ' H', (i : Int) < n → Chg bs H H' → Pv i ys' σ' H' → g (.int (i : Int)) σ' H' fun σ2 H2 => tb (GEnds.mk (GLI bs H (Pv (i + 1))) D.rt D.nx (GLI bs H (Pv (i + 1)))) ys' σ2 H2)
    (hd : ∀ ys' σ' H', Chg bs H H' → Pv n.toNat ys' σ' H' → D.nx ys' σ' H') : rGFor1 [.int n] g tb D ys σ H :=
  ⟨n, rfl, hn.1, hn.2, gfor_feeds (fd_rng (lo := 0)) bs Pv h0 (fun _ _ => trivial) (fun i ys' σ' H' x H'' hi r p y => by
    obtain ⟨rfl, rfl⟩ := y
    rw [Int.zero_add]
    exact hs i ys' σ' _ (by omega) r p) hd⟩
theorem gforL {K : PySem.W.Frag} {a : Addr} {xs : List V} {g : TG} {tb : TGn} (bs : List Addr) (Pv : Nat → List V → L2.St → Hp → Prop) [hx : SqC K H a xs] [hn : NotIn a bs] (h0 : Pv 0 ys σ H)
    (hs : ∀ (i : Nat) x ys' σ' H', xs[i]? = some x → Chg bs H H' → Pv i ys' σ' H' → g x σ' H' fun σ2 H2 => tb (GEnds.mk (GLI bs H (Pv (i + 1))) D.rt D.nx (GLI bs H (Pv (i + 1)))) ys' σ2 H2)
    (hd : ∀ ys' σ' H', Chg bs H H' → Pv xs.length ys' σ' H' → D.nx ys' σ' H') : rGForL K (.ref a) g tb D ys σ H :=
  ⟨a, rfl, ⟨xs, hx.sq⟩, gfor_feeds fd_list bs Pv h0 (fun _ r => r.l hn.out hx.sq) (fun i ys' σ' H' x H'' hi r p y => by
    obtain ⟨rfl, y⟩ := y
    exact hs i x ys' σ' _ y r p) hd⟩
end
end Gx

set_option Elab.async false
set_option linter.all false
set_option maxRecDepth 100000
set_option maxHeartbeats 4000000
/-! texts of any signs; x.replace(c, "") of two written texts -/
namespace Gx
open PySem PySem.Spec PyProof.Rows L2
section
variable {X : Cx} {o a b e : Expr} {rest : List Expr} {to ta tb : TE} {apos cpos pos : Pos} {y z : Str} {j0 j1 : Nat} {c0 c1 : Pos}
/-- a test where a token is out; one behind which a token is out -/
def PTT (X : Cx) (e : Expr) (t : TT) : Prop := ∀ (pins : List (Addr × Obj)) (s : Shared) (σ : L2.St) (H : Hp) (Q : Bool → Hp → Prop), 1 ≤ s.toks → Inv X pins σ H s → t σ H Q →
  wpAny (model X.prog X.w) X.A (isTrue e X.env (eval e X.env)) (TP X pins σ Q) X.xe s
def PT1 (X : Cx) (e : Expr) (t : TT) : Prop := ∀ (pins : List (Addr × Obj)) (s : Shared) (σ : L2.St) (H : Hp) (Q : Bool → Hp → Prop), Inv X pins σ H s → t σ H Q →
  wpAny (model X.prog X.w) X.A (isTrue e X.env (eval e X.env)) (fun v s' => 1 ≤ s'.toks ∧ TP X pins σ Q v s') X.xe s
theorem pet_of {t : TE} (h : PE X e t) : PET X e t := fun pins s σ H Q _ I q => h.run pins s σ H Q I q
def tRepC (y z : Str) (to : TE) : TE := fun σ H Q => to σ H fun x H1 => ∃ u : Str, x = .str u ∧ u.length ≤ 100000 ∧ Q (.str (Txt.replace u y z)) H1
theorem pet_rep (hyz : (y == z) = false) (hz : z.length ≤ 14) (ho : PET X o to)
    (hbase : attributeBase o "replace" X.env (eval o X.env) = eval o X.env := by rfl)
    (hfew : ((backTo cpos (starEach [.Constant (.str y) j0 c0, .Constant (.str z) j1 c1] X.env)).all (fun x => !x.1) && (backToKw cpos (keywordEach [] X.env)).all (fun x => x.1.isSome)
      && decide (([.Constant (.str y) j0 c0, .Constant (.str z) j1 c1] : List Expr).length + ([] : List Keyword).length + (if ([] : List Keyword).isEmpty then 0 else 1) < 30)) = true := by rfl)
    (hline : (apos.endLine == cpos.line) = true := by rfl) :
    PET X (.Call (.Attribute o "replace" apos) [.Constant (.str y) j0 c0, .Constant (.str z) j1 c1] [] cpos) (tRepC y z to) := by
  intro pins s σ H Q h0 I h
  refine wpAny_Call_method_late hbase hfew hline rfl ?_
  refine wpAny_mono (PySem.wpAny_toks (ho pins s σ H _ h0 I h)) (fun v s1 q => ?_) fun _ _ q => q.2
  obtain ⟨hk, x, H1, I1, r1, u, rfl, hu, q1⟩ := q
  obtain ⟨h1, h2⟩ := tyV_is (T := "str") I1 r1 rfl
  refine ⟨"str", "str.replace", PySem.F.plainAttrs_str, PySem.F.slot_str_replace, PySem.F.type_str_replace, h1, h2, ?_⟩
  refine Calls.callWith_builtin (by rfl) (Calls.evalArgs_plain ?_)
  show wpAny _ _ (spliced ((false, eval (.Constant (.str y) j0 c0) X.env) :: backTo cpos (starEach [.Constant (.str z) j1 c1] X.env))) _ _ s1
  refine Calls.spliced_cons (Calls.Constant_str ?_)
  show wpAny _ _ (spliced ((false, eval (.Constant (.str z) j1 c1) X.env) :: backTo cpos (starEach [] X.env))) _ _ _
  refine Calls.spliced_cons (Calls.Constant_str (Calls.spliced_nil ?_))
  obtain ⟨t, rfl⟩ := r1
  have k1 : s1.toks ≠ 0 := by omega
  have k2 : s1.toks + 1 ≠ 0 := by omega
  have k3 : s1.toks ≠ s1.toks + 1 := by omega
  refine SC.replaceW k1 k2 k3 hyz (by omega) hz fun t' n => ?_
  exact ⟨.str (Txt.replace u y z), H1, I1.tok _, ⟨_, rfl⟩, q1⟩
theorem ptt_cmpR {op : CmpOp} {r : R2} (ho : OpR X (compareOp op) r) (ha : PET X a ta) (hb : PE X b tb) (hm : behindInMarks op b = false) : PTT X (.Compare a [op] [b] pos) (tTest (tOp r ta tb)) := by
  intro pins s σ H Q h0 I h
  refine wpAny_isTrue_Compare1 (thn (ha pins s σ H _ h0 I h) fun v s1 ⟨x, H1, I1, r1, q1⟩ => thn (hb.run pins s1 σ H1 _ I1 q1) fun u s2 ⟨w, H2, I2, r2, q2⟩ =>
    thn (ho pins s2 σ H2 x w v u _ I2 r1 r2 q2) fun c s3 q3 => ?_) hm
  obtain ⟨k, H3, I3, r3, d, rfl, q3⟩ := q3
  cases r3
  exact wpAny_truthy_bool ⟨H3, I3, q3⟩
theorem pt1_cmpC {op : CmpOp} {r : R2} (ho : OpR X (compareOp op) r) (ha : PE X a ta) (hm : behindInMarks op (.Constant (.str y) j0 c0) = false) : PT1 X (.Compare a [op] [.Constant (.str y) j0 c0] pos) (tTest (tOp r ta (tC (.str y)))) := by
  intro pins s σ H Q I h
  refine wpAny_isTrue_Compare1 (thn (ha.run pins s σ H _ I h) fun v s1 ⟨x, H1, I1, r1, q1⟩ => Calls.Constant_str ?_) hm
  refine wpAny_mono (PySem.wpAny_toks (ho pins { s1 with toks := s1.toks + 1 } σ H1 x (.str y) v _ _ (I1.tok _) r1 ⟨_, rfl⟩ q1)) (fun c s3 q3 => ?_) fun _ _ q => q.2
  obtain ⟨hk, k, H3, I3, r3, d, rfl, q3⟩ := q3
  have hk : s1.toks + 1 ≤ s3.toks := hk
  cases r3
  exact wpAny_truthy_bool ⟨by omega, H3, I3, q3⟩
theorem pw_orT {tA tB' : TT} (ha : PT1 X a tA) (hb : PTT X b tB') : PW X (.BoolOp .Or [a, b] pos) (tOr tA tB') := by
  refine ⟨fun wh pins s σ H Q I h => ?_⟩
  refine isTrue_or (thn (ha pins s σ H _ I h) fun c s1 ⟨h0, H1, I1, q1⟩ => ?_)
  cases c with
  | true => exact ⟨H1, I1, q1⟩
  | false =>
    refine isTrue_or (thn (hb pins s1 σ H1 Q h0 I1 q1) fun d s2 q2 => ?_)
    cases d with
    | false => exact isTrue_or_nil q2
    | true => exact q2
end
end Gx

set_option Elab.async false
set_option linter.all false
set_option maxRecDepth 100000
set_option maxHeartbeats 4000000
/-! list(gen(..)) where the generator may raise: what is raised, told at the state of the call -/
namespace Gx
open PySem PySem.Spec PyProof.Rows L2 GenW
/-- exceptions of one class alone -/
def rOnly (C : Value) (E : XK) : XK := fun cls d H => cls = C ∧ E cls d H
theorem only_of {C : Value} {E : XK} {d : Option Addr} {H : Hp} (q : E C d H) : rOnly C E C d H := ⟨rfl, q⟩
structure PGenA (X : Cx) (k : Nat) (e : Expr) (tg : TGen) (E : L2.St → XK) : Prop where
  go : ∀ (pins : List (Addr × Obj)) (s : Shared) (σ : L2.St) (H : Hp) (cont : List V → Hp → Prop), Inv X pins σ H s → tg σ H cont →
    wpAny (model X.prog X.w) X.A (eval e X.env) (fun u s' => ∃ H1 sc ex, Inv X pins σ H1 sc ∧ ExOk X pins ex ∧ GMade X.prog X.w k X.stack H1 sc ex cont (E σ) u s') X.xe s
section
variable {X : Cx} {k n : Nat} {f : Addr} {fd : FuncData} {ps ks : List Str} {sp : SpG} {x : Str} {p pos : Pos} {e : Expr} {es : List Expr} {kw : List Keyword} {t tk : TA} {st : Stmt} {dvs : List V} {kws : List (Str × V)} {tg : TGen} {C : Value} {W : WX}
def tCallGA (n m : Nat) (sp : SpG) (gV : List V → List V → List V) (E : L2.St → XK) (t tk : TA) : TGen := fun σ H cont => t σ H fun vs H1 => tk σ H1 fun zs H2 => vs.length = n ∧ zs.length = m ∧ sp (gV vs zs) H2 cont (E σ)
theorem pgen_kdA (E : L2.St → XK) (C : ClY X.prog X.w X.K X.mg X.base k x st ps dvs kws sp) (hr : Room k X.A) (n : Nat) (ks : List Str) (ms : List (Str × V)) (g : {α : Type} → List α → List α → List α → List α → List α) (hd : dvs ≠ []) (hk : kws ≠ []) (hms : ∀ q ∈ ms, q ∈ kws)
    (hrel : ∀ {vs ds mz zs : List V} {us its mv ws : List Value}, Vals vs us → Vals ds its → Vals mz mv → Vals zs ws → Vals (g vs ds mz zs) (g us its mv ws))
    (h : ∀ (T D : Addr) (doc pm : Value) (an : Option Addr) (cdv ct : Value) (us its mv ws : List Value), us.length = n → its.length = dvs.length → mv.length = ms.length → ws.length = ks.length →
      ∃ k, bindArgs (PySem.W.fnOf x x (defArgs st) (defBody st) (defScope st) (.ref T) (.ref D) doc pm an cdv ct) ⟨us, ks.zip ws⟩ = seqItems? (.ref T) >>= k ∧ KwChain D ((ms.map (·.1)).zip mv) (k (some its.toArray)) (ps.zip (g us its mv ws)))
    (ha : PA X (e :: es) t) (hkw : PK X kw tk) (hg : Gl X x := by rfl) (hall : (backToKw pos (keywordEach kw X.env)).all (·.1.isSome) = true := by rfl) (hks : (backToKw pos (keywordEach kw X.env)).filterMap (·.1) = ks := by rfl)
    (hdb : (x == ("__debug__" : Str)) = false := by decide) (he : starEach (e :: es) X.env = (false, eval e X.env) :: starEach es X.env := by rfl)
    (hpl : ((backTo pos (starEach (e :: es) X.env)).any (·.1) || (backToKw pos (keywordEach kw X.env)).any (·.1.isNone)) = false := by rfl) :
    PGenA X k (.Call (.Name x p) (e :: es) kw pos) (tCallGA n ks.length sp (fun vs zs => g vs dvs (ms.map (·.2)) zs) E t tk) E := by
  obtain ⟨f, fd, h1, h2, h4⟩ := C.ex
  obtain ⟨its, mv, hb⟩ := h2.kbinds n ks ms g hd hk hms hrel h
  refine ⟨fun pins s σ H cont I q => ?_⟩
  refine wpAny_Call_Name_kw (ld_glob I hg h1 ?_ hdb)
  refine PySem.W.callWith_KW (h₀ := X.base) I.ok.mod.kin h2.kp hall (thn (ha.run pos pins s σ H _ I q) fun us s1 ⟨vs, H1, I1, r, q⟩ => ?_) hpl he
  refine thn (hkw.run pos pins s1 σ H1 _ I1 q) fun ws s2 ⟨zs, H2, I2, rz, l1, l2, q2⟩ => ⟨I2.kIn, ?_⟩
  rw [hks]
  exact run_gfnNS h4 hr hb I2 r rz l1 l2 q2
theorem cx_weak {P : Program} {w : World} {outer : List Env} {H : Hp} {s s' : Shared} {E E' : XK} {v : Value} (hE : ∀ cls d H, E cls d H → E' cls d H) (c : L2.CX P w outer H s E v s') : L2.CX P w outer H s E' v s' := by
  obtain ⟨a, B, H', cls, d, q1, q2, q3, q4, q5, q6, q7, q8⟩ := c
  exact ⟨a, B, H', cls, d, q1, q2, q3, q4, q5, q6, q7, hE _ _ _ q8⟩
theorem cx_in {σ : L2.St} {H1 : Hp} {sc s' : Shared} {pins : List (Addr × Obj)} {E : XK} {v : Value} (I1 : Inv X pins σ H1 sc) (c : L2.CX X.prog X.w X.stack H1 sc E v s') : X.K.In s'.heap := by
  obtain ⟨_, _, _, _, _, _, f1, _, u1, _⟩ := c
  exact I1.ok.mod.kin.keeps fun b o eb => f1.1 b o (u1.keep b o (I1.bs b o eb).1 (I1.bs b o eb).2 fun hm =>
    (List.mem_cons.mp (I1.stkSub b hm)).elim (fun z => absurd (Heap.lt_size eb) (by rw [z]; exact Nat.not_lt.mpr (Nat.le_trans I1.ok.bsz I1.ok.above))) (I1.ok.nofr eb))
theorem cx_fin {outer : List Env} {H : Hp} {sc s' : Shared} {E : XK} {v : Value} {g : Nat} (c : L2.CX X.prog X.w outer H sc E v s') : L2.CX X.prog X.w outer H sc E v (s'.setGen g .finished) := by
  obtain ⟨a, B, H', cls, d, q1, q2, q3, q4, q5, q6, q7, q8⟩ := c
  exact ⟨a, B, H', cls, d, q1, q2, q3, q4, q5, q6, allBare_setGen q7 rfl, q8⟩
theorem pe_lsGA (h : PGenA X k e tg (fun σ => rOnly C (WE W σ))) (tk : Takes X W) (hns : PySem.W.subIn X.K C (.type "StopIteration") = some false) (hr : Room (k + 3) X.A) (hg : Gl X "list") (hmg : X.mg "list" = none)
    (he : starEach [e] X.env = (false, eval e X.env) :: starEach [] X.env := by rfl) : PE X (.Call (.Name "list" p) [e] [] pos) (tListG tg) := by
  have hb : bootBuiltins "list" = some (.type "list") := by decide +kernel
  constructor
  intro pins s σ H Q I hq
  refine wpAny_Call_Name_kw (ld_blt I hg hmg hb (PyProof.Rows.callWith_type1 ?_ he rfl) (by decide) (by decide))
  rw [he]
  show wpAny _ _ (spliced ((false, eval e X.env) :: backTo pos (starEach [] X.env))) _ _ s
  refine Calls.spliced_cons (thn (h.go pins s σ H _ I hq) ?_)
  rintro u s1 ⟨H1, sc, ex, I1, hex, hG⟩
  have hup : sc.heap.objs.size ≤ s1.heap.objs.size := let ⟨_, _, _, _, z1, z2, _⟩ := hG; Nat.le_trans z1 (Nat.le_of_lt z2)
  refine Calls.spliced_nil (call_list_new hr I1.ok.frames hG ?_ ?_)
  · intro S s' acc c H' ys r0 r1 r2 r3 r4 r5 r6 r7 r8 r9
    exact ⟨.ref S, upd H' S (.lst ys), Inv.drained I1 (Nat.le_trans hup r0) r3 r1 r2 hex r4 r5 r6 r7 r8, rfl, r9 S r8⟩
  · intro v s' g c
    refine ⟨notStop_of (K := X.K) (fun cls d H' hE => ?_) (cx_in I1 c) c, passC tk σ pins H1 sc v _ I1 (cx_weak (fun cls d H' hE => hE.2) (cx_fin c))⟩
    rw [hE.1]
    exact hns
end
section
variable {σ : L2.St} {H : Hp} {Q : VK}
instance {n m : Nat} {sp : SpG} {gV : List V → List V → List V} {E : L2.St → XK} {t tk : TA} : Step (tListG (tCallGA n m sp gV E t tk) σ H Q) (t σ H fun vs H1 => tk σ H1 fun zs H2 => vs.length = n ∧ zs.length = m ∧ rNewG sp (gV vs zs) (E σ) H2 Q) := ⟨fun q => q⟩
end
end Gx

set_option Elab.async false
set_option linter.all false
set_option maxRecDepth 100000
set_option maxHeartbeats 4000000
/-! try with several clauses, some with a name -/
namespace Gx
open PySem PySem.Spec PyProof.Rows L2
/-- an exception that has come down in the frame of the try -/
def Ld (X : Cx) (pins : List (Addr × Obj)) (a : Addr) (cls : Value) (d : Option Addr) (σ : L2.St) (H : Hp) (s : Shared) : Prop :=
  ∃ (B : Heap) (t : Shared), Inv X pins σ H t ∧ (∀ b o, t.heap.get? b = some o → b ∉ frs X.stack → B.get? b = some o) ∧ t.heap.UpToSlots s.heap ∧ HandSPX.FlyingZ B (X.env :: X.outer) a (Zc cls d) s.heap ∧ H a = none ∧ s.os = t.os ∧ AllBare s.gens
section
variable {X : Cx} {pins : List (Addr × Obj)} {a : Addr} {cls c : Value} {d : Option Addr} {σ : L2.St} {H : Hp} {s : Shared} {x n : Str} {i : Nat} {W2 : Ends → WX} {Wout : WX} {hds : List ExceptHandler} {b₀ : Stmt} {suite body : List Stmt} {np pos pos' : Pos} {ts : Addr → Value → Option Addr → TS} {tb : WX → TS}
theorem Ld.inv (L : Ld X pins a cls d σ H s) : Inv X pins σ H s := by
  obtain ⟨B, t, J, nb, up, fl, _, os, ag⟩ := L
  exact Inv.landed J nb fl.1 up os ag
theorem Ld.again {A : Around} {Q : Unit → Shared → Prop} {E : Value → Shared → Prop} (L : Ld X pins a cls d σ H s) (q : ∀ s', Ld X pins a cls d σ H s' → Q () s') : wpAny (model X.prog X.w) A (setFlight (.ref a) none) Q E s := by
  obtain ⟨B, t, J, nb, up, fl, na, os, ag⟩ := L
  exact HandSPX.lands_againZ fl fun h fl' up' => q _ ⟨B, t, J, nb, up.trans up', fl', na, os, ag⟩
theorem Ld.hot (hf : X.env.frame = some X.env.locals) (L : Ld X pins a cls d σ H s) : ∃ oe, s.heap.get? a = some oe ∧ Zc cls d oe ∧ (∃ vs, oe.data = .fields vs) ∧ Inv (X.suite a ((a, oe) :: (X.pn ++ pins))) [] σ H s := by
  have J := L.inv
  obtain ⟨B, t, _, nb, up, fl, na, os, ag⟩ := L
  obtain ⟨oe, vs, e1, z1, d1⟩ := fl.there
  have off : a ∉ frs (X.env :: X.outer) := fun hm => by
    obtain ⟨_, o, e2, h2⟩ := fl.2.2.1.mem hm
    rw [e1] at e2
    cases e2
    exact h2 _ d1
  refine ⟨oe, e1, z1, ⟨vs, d1⟩, Inv.suite J e1 d1 na ?_ ?_⟩
  · intro z
    exact off (List.mem_filterMap.mpr ⟨X.env, List.mem_cons_self .., by rw [hf, z]⟩)
  · intro hm
    obtain ⟨e, h1, h2⟩ := List.mem_filterMap.mp hm
    exact off (List.mem_filterMap.mpr ⟨e, List.mem_cons_of_mem _ h1, h2⟩)
theorem Ld.test {b : Bool} {Q : Bool → Shared → Prop} {E1 E2 : Value → Shared → Prop} (hf : X.env.frame = some X.env.locals) (L : Ld X pins a cls d σ H s) (hc : Names X x c) (hb : PySem.W.exmOne X.K cls c = some b) (q : Q b s) :
    wpAny (model X.prog X.w) (X.A.mark (some (.ref a))) (eval (.Name x np) X.env) (fun v s1 => wpAny (model X.prog X.w) (X.A.mark (some (.ref a))) (excMatches (.ref a) v) Q E2 s1) E1 s := by
  obtain ⟨oe, e1, z1, _, S⟩ := L.hot hf
  have ty : PySem.W.Looks (model X.prog X.w) s.heap (typeOf (.ref a)) cls := fun A Q E s' kp qq => wpAny_typeOf_ref (kp _ _ e1) (by rw [z1.1]; exact qq)
  have ok := (PySem.W.exm_one (M := model X.prog X.w) L.inv.kIn ty hb)
  obtain ⟨g1, g2, g3⟩ := hc
  rcases g3 with g3 | ⟨g3, g4, g5⟩
  · exact ld_glob S g1 g3 (ok.here q) g2
  · exact ld_blt S g1 g3 g4 (ok.here q) g5 g2
theorem Ld.pass {z : String} {D : Ends} (hs : X.stack = X.env :: X.outer) (hf : X.env.frame = some X.env.locals) (L : Ld X pins a cls d σ H s) (tk : Takes X Wout) (w : Wout cls d σ H) : wpAny (model X.prog X.w) X.A (PySem.passOn z (.ref a) X.env : Sem Flow) (SP X pins D) X.xe s := by
  obtain ⟨B, t, J, nb, up, fl, na, os, ag⟩ := L
  have out : ∀ h4, HandSPX.HeldZ B (X.env :: X.outer) a (Zc cls d) X.env.locals h4 → s.heap.UpToSlots h4 → X.xe (.ref a) { s with heap := h4 } := fun h4 hh up4 =>
    tk _ _ ⟨a, B, t, pins, σ, H, cls, d, rfl, J, nb, up.trans up4, .inr (.inr (by rw [hs]; exact hh)), na, os, ag, w⟩
  have go : wpAny (model X.prog X.w) X.A (setFlight (.ref a) X.env.frame) (fun _ s4 => wpAny (model X.prog X.w) X.A (throw (.ref a) : Sem Flow) (SP X pins D) X.xe s4) X.xe s := by
    rw [hf]
    exact HandSPX.setFlight_upZ fl fun h4 hh up4 => wpAny_throw (out h4 hh up4)
  obtain ⟨_, _, _, oe, vs, T, oT, us, e1, _, e3, e4, _⟩ := id fl
  unfold PySem.passOn
  refine wpAny_bind (wpAny_field e1 e3 e4 ?_)
  have hT : ¬ ((Value.ref T == Value.none) = true) := by simp
  rw [if_neg hT]
  first
    | exact wpAny_bind (wpAny_pure (wpAny_bind go))
    | exact wpAny_bind go
/-- clauses, and what they wish of an exception -/
def Clz (X : Cx) (hds : List ExceptHandler) (W : Ends → WX) : Prop := ∀ (pins : List (Addr × Obj)) (a : Addr) (cls : Value) (d : Option Addr) (σ : L2.St) (H : Hp) (s : Shared) (D : Ends), X.stack = X.env :: X.outer → X.env.frame = some X.env.locals → X.Ok →
  Ld X pins a cls d σ H s → W D cls d σ H → wpAny (model X.prog X.w) X.A (handleBy (.ref a) X.env hds) (SP X pins D) X.xe s
theorem cl_nil (tk : Takes X Wout) : Clz X [] (fun _ => Wout) := fun pins a cls d σ H s D hs hf _ L w => wpAny_handleBy_nil (L.pass hs hf tk w)
theorem cl_only (hc : Names X x c) (hsu : ∀ (a : Addr) (oe : Obj) (cls : Value) (d : Option Addr) (pn : List (Addr × Obj)), Zc cls d oe → (∃ vs, oe.data = .fields vs) → PSs (X.suite a ((a, oe) :: pn)) (b₀ :: suite) (ts a cls d))
    (r : Clz X hds W2) : Clz X (.ExceptHandler (some (.Name x np)) none (b₀ :: suite) pos' :: hds) (fun D => wOnly X.K c ts (W2 D) D) := by
  intro pins a cls d σ H s D hs hf ok L w
  obtain ⟨b, hb, yes, no⟩ := w
  refine wpAny_handleBy_cons (codeAny_handlers_test (L.test hf hc hb ?_)) (by intro q; cases q)
  cases b with
  | false => exact r pins a cls d σ H s D hs hf ok L (no rfl)
  | true =>
    refine codeAny_handlers_suite (L.again fun s' L' => ?_)
    obtain ⟨oe, _, z1, dt, S⟩ := L'.hot hf
    have na : H a = none := let ⟨_, _, _, _, _, _, q, _⟩ := L'; q
    refine wpAny_mono ((hsu a oe cls d (X.pn ++ pins) z1 dt).run [] _ _ H _ S (yes rfl a na)) (fun f s6 sp6 => ?_) (fun _ _ z => z.elim)
    cases f with
    | ret u => obtain ⟨v6, σ6, H6, S6, r6, q6⟩ := sp6; exact ⟨v6, σ6, H6, Inv.unsuite S6 ok, r6, q6⟩
    | next => obtain ⟨σ6, H6, S6, q6⟩ := sp6; exact ⟨σ6, H6, Inv.unsuite S6 ok, q6⟩
    | brk => obtain ⟨σ6, H6, S6, q6⟩ := sp6; exact ⟨σ6, H6, Inv.unsuite S6 ok, q6⟩
    | cont => obtain ⟨σ6, H6, S6, q6⟩ := sp6; exact ⟨σ6, H6, Inv.unsuite S6 ok, q6⟩
theorem cl_as (hN : X.N.Nodup) (hi : X.N[i]? = some n) (hln : X.env.kindOf n = some .local) (hc : Names X x c) (hsu : ∀ (a : Addr) (oe : Obj) (cls : Value) (d : Option Addr) (pn : List (Addr × Obj)), Zc cls d oe → (∃ vs, oe.data = .fields vs) → PSs (X.suite a ((a, oe) :: pn)) (b₀ :: suite) (ts a cls d))
    (r : Clz X hds W2) : Clz X (.ExceptHandler (some (.Name x np)) (some n) (b₀ :: suite) pos' :: hds) (fun D => wAs X.K c i ts (W2 D) D) := by
  intro pins a cls d σ H s D hs hf ok L w
  obtain ⟨b, hb, yes, no⟩ := w
  refine wpAny_handleBy_cons (codeAny_handlers_test (L.test hf hc hb ?_)) (by intro q; cases q)
  cases b with
  | false => exact r pins a cls d σ H s D hs hf ok L (no rfl)
  | true =>
    refine codeAny_handlers_suite_as (L.again fun s' L' => ?_)
    obtain ⟨oe, _, z1, dt, S⟩ := L'.hot hf
    have na : H a = none := let ⟨_, _, _, _, _, _, q, _⟩ := L'; q
    have lc : Loc X.env.scope n := .inl hln
    refine store_ok (X := X.suite a ((a, oe) :: (X.pn ++ pins))) (v := .ref a) S hN hi lc rfl (fun s5 S5 => ?_) (.inr hln)
    refine wpAny_mono ((hsu a oe cls d (X.pn ++ pins) z1 dt).run [] s5 _ H _ S5 (yes rfl a na)) (fun f s6 sp6 => ?_) (fun _ _ z => z.elim)
    cases f with
    | ret u => obtain ⟨v6, σ6, H6, S6, r6, q6⟩ := sp6; exact gone_ok (Inv.unsuite S6 ok) hN hi hln fun s7 J7 => ⟨v6, _, H6, J7, r6, q6⟩
    | next => obtain ⟨σ6, H6, S6, q6⟩ := sp6; exact gone_ok (Inv.unsuite S6 ok) hN hi hln fun s7 J7 => ⟨_, H6, J7, q6⟩
    | brk => obtain ⟨σ6, H6, S6, q6⟩ := sp6; exact gone_ok (Inv.unsuite S6 ok) hN hi hln fun s7 J7 => ⟨_, H6, J7, q6⟩
    | cont => obtain ⟨σ6, H6, S6, q6⟩ := sp6; exact gone_ok (Inv.unsuite S6 ok) hN hi hln fun s7 J7 => ⟨_, H6, J7, q6⟩
theorem ps_try_cl {h₀ : ExceptHandler} (hs : X.stack = X.env :: X.outer) (hf : X.env.frame = some X.env.locals)
    (hb : ∀ (W : WX) (pn : List (Addr × Obj)) (xe : Value → Shared → Prop), Takes (X.tr pn xe) W → PassesOwn (model X.prog X.w) X.A X.env xe → PSs (X.tr pn xe) body (tb W))
    (hh : Clz X (h₀ :: hds) W2) : PS X (.Try body (h₀ :: hds) [] [] pos) (fun D σ H => tb (W2 D) D σ H) := by
  constructor
  intro pins s σ H D I h
  have ok := I.ok
  have fr : X.A.frames = some (X.env :: X.outer) := ok.frames.trans (by rw [hs])
  have run := (hb (W2 D) (X.pn ++ pins) (fun e s1 => wpAny (model X.prog X.w) X.A (noteFrame e X.env) (fun _ s2 => wpAny (model X.prog X.w) X.A (setFlight e none) (fun _ s3 => wpAny (model X.prog X.w) X.A (handleBy e X.env (h₀ :: hds)) (SP X pins D) X.xe s3) X.xe s2) X.xe s1) ?_ PassesOwn.looking).run [] s σ H D (I.toTry _) h
  · refine wpAny_Try_except (wpAny_mono run (fun f s1 sp1 => ?_) (fun e s1 he => he))
    cases f with
    | ret u => obtain ⟨v, σ', H', J, r, q⟩ := sp1; exact ⟨v, σ', H', Inv.ofTry J ok, r, q⟩
    | next => obtain ⟨σ', H', J, q⟩ := sp1; exact wpAny_execs_nil ⟨σ', H', Inv.ofTry J ok, q⟩
    | brk => obtain ⟨σ', H', J, q⟩ := sp1; exact ⟨σ', H', Inv.ofTry J ok, q⟩
    | cont => obtain ⟨σ', H', J, q⟩ := sp1; exact ⟨σ', H', Inv.ofTry J ok, q⟩
  · intro u s' xx
    obtain ⟨a, B, t, pins', σ', H', cls, d, rfl, J, nb, up, sky, na, os, ag, w⟩ := xx
    have sk : Sky B (X.env :: X.outer) a (Zc cls d) X.env.locals s'.heap := hs ▸ sky
    exact Sky.land Zc.steady fr hf sk fun h3 fl up3 => hh pins a cls d σ' H' _ D hs hf ok ⟨B, t, Inv.ofTry J ok, nb, up.trans up3, fl, na, os, ag⟩ w
end
end Gx

set_option linter.all false
set_option maxRecDepth 100000
set_option maxHeartbeats 2000000
/-! Ga: a comprehension over range(a, b, -1) -/
namespace Gx
open PySem PySem.Spec PyProof.Rows L2
section
variable {g : TG} {tt : TT} {te : TE} {ta : TA} {σ τ : L2.St} {H : Hp} {Q : VK}
theorem fd_rngC {lo c : Int} {n : Nat} : Feeds (Itc lo c n) n (fun _ => True) (fun i H x H' => H' = H ∧ x = .int (lo + (i : Nat) * c)) := ⟨fun _ _ _ h => h, fun _ _ _ _ _ _ y => y, fun _ _ => Nat.le_refl _⟩
def rLc3 (us : List V) (g : TG) (tt : TT) (te : TE) (vs : List Nat) (σ : L2.St) (H : Hp) (Q : VK) : Prop := tLc (iRng3 fun _ H R => R us H) g tt te vs σ H Q
instance {vs : List Nat} : Step (tLc (iRng3 ta) g tt te vs σ H Q) (ta σ H fun us H1 => rLc3 us g tt te vs σ H1 Q) := ⟨fun q => q⟩
theorem lcD_F {vs : List Nat} {a b : Int} (F : Nat → List V) (hn : -(2 ^ 62) ≤ a ∧ a < 2 ^ 62 ∧ -(2 ^ 62) ≤ b ∧ b < 2 ^ 62) [hw : Wipe σ vs τ] (hF : F 0 = []) (hz : ∀ i, i < (a - b).toNat → (F i).length < 100000)
    (hs : ∀ D (i : Nat) H', b < a - (i : Int) → Nw H D → Ex H H' → At H' D (.lst (F i)) → (F i).length < 100000 → g (.int (a - (i : Int))) τ H' fun σ2 H2 => wipe σ2 vs = τ ∧ tt σ2 H2 fun b H3 =>
      if b = true then te σ2 H3 (rApp D (rW D fun ac H5 => Ex H H5 ∧ ac = F (i + 1))) else rW D (fun ac H5 => Ex H H5 ∧ ac = F (i + 1)) H3)
    (hd : ∀ D H', Nw H D → Ex H H' → At H' D (.lst (F (a - b).toNat)) → Q (.ref D) H') : rLc3 [.int a, .int b, .int (-1)] g tt te vs σ H Q :=
  ⟨a, b, -1, (a - b).toNat, rfl, RgC.neg hn.1 hn.2.1 hn.2.2.1 hn.2.2.2, lc_F fd_rngC F hF (fun _ _ => trivial) hz (fun D i H' x H'' hi hD e hp z y => by
    obtain ⟨rfl, rfl⟩ := y
    rw [show a + ((i : Nat) : Int) * (-1) = a - (i : Int) from by omega]
    exact hs D i _ (by omega) hD e hp z) hd⟩
end
end Gx

set_option linter.all false
set_option maxRecDepth 100000
set_option maxHeartbeats 2000000
/-! Gq: choices (math.comb), for over range(a, b, -1), rfind. -/
namespace Gx
open PySem PySem.Spec PyProof.Rows L2
/-- the number of choices of k of n -/
def chs : Nat → Nat → Nat
  | _, 0 => 1
  | 0, _ + 1 => 0
  | n + 1, k + 1 => chs n k + chs n (k + 1)
theorem chs_zero (n : Nat) : chs n 0 = 1 := by cases n <;> rfl
theorem chs_succ (n k : Nat) : chs (n + 1) (k + 1) = chs n k + chs n (k + 1) := rfl
theorem chs_above : ∀ {n k : Nat}, n < k → chs n k = 0
  | _, 0, h => absurd h (Nat.not_lt_zero _)
  | 0, _ + 1, _ => rfl
  | n + 1, k + 1, h => by rw [chs_succ, chs_above (by omega), chs_above (by omega)]
theorem chs_self : ∀ n : Nat, chs n n = 1
  | 0 => rfl
  | n + 1 => by rw [chs_succ, chs_self n, chs_above (Nat.lt_succ_self n)]
theorem chs_sym : ∀ {n k : Nat}, k ≤ n → chs n k = chs n (n - k)
  | n, 0, _ => by rw [chs_zero, Nat.sub_zero, chs_self]
  | 0, k + 1, h => absurd h (by omega)
  | n + 1, k + 1, h => by
    by_cases z : k = n
    · subst z
      rw [chs_self, Nat.sub_self, chs_zero]
    · have e : n + 1 - (k + 1) = (n - (k + 1)) + 1 := by omega
      rw [e, chs_succ, chs_succ, chs_sym (n := n) (k := k) (by omega), chs_sym (n := n) (k := k + 1) (by omega), show n - (k + 1) + 1 = n - k from by omega, Nat.add_comm]
theorem chs_le : ∀ n k : Nat, chs n k ≤ 2 ^ n
  | n, 0 => by rw [chs_zero]; exact Nat.one_le_two_pow
  | 0, k + 1 => Nat.zero_le _
  | n + 1, k + 1 => by
    have h1 := chs_le n k
    have h2 := chs_le n (k + 1)
    rw [chs_succ, Nat.pow_succ]
    omega
theorem chs_pos : ∀ {n k : Nat}, k ≤ n → 1 ≤ chs n k
  | n, 0, _ => by rw [chs_zero]; exact Nat.le_refl 1
  | 0, k + 1, h => absurd h (by omega)
  | n + 1, k + 1, h => by
    have := chs_pos (n := n) (k := k) (by omega)
    rw [chs_succ]
    omega
abbrev fp (n : Int) (k : Nat) : Int := Builtin.Math.fallingProduct n k
theorem fp_shift (n : Int) : ∀ k : Nat, fp (n + 1) (k + 1) = (n + 1) * fp n k
  | 0 => by
    show Builtin.Math.fallingProduct (n + 1) 1 = (n + 1) * Builtin.Math.fallingProduct n 0
    rw [PySem.W.mc_fp_one, PySem.W.mc_fp_zero, Int.mul_one]
  | k + 1 => by
    have ih := fp_shift n k
    show Builtin.Math.fallingProduct (n + 1) (k + 1 + 1) = (n + 1) * Builtin.Math.fallingProduct n (k + 1)
    rw [PySem.W.mc_fp_succ (n + 1) (k + 1), PySem.W.mc_fp_succ n k]
    unfold fp at ih
    rw [ih, Int.mul_assoc, show n + 1 - ((k + 1 : Nat) : Int) = n - (k : Int) from by omega]
theorem fp_null : ∀ k : Nat, fp 0 (k + 1) = 0
  | 0 => by show Builtin.Math.fallingProduct 0 1 = 0; rw [PySem.W.mc_fp_one]
  | k + 1 => by
    have ih := fp_null k
    show Builtin.Math.fallingProduct 0 (k + 1 + 1) = 0
    unfold fp at ih
    rw [PySem.W.mc_fp_succ 0 (k + 1), ih, Int.zero_mul]
theorem chs_fp : ∀ n k : Nat, (chs n k : Int) * fp (k : Nat) k = fp (n : Nat) k
  | n, 0 => by
    rw [chs_zero]
    show (1 : Int) * Builtin.Math.fallingProduct _ 0 = Builtin.Math.fallingProduct _ 0
    rw [PySem.W.mc_fp_zero, PySem.W.mc_fp_zero]
    rfl
  | 0, k + 1 => by
    have := fp_null k
    show (0 : Int) * _ = fp 0 (k + 1)
    rw [this, Int.zero_mul]
  | n + 1, k + 1 => by
    have h1 := chs_fp n k
    have h2 := chs_fp n (k + 1)
    have e1 : fp ((k + 1 : Nat) : Int) (k + 1) = ((k : Int) + 1) * fp (k : Nat) k := fp_shift (k : Nat) k
    have e2 : fp ((n + 1 : Nat) : Int) (k + 1) = ((n : Int) + 1) * fp (n : Nat) k := fp_shift (n : Nat) k
    have e3 : fp (n : Nat) (k + 1) = fp (n : Nat) k * ((n : Int) - (k : Int)) := PySem.W.mc_fp_succ (n : Nat) k
    rw [chs_succ, Int.natCast_add, Int.add_mul, h2, e1, e2, e3, Int.mul_left_comm, h1, Int.mul_comm (fp (n : Nat) k), ← Int.add_mul]
    congr 1
    omega
theorem comb_chs {n k : Nat} : PySem.W.mcComb (n : Nat) (k : Nat) = (chs n k : Nat) := by
  by_cases h : k ≤ n
  · have key : ∀ m : Nat, m ≤ n → fp (n : Nat) m / fp (m : Nat) m = (chs n m : Nat) := fun m hm => by
      have hp : 1 ≤ fp (m : Nat) m := PySem.W.mc_fp_pos m (by omega)
      rw [← chs_fp n m]
      exact Int.mul_ediv_cancel _ (by omega)
    by_cases z : k ≤ n - k
    · rw [PySem.W.mcComb_at (m := (k : Nat)) (by omega) (by omega) (by omega), Int.toNat_natCast]
      exact key k h
    · rw [PySem.W.mcComb_at (m := ((n - k : Nat) : Int)) (by omega) (by omega) (by omega), Int.toNat_natCast, chs_sym h]
      exact key (n - k) (by omega)
  · rw [PySem.W.mcComb_above (by omega), chs_above (by omega)]
    rfl
section
variable {X : Cx} {K : PySem.W.Frag} {H : Hp} {Q : VK}
def rComb : List V → Hp → VK → Prop := fun vs H Q => ∃ a b : Nat, vs = [.int (a : Nat), .int (b : Nat)] ∧ a ≤ 10000 ∧ Q (.int (chs a b : Nat)) H
theorem callComb : CallR X (.builtin "math.comb") rComb := by
  intro pins s σ H vs us Q I r h
  obtain ⟨a, b, rfl, h1, q⟩ := h
  cases r with
  | cons r1 rr =>
    cases rr with
    | cons r2 r3 =>
      cases r3
      obtain ⟨t, rfl⟩ := r1
      obtain ⟨u, rfl⟩ := r2
      refine call_function_meets PySem.W.MGF.kind_comb PySem.W.MGF.plain_comb PySem.W.MGF.entry_comb (PySem.W.MGF.args_comb _ _) (PySem.W.mc_gives_comb t u (by omega) (by omega) (by omega) (.inr (by omega))).meets ?_
      exact ⟨.int _, H, I.tok _, ⟨_, rfl⟩, by rw [comb_chs]; exact q⟩
theorem g_comb {i j : Int} (h0 : 0 ≤ i) (h1 : i ≤ 10000) (h2 : 0 ≤ j) (q : Q (.int (chs i.toNat j.toNat : Nat)) H) : rComb [.int i, .int j] H Q :=
  ⟨i.toNat, j.toNat, by rw [Int.toNat_of_nonneg h0, Int.toNat_of_nonneg h2], by omega, q⟩
end
/-! for over range(a, b, -1) -/
section
variable {g : TG} {tb : TS} {D : Ends} {ta : TA} {σ τ : L2.St} {H : Hp}
def rFor3 (vs : List V) (g : TG) (tb : TS) (D : Ends) (σ : L2.St) (H : Hp) : Prop := tFor (iRng3 fun _ H R => R vs H) g tb D σ H
instance : Step (tFor (iRng3 ta) g tb D σ H) (ta σ H fun vs H1 => rFor3 vs g tb D σ H1) := ⟨fun q => q⟩
theorem forD {a b : Int} (bs : List Addr) (Pv : Nat → L2.St → Hp → Prop) (hn : -(2 ^ 62) ≤ a ∧ a < 2 ^ 62 ∧ -(2 ^ 62) ≤ b ∧ b < 2 ^ 62) (h0 : Pv 0 σ H)
    (hs : ∀ (i : Nat) σ' H', b < a - (i : Int) → Chg bs H H' → Pv i σ' H' → g (.int (a - (i : Int))) σ' H' fun σ2 H2 => tb { D with nx := LI bs H (Pv (i + 1)), ct := LI bs H (Pv (i + 1)), bk := D.nx } σ2 H2)
    (hd : ∀ σ' H', Chg bs H H' → Pv (a - b).toNat σ' H' → D.nx σ' H') : rFor3 [.int a, .int b, .int (-1)] g tb D σ H :=
  ⟨a, b, -1, (a - b).toNat, rfl, RgC.neg hn.1 hn.2.1 hn.2.2.1 hn.2.2.2, for_feeds fd_rngC bs Pv h0 (fun _ _ => trivial) (fun i σ' H' x H'' hi r p y => by
    obtain ⟨rfl, rfl⟩ := y
    rw [show a + ((i : Nat) : Int) * (-1) = a - (i : Int) from by omega]
    exact hs i σ' _ (by omega) r p) hd⟩
end
def rRfind : V → List V → Hp → VK → Prop := fun x xs H Q => ∃ a b, x = .str a ∧ xs = [.str b] ∧ Q (.int (Txt.rfind a b)) H
theorem mtRfind {X : Cx} : MtR X "str.rfind" rRfind := mt_rfind
end Gx

set_option Elab.async false
set_option linter.all false
set_option maxRecDepth 100000
set_option maxHeartbeats 4000000
/-! an if in a generator's body -/
namespace Gx
open PySem PySem.Spec PyProof.Rows L2 GenW
section
variable {X : Cx}
def tGIf (c : TT) (t u : TGn) : TGn := fun D ys σ H => c σ H fun b H1 => if b = true then t D ys σ H1 else u D ys σ H1
theorem gs_if {e : Expr} {a b : List Stmt} {pos : Pos} {tc : TT} {t u : TGn} (hc : PT X e tc) (ha : GSs X a t) (hb : GSs X b u) : GS X (.If e a b pos) (tGIf tc t u) := by
  refine ⟨fun A S ip R n ys s₀ c fs K J gd lv s σ H D g hn k hI ht => ?_⟩
  obtain ⟨acc, cc, r, I⟩ := hI
  rw [exec_If]
  refine seg_bind_wrap (wpAny_standAt ?_)
  refine seg_bind_wrap ?_
  rw [g.over]
  refine wpAny_mono (hc.run _ s σ H _ I ht) (fun b s' hq => ?_) fun x s' hx => k.exc n s₀ x s' hx
  obtain ⟨H1, I1, q⟩ := hq
  cases b with
  | true => exact ha.run A S ip R n ys s₀ c fs K J gd lv s' σ H1 D g hn k ⟨acc, cc, r, I1⟩ q
  | false => exact hb.run A S ip R n ys s₀ c fs K J gd lv s' σ H1 D g hn k ⟨acc, cc, r, I1⟩ q
instance {tt : TT} {t u : TGn} {D : GEnds} {ys : List V} {σ : L2.St} {H : Hp} : Step (tGIf tt t u D ys σ H) (tt σ H fun c H1 => if c = true then t D ys σ H1 else u D ys σ H1) := ⟨fun q => q⟩
end
/-! generators with keyword-only defaults alone -/
section
variable {X : Cx} {k n : Nat} {f : Addr} {fd : FuncData} {ps ks : List Str} {sp : SpG} {x : Str} {p pos : Pos} {e : Expr} {es : List Expr} {kw : List Keyword} {t tk : TA} {st : Stmt} {kws : List (Str × V)}
theorem pgen_k (C : ClY X.prog X.w X.K X.mg X.base k x st ps [] kws sp) (hr : Room k X.A) (n : Nat) (ks : List Str) (ms : List (Str × V)) (g : {α : Type} → List α → List α → List α → List α) (hk : kws ≠ []) (hms : ∀ q ∈ ms, q ∈ kws)
    (hrel : ∀ {vs mz zs : List V} {us mv ws : List Value}, Vals vs us → Vals mz mv → Vals zs ws → Vals (g vs mz zs) (g us mv ws))
    (h : ∀ (D : Addr) (doc pm : Value) (an : Option Addr) (cdv ct : Value) (us mv ws : List Value), us.length = n → mv.length = ms.length → ws.length = ks.length →
      KwChain D ((ms.map (·.1)).zip mv) (bindArgs (PySem.W.fnOf x x (defArgs st) (defBody st) (defScope st) .none (.ref D) doc pm an cdv ct) ⟨us, ks.zip ws⟩) (ps.zip (g us mv ws)))
    (ha : PA X (e :: es) t) (hkw : PK X kw tk) (hg : Gl X x := by rfl) (hall : (backToKw pos (keywordEach kw X.env)).all (·.1.isSome) = true := by rfl) (hks : (backToKw pos (keywordEach kw X.env)).filterMap (·.1) = ks := by rfl)
    (hdb : (x == ("__debug__" : Str)) = false := by decide) (he : starEach (e :: es) X.env = (false, eval e X.env) :: starEach es X.env := by rfl)
    (hpl : ((backTo pos (starEach (e :: es) X.env)).any (·.1) || (backToKw pos (keywordEach kw X.env)).any (·.1.isNone)) = false := by rfl) :
    PGen X k (.Call (.Name x p) (e :: es) kw pos) (tCallGN n ks.length sp (fun vs zs => g vs (ms.map (·.2)) zs) E0 t tk) E0 := by
  obtain ⟨f, fd, h1, h2, h4⟩ := C.ex
  obtain ⟨mv, hb⟩ := h2.kbinds0 n ks ms g hk hms hrel h
  refine ⟨fun pins s σ H cont I q => ?_⟩
  refine wpAny_Call_Name_kw (ld_glob I hg h1 ?_ hdb)
  refine PySem.W.callWith_KW (h₀ := X.base) I.ok.mod.kin h2.kp hall (thn (ha.run pos pins s σ H _ I q) fun us s1 ⟨vs, H1, I1, r, q⟩ => ?_) hpl he
  refine thn (hkw.run pos pins s1 σ H1 _ I1 q) fun ws s2 ⟨zs, H2, I2, rz, l1, l2, q2⟩ => ⟨I2.kIn, ?_⟩
  rw [hks]
  exact run_gfnNS h4 hr hb I2 r rz l1 l2 q2
theorem pgen_kA (E : L2.St → XK) (C : ClY X.prog X.w X.K X.mg X.base k x st ps [] kws sp) (hr : Room k X.A) (n : Nat) (ks : List Str) (ms : List (Str × V)) (g : {α : Type} → List α → List α → List α → List α) (hk : kws ≠ []) (hms : ∀ q ∈ ms, q ∈ kws)
    (hrel : ∀ {vs mz zs : List V} {us mv ws : List Value}, Vals vs us → Vals mz mv → Vals zs ws → Vals (g vs mz zs) (g us mv ws))
    (h : ∀ (D : Addr) (doc pm : Value) (an : Option Addr) (cdv ct : Value) (us mv ws : List Value), us.length = n → mv.length = ms.length → ws.length = ks.length →
      KwChain D ((ms.map (·.1)).zip mv) (bindArgs (PySem.W.fnOf x x (defArgs st) (defBody st) (defScope st) .none (.ref D) doc pm an cdv ct) ⟨us, ks.zip ws⟩) (ps.zip (g us mv ws)))
    (ha : PA X (e :: es) t) (hkw : PK X kw tk) (hg : Gl X x := by rfl) (hall : (backToKw pos (keywordEach kw X.env)).all (·.1.isSome) = true := by rfl) (hks : (backToKw pos (keywordEach kw X.env)).filterMap (·.1) = ks := by rfl)
    (hdb : (x == ("__debug__" : Str)) = false := by decide) (he : starEach (e :: es) X.env = (false, eval e X.env) :: starEach es X.env := by rfl)
    (hpl : ((backTo pos (starEach (e :: es) X.env)).any (·.1) || (backToKw pos (keywordEach kw X.env)).any (·.1.isNone)) = false := by rfl) :
    PGenA X k (.Call (.Name x p) (e :: es) kw pos) (tCallGA n ks.length sp (fun vs zs => g vs (ms.map (·.2)) zs) E t tk) E := by
  obtain ⟨f, fd, h1, h2, h4⟩ := C.ex
  obtain ⟨mv, hb⟩ := h2.kbinds0 n ks ms g hk hms hrel h
  refine ⟨fun pins s σ H cont I q => ?_⟩
  refine wpAny_Call_Name_kw (ld_glob I hg h1 ?_ hdb)
  refine PySem.W.callWith_KW (h₀ := X.base) I.ok.mod.kin h2.kp hall (thn (ha.run pos pins s σ H _ I q) fun us s1 ⟨vs, H1, I1, r, q⟩ => ?_) hpl he
  refine thn (hkw.run pos pins s1 σ H1 _ I1 q) fun ws s2 ⟨zs, H2, I2, rz, l1, l2, q2⟩ => ⟨I2.kIn, ?_⟩
  rw [hks]
  exact run_gfnNS h4 hr hb I2 r rz l1 l2 q2
theorem pgen_0 (C : ClY X.prog X.w X.K X.mg X.base k x st ps [] kws sp) (hr : Room k X.A) (n : Nat) (hk : kws ≠ []) (hn : n + kws.length = ps.length)
    (h : ∀ (D : Addr) (doc pm : Value) (an : Option Addr) (cdv ct : Value) (us ks : List Value), us.length = n → ks.length = kws.length →
      KwChain D ((kws.map (·.1)).zip ks) (bindArgs (PySem.W.fnOf x x (defArgs st) (defBody st) (defScope st) .none (.ref D) doc pm an cdv ct) ⟨us, []⟩) (ps.zip (us ++ ks)))
    (ha : PA X (e :: es) t) (hg : Gl X x := by rfl) (hdb : (x == ("__debug__" : Str)) = false := by decide)
    (he : starEach (e :: es) X.env = (false, eval e X.env) :: starEach es X.env := by rfl) (hpl : (backTo pos (starEach es X.env)).any (·.1) = false := by rfl) :
    PGen X k (.Call (.Name x p) (e :: es) [] pos) (tCallG sp (kws.map (·.2)) E0 t) E0 := by
  obtain ⟨f, fd, h1, h2, h4⟩ := C.ex
  obtain ⟨ds, r, b⟩ := h2.binds0 n hk hn h
  exact pgen_call h4 hr hg h1 h2.kp b r ha hdb he hpl
instance {sp : SpG} {dvs : List V} {E : XK} {t : TA} {σ : L2.St} {H : Hp} {Q : VK} : Step (tListG (tCallG sp dvs E t) σ H Q) (t σ H fun vs H1 => rNewG sp (vs ++ dvs) E H1 Q) := ⟨fun q => q⟩
end
/-! for over reversed(list) -/
section
variable {K : PySem.W.Frag} {g : TG} {tb : TS} {D : Ends} {ta : TA} {σ : L2.St} {H : Hp}
def rForV (K : PySem.W.Frag) (us : List V) (g : TG) (tb : TS) (D : Ends) (σ : L2.St) (H : Hp) : Prop := tFor (iRev K fun _ H R => R us H) g tb D σ H
instance : Step (tFor (iRev K ta) g tb D σ H) (ta σ H fun us H1 => rForV K us g tb D σ H1) := ⟨fun q => q⟩
theorem forV {a : Addr} {xs : List V} (bs : List Addr) (Pv : Nat → L2.St → Hp → Prop) [hx : SqC K H a xs] [hn : NotIn a bs] (h0 : Pv 0 σ H)
    (hs : ∀ (i : Nat) x σ' H', xs.reverse[i]? = some x → Chg bs H H' → Pv i σ' H' → g x σ' H' fun σ2 H2 => tb { D with nx := LI bs H (Pv (i + 1)), ct := LI bs H (Pv (i + 1)), bk := D.nx } σ2 H2)
    (hd : ∀ σ' H', Chg bs H H' → Pv xs.length σ' H' → D.nx σ' H') : rForV K [.ref a] g tb D σ H :=
  ⟨a, xs, rfl, hx.sq, for_feeds fd_rev bs Pv h0 (fun _ r => r.l hn.out hx.sq) (fun i σ' H' x H'' hi r p y => by
    obtain ⟨rfl, y⟩ := y
    exact hs i x σ' _ y r p) hd⟩
end
/-- [n] * k -/
theorem flat_repI (n : Int) : ∀ k : Nat, (List.replicate k [V.int n]).flatten = (List.replicate k n).map V.int
  | 0 => rfl
  | k + 1 => by rw [List.replicate_succ, List.replicate_succ, List.flatten_cons, flat_repI n k]; rfl
theorem g_repI {K : PySem.W.Frag} {H : Hp} {Q : VK} {p : Addr} {c n : Int} [h : At H p (.lst [V.int c])] (hn : n ≤ 1000 ∧ -1000 ≤ n) (q : ∀ q H', Nw H q → Ex H H' → At H' q (.lst ((List.replicate n.toNat c).map V.int)) → Q (.ref q) H') : rMul K (.ref p) (.int n) H Q := by
  refine .inr (.inr (.inr ⟨p, n, [V.int c], rfl, rfl, h.eq, by omega, by omega, ?_, ?_⟩))
  · rw [sizeLine_eq]
    simp
    omega
  · rw [flat_repI]
    exact g_new q
theorem g_glst {K : PySem.W.Frag} {σ : L2.St} {H : Hp} {R : L2.St → Hp → Prop} {u : TGs} {a : Addr} {xs : List V} {n : Nat} [h : SqC K H a xs] (hn : xs.length = n) (q : u xs σ H R) : gLst K n u (.ref a) σ H R := ⟨a, xs, rfl, h.sq, hn, q⟩
end Gx

set_option Elab.async false
set_option linter.all false
set_option maxRecDepth 100000
set_option maxHeartbeats 4000000
/-! own classes: objects by their fields -/
namespace Gx
open PySem PySem.Spec PyProof.Rows L2
/-- an object of an own class, with its fields -/
class InC (C : outParam Addr) (fs : outParam (List (Str × V))) (H : Hp) (a : Addr) : Prop where
  ex : ∃ dx, H a = some (.ins C dx fs)
section
variable {K : PySem.W.Frag} {σ : L2.St} {H H1 : Hp} {Q : VK} {C a : Addr} {m f : Str} {sp : Sp} {dvs : List V} {E : XK} {ta tv : TE} {t : TA} {x y v : V} {fs : List (Str × V)} {D : Ends} {cs : List Addr} {mg : Str → Option Value}
instance inAt {dx : Addr} [h : At H a (.ins C dx fs)] : InC C fs H a := ⟨⟨dx, h.eq⟩⟩
instance (priority := low) inStep [r : Chg cs H1 H] [n : NotIn a cs] [h : InC C fs H1 a] : InC C fs H a := ⟨by
  obtain ⟨dx, h1⟩ := h.ex
  exact ⟨dx, r.keep a _ n.out h1⟩⟩
instance inLive [h : InC C fs H a] : Live H a := ⟨by
  obtain ⟨dx, h1⟩ := h.ex
  exact ⟨_, h1⟩⟩
theorem g_rmethI [h : InC C fs H1 a] (hm : fs.lookup m = none) (q : t σ H1 fun vs H2 => sp (.ref a :: (vs ++ dvs)) H2 Q E) : rMeth C m sp dvs E t σ (.ref a) H1 Q := by
  obtain ⟨dx, h1⟩ := h.ex
  exact ⟨a, dx, fs, rfl, h1, hm, q⟩
theorem g_fldI [h : InC C fs H1 a] (c : Cls K C) (n : NoAttr K C f) (e : fs.lookup f = some v) (q : Q v H1) : rFld K f (.ref a) H1 Q := by
  obtain ⟨dx, h1⟩ := h.ex
  exact ⟨a, C, dx, fs, v, rfl, h1, c, n, e, q⟩
theorem chg_ins {dx : Addr} {fs gs : List (Str × V)} (h : H a = some (.ins C dx fs)) (ni : ∀ t, fs ≠ [(("_budgets" : Str), V.ref t)]) : Chg [a] H (upd H a (.ins C dx gs)) :=
  ⟨fun b o hb e => by rw [upd_ne (by simpa using hb)]; exact e, fun b e => by
    by_cases z : b = a
    · rw [z, upd_same] at e; cases e
    · rw [upd_ne z] at e; exact e, fun b o i e => by
    by_cases z : b = a
    · exfalso
      rw [z, h] at e
      cases e
      rcases i with ⟨_, i⟩ | ⟨_, i⟩ | ⟨_, _, t, i⟩
      · cases i
      · cases i
      · injection i with i1 i2 i3
        exact ni t i3
    · rw [upd_ne z]; exact e⟩
/-- self.f = v -/
theorem g_fldSI {dx : Addr} [h : At H a (.ins C dx fs)] (c : Cls K C) (n : NoAttr K C f) (hl : fs.length < 1000) (ni : ∀ t, fs ≠ [(("_budgets" : Str), V.ref t)]) (q : ∀ H2, ExB a H H2 → At H2 a (.ins C dx (putF f y fs)) → D.nx σ H2) : rFldS K f D σ y (.ref a) H :=
  ⟨a, C, dx, fs, rfl, h.eq, c, n, hl, q _ (chg_ins h.eq ni) ⟨upd_same⟩⟩
/-! ### an object made -/
def rMkC (C : Addr) (sp : Sp) (dvs : List V) (E : XK) (vs : List V) (H1 : Hp) (Q : VK) : Prop := ∀ x dx, H1 x = none → H1 dx = none → dx ≠ x → sp (.ref x :: (vs ++ dvs)) (upd (upd H1 dx (.own x)) x (.ins C dx [])) (fun v H2 => v = .non ∧ Q (.ref x) H2) E
instance : Step (tMake C sp dvs E t σ H Q) (t σ H fun vs H1 => rMkC C sp dvs E vs H1 Q) := ⟨fun q => q⟩
theorem g_mkC {vs : List V} (q : ∀ x dx H', Nw H1 x → Ex H1 H' → At H' x (.ins C dx []) → sp (.ref x :: (vs ++ dvs)) H' (fun v H2 => v = .non ∧ Q (.ref x) H2) E) : rMkC C sp dvs E vs H1 Q := fun x dx h1 h2 h3 => by
  refine q x dx _ ⟨h1⟩ ?_ ⟨upd_same⟩
  have e1 : Ex H1 (upd H1 dx (.own x)) := Ex.mk h2
  have h4 : upd H1 dx (.own x) x = none := by rw [upd_ne (Ne.symm h3)]; exact h1
  exact e1.trans (Ex.mk h4)
instance {P : Prop} : Step (V.non = V.non ∧ P) P := ⟨fun q => ⟨rfl, q⟩⟩
end
structure DfC (K : PySem.W.Frag) (C : Addr) (qual : Str) (st : Stmt) (dvs : List V) (kws : List (Str × V)) : Prop where
  ex : ∃ (f : Addr) (fd : FuncData), Mk K C f ∧ FunD K "__init__" qual (defArgs st) (defBody st) (defScope st) dvs kws f fd
structure ClC (CX : CXT) (P : Program) (w : World) (K : PySem.W.Frag) (mg : Str → Option Value) (base : Heap) (k : Nat) (C : Addr) (qual : Str) (st : Stmt) (ps : List Str) (dvs : List V) (kws : List (Str × V)) (sp : Sp) : Prop where
  ex : ∃ (f : Addr) (fd : FuncData), Mk K C f ∧ FunD K "__init__" qual (defArgs st) (defBody st) (defScope st) dvs kws f fd ∧ FnOk P w K mg base CX k f fd ps sp
section
variable {P : Program} {w : World} {K : PySem.W.Frag} {mg : Str → Option Value} {base : Heap}
theorem DfC.ok {CX : CXT} {C : Addr} {qual : Str} {st : Stmt} {N ps : List Str} {dvs : List V} {kws : List (Str × V)} {k : Nat} {sp : Sp} (D : DfC K C qual st dvs kws) (S : FnScope N ps (defScope st)) (len : ∀ vs H Q E, sp vs H Q E → vs.length = ps.length)
    (hbody : ∀ (f : Addr) (cdv : Value) (A : Around) (outer : List Env) (s : Shared) (H : Hp) (vs : List V) (Q : VK) (E : XK), Room k (A.deeper (envOfC qual (defScope st) s.heap.objs.size f cdv)) → sp vs H Q E →
      ∃ t, PSs (cxOf CX P w K mg base N qual (defScope st) f cdv A outer s H E) (defBody st) t ∧ t { nx := fun _ H' => Q .non H', rt := Q } (start N vs) H) : ClC CX P w K mg base (k + 1) C qual st ps dvs kws sp := by
  obtain ⟨f, fd, h1, h2⟩ := D.ex
  exact ⟨f, fd, h1, h2, h2.ok S len fun cdv A outer s H vs Q E hr h => hbody f cdv A outer s H vs Q E hr h⟩
theorem DfC.okP {C : Addr} {qual : Str} {st : Stmt} {N ps : List Str} {dvs : List V} {kws : List (Str × V)} {k : Nat} {sp : Sp} (D : DfC K C qual st dvs kws) (S : FnScope N ps (defScope st)) (len : ∀ vs H Q E, sp vs H Q E → vs.length = ps.length)
    (hbody : ∀ (f : Addr) (cdv : Value) (A : Around) (outer : List Env) (s : Shared) (H : Hp) (vs : List V) (Q : VK) (E : XK), Room k (A.deeper (envOfC qual (defScope st) s.heap.objs.size f cdv)) → sp vs H Q E →
      ∃ t, PSs (cxOf CX0 P w K mg base N qual (defScope st) f cdv A outer s H E).nox (defBody st) t ∧ t { nx := fun _ H' => Q .non H', rt := Q } (start N vs) H) : ClC CX0 P w K mg base (k + 1) C qual st ps dvs kws sp :=
  D.ok S len fun f cdv A outer s H vs Q E hr h => by
    obtain ⟨t, a, b⟩ := hbody f cdv A outer s H vs Q E hr h
    exact ⟨t, a.nox, b⟩
theorem dfc_mk {C : Addr} {qual : Str} {st : Stmt} {f : Addr} {oc dV kV : Value} {od an : Option Addr} {osl : Array (Option Value)} {doc pm cdv ct : Value} {dvs : List V} {kws : List (Str × V)}
    (mk : PySem.W.makesIn K C = true) (a : PySem.W.findIn K (.ref C) "__init__" = some (some (.ref f))) (b : PySem.W.isFn K (.ref f) = true) (k : PySem.W.keepIn K (.ref C) = true) (k2 : PySem.W.keepIn K (.ref f) = true) (l : K.lookup f = some ⟨oc, od, .func (PySem.W.fnOf "__init__" qual (defArgs st) (defBody st) (defScope st) dV kV doc pm an cdv ct), osl⟩)
    (c : PySem.W.codeIn K cdv qual = true) (d : DflV K dV dvs) (q : KwdV K kV kws) : DfC K C qual st dvs kws :=
  ⟨f, _, ⟨mk, a, b, k⟩, ⟨⟨oc, od, dV, kV, doc, pm, an, cdv, ct, osl, rfl, l, c, d, q⟩, k2⟩⟩
/-- what is known of an own class -/
structure ClsF (K : PySem.W.Frag) (mg : Str → Option Value) (C : Addr) (name : Str) (fields : List Str) : Prop where
  g : mg name = some (.ref C)
  c : Cls K C
  nf : ∀ f ∈ fields, NoAttr K C f
  ty : PySem.W.findIn K (.ref C) "__class__" = some (some (.builtin "object.__class__")) ∧ PySem.W.specialIn K (.builtin "object.__class__") "__get__" = some (some (.builtin "getset_descriptor.__get__")) ∧ PySem.W.takesIn K (.builtin "object.__class__") = some true ∧ PySem.W.mroIn K C (.type "object") = some true
theorem clsf_mk {h : Heap} {C : Addr} {name : Str} {fields : List Str} (X : K.In h) (G : h.Ns mainGlobals mg) (a : PySem.W.nsIn K mainGlobals name = some (some (.ref C))) (pg : PySem.W.plainGet K C Str.empty = true) (hd : PySem.W.hasDictIn K C = true) (po : PySem.W.plainOver K C = true)
    (sa : PySem.W.findIn K (.ref C) "__setattr__" = some (some (.builtin "object.__setattr__"))) (nf : ∀ f ∈ fields, PySem.W.findIn K (.ref C) f = some none)
    (t1 : PySem.W.findIn K (.ref C) "__class__" = some (some (.builtin "object.__class__"))) (t2 : PySem.W.specialIn K (.builtin "object.__class__") "__get__" = some (some (.builtin "getset_descriptor.__get__"))) (t3 : PySem.W.takesIn K (.builtin "object.__class__") = some true) (t4 : PySem.W.mroIn K C (.type "object") = some true) : ClsF K mg C name fields :=
  ⟨PySem.W.mg_of X G a, ⟨pg, hd, po, sa⟩, nf, t1, t2, t3, t4⟩
end
section
variable {X : Cx} {CX : CXT} {k : Nat} {C : Addr} {qual : Str} {st : Stmt} {ps : List Str} {sp : Sp} {E : XK} {x : Str} {e : Expr} {es : List Expr} {t : TA} {p pos : Pos}
/-- C(e, ..) -/
theorem pe_mk (M : ClC CX X.prog X.w X.K X.mg X.base k C qual st ps [] [] sp) (hr : Room (k + 1) X.A) (hg : Gl X x) (hm : X.mg x = some (.ref C)) (hx : Passes CX X E)
    (h : ∀ (kV doc pm : Value) (an : Option Addr) (cdv ct : Value) (us : List Value), us.length = ps.length → bindArgs (PySem.W.fnOf "__init__" qual (defArgs st) (defBody st) (defScope st) .none kV doc pm an cdv ct) ⟨us, []⟩ = pure (ps.zip us))
    (ha : PA X (e :: es) t) (hdb : (x == ("__debug__" : Str)) = false := by decide) (he : starEach (e :: es) X.env = (false, eval e X.env) :: starEach es X.env := by rfl) (hpl : (backTo pos (starEach es X.env)).any (·.1) = false := by rfl) :
    PE X (.Call (.Name x p) (e :: es) [] pos) (tMake C sp [] E t) := by
  obtain ⟨f, fd, h1, h2, h4⟩ := M.ex
  exact pe_make h1 h4 hr hg hm (h2.bindsN h) .nil hx ha hdb he hpl
end
/-- isinstance(a, D) of an object of an own class -/
theorem g_isC {K : PySem.W.Frag} {mg : Str → Option Value} {C D a : Addr} {fs : List (Str × V)} {H : Hp} {Q : VK} {name : Str} {fields : List Str} {b : Bool} [h : InC C fs H a] (R : ClsF K mg C name fields) (hk : PySem.W.kitOne K (.ref C) (.ref D) = some b) (q : Q (.bl b) H) : rIsi K [.ref a, .ref D] H Q := by
  obtain ⟨dx, h1⟩ := h.ex
  exact g_isi (.own D) (.base (.ins h1 R.c R.ty.1 R.ty.2.1 R.ty.2.2.1 R.ty.2.2.2)) hk q
end Gx

set_option Elab.async false
set_option linter.all false
set_option maxRecDepth 100000
set_option maxHeartbeats 4000000
/-! list(range(n)); membership in lists of None and ints. -/
namespace Gx
open PySem PySem.Spec PyProof.Rows L2
/-- 0 .. n - 1 -/
def rg0 (n : Nat) : List V := (List.range n).map fun i => V.int (i : Nat)
theorem rg0_len {n : Nat} : (rg0 n).length = n := by unfold rg0; rw [List.length_map, List.length_range]
theorem rg0_eq {n : Int} : rgV 0 n = rg0 n.toNat := by
  unfold rgV rg0
  rw [show (n - 0).toNat = n.toNat from by omega]
  exact List.map_congr_left fun i _ => by rw [Int.zero_add]
section
variable {σ : L2.St} {H H1 : Hp} {Q : VK} {ta : TE}
def rLr1 (x : V) (H1 : Hp) (Q : VK) : Prop := ∃ n, x = .int n ∧ RgOk 0 n ∧ ∀ q, H1 q = none → Q (.ref q) (upd H1 q (.lst (rgV 0 n)))
instance : Step (tLstRg (tRg1 ta) σ H Q) (ta σ H fun x H1 => rLr1 x H1 Q) := ⟨fun q => q⟩
theorem g_lr1 {n : Int} (h0 : 0 ≤ n) (h1 : n ≤ 100000) (q : ∀ q H2, Nw H1 q → Ex H1 H2 → At H2 q (.lst (rg0 n.toNat)) → Q (.ref q) H2) : rLr1 (.int n) H1 Q := by
  refine ⟨n, rfl, RgOk.of_le (by omega) (by omega) (by omega) h0, ?_⟩
  rw [rg0_eq]
  exact g_new q
end
theorem flat_rg0 (n : Nat) : (rg0 n).all flatV = true := by
  unfold rg0
  rw [List.all_map, List.all_eq_true]
  intro i _
  rfl
theorem inV_rg0 {i : Int} {n : Nat} : inV (.int i) (rg0 n) = decide (0 ≤ i ∧ i < n) := by
  have e : rg0 n = ((List.range n).map fun i : Nat => (i : Int)).map V.int := by unfold rg0; rw [List.map_map]; rfl
  rw [e, inV_int]
  congr 1
  refine propext ⟨fun h => ?_, fun h => ?_⟩
  · obtain ⟨j, hj, rfl⟩ := List.mem_map.mp h
    rw [List.mem_range] at hj
    omega
  · exact List.mem_map.mpr ⟨i.toNat, List.mem_range.mpr (by omega), by omega⟩
theorem inV_nonI {i : Int} {xs : List V} : inV (.int i) (.non :: xs) = inV (.int i) xs := by
  unfold inV
  rw [List.any_cons, show eqV V.non (V.int i) = false from rfl, Bool.false_or]
theorem inV_nonN {xs : List V} : inV .non (.non :: xs) = true := by
  unfold inV
  rw [List.any_cons, show eqV V.non V.non = true from rfl, Bool.true_or]
def rFind3 : V → List V → Hp → VK → Prop := fun x xs H Q => ∃ (a b : Str) (i : Int), x = .str a ∧ xs = [.str b, .int i] ∧ Q (.int (Txt.find3 a b i)) H
theorem mtFind3 {X : Cx} : MtR X "str.find" rFind3 := mt_find3
end Gx

set_option linter.all false
set_option maxRecDepth 100000
set_option maxHeartbeats 2000000
/-! Gu: a def that begins with an if whose test strikes signs out of a text. -/
namespace Gx
open PySem PySem.Spec PyProof.Rows L2
section
variable {X : Cx} {a b c e : Expr} {pos : Pos} {st su : List Stmt} {t u : TS} {tc : TT}
theorem ptt_or {tA tB' : TT} (ha : PTT X a tA) (hb : PT X b tB') : PTT X (.BoolOp .Or [a, b] pos) (tOr tA tB') := by
  intro pins s σ H Q h0 I h
  refine isTrue_or (thn (ha pins s σ H _ h0 I h) fun c s1 ⟨H1, I1, q1⟩ => ?_)
  cases c with
  | true => exact ⟨H1, I1, q1⟩
  | false =>
    refine isTrue_or (thn (hb.run pins s1 σ H1 Q I1 q1) fun d s2 q2 => ?_)
    cases d with
    | false => exact isTrue_or_nil q2
    | true => exact q2
theorem pst_ifT (hc : PTT X c tc) (ha : PSs X st t) (hb : PSs X su u) : PST X (.If c st su pos) (tIfS tc t u) := by
  intro pins s σ H D h0 I h
  refine wpAny_If (wpAny_mono (hc pins s σ H _ h0 I h) (fun d s1 q => ?_) fun _ _ z => z)
  obtain ⟨H1, I1, q1⟩ := q
  cases d with
  | true => exact ha.run pins s1 σ H1 D I1 q1
  | false => exact hb.run pins s1 σ H1 D I1 q1
theorem psstNox {st : List Stmt} {t : TS} (h : PSsT X.nox st t) : PSsT X st t := fun pins s σ H D h0 I hw =>
  wpAny_mono (h pins s σ H D h0 (I.wish _) hw) (fun _ _ q => q.unwish) fun _ _ z => False.elim z
end
theorem DfG.okT {P : Program} {w : World} {K : PySem.W.Frag} {mg : Str → Option Value} {base : Heap} {x : Str} {st : Stmt} {N ps : List Str} {k : Nat} {sp : Sp} (D : DfG K mg x st [] []) (S : FnScope N ps (defScope st)) (hnc : ∀ y ∈ (defScope st).names, y.2 ≠ .cell) (hps : 1 ≤ ps.length) (len : ∀ vs H Q E, sp vs H Q E → vs.length = ps.length)
    (hbody : ∀ (f : Addr) (cdv : Value) (A : Around) (outer : List Env) (s : Shared) (H : Hp) (vs : List V) (Q : VK) (E : XK), Room k (A.deeper (envOfC x (defScope st) s.heap.objs.size f cdv)) → sp vs H Q E →
      ∃ t, PSsT (cxOf CX0 P w K mg base N x (defScope st) f cdv A outer s H E).nox (defBody st) t ∧ t { nx := fun _ H' => Q .non H', rt := Q } (start N vs) H) : ClG CX0 P w K mg base (k + 1) x st ps [] [] sp := by
  obtain ⟨f, fd, h1, h2⟩ := D.ex
  obtain ⟨oc, od, dV, kV, doc, pm, an, cdv, ct, osl, rfl, lk, hcd, _, _⟩ := id h2.ex
  refine ⟨f, _, h1, h2, fn_ofT lk hcd S hnc hps len fun A outer s H vs Q E hr h => ?_⟩
  obtain ⟨t, a, b⟩ := hbody f cdv A outer s H vs Q E hr h
  exact ⟨t, psstNox a, b⟩
end Gx

set_option linter.all false
set_option maxRecDepth 100000
set_option maxHeartbeats 2000000
/-! Gv: two promises of one def taken together: one without exceptions, one with. -/
namespace Gx
open PySem PySem.Spec PyProof.Rows L2
def spOr (a b : Sp) : Sp := fun vs H Q E => a vs H Q E ∨ b vs H Q E
section
variable {P : Program} {w : World} {K : PySem.W.Frag} {mg : Str → Option Value} {base : Heap} {CX : CXT} {x : Str} {st : Stmt} {ps : List Str} {dvs : List V} {kws : List (Str × V)} {j k n : Nat} {sp sq : Sp}
theorem fnOr {f : Addr} {fd : FuncData} (F : FnOk P w K mg base CX0 k f fd ps sp) (G : FnOk P w K mg base CX k f fd ps sq) : FnOk P w K mg base CX k f fd ps (spOr sp sq) := by
  refine ⟨fun vs H Q E h => h.elim (F.len _ _ _ _) (G.len _ _ _ _), fun A outer s H args us vs Q E hr e0 hb r h => ?_⟩
  rcases h with h | h
  · refine codeAny_mono (F.run A outer s H args us vs Q E hr e0 hb r h) fun q s' hq => ?_
    cases q with
    | error e => exact False.elim hq
    | ok fl => cases fl <;> exact hq
  · exact G.run A outer s H args us vs Q E hr e0 hb r h
theorem ClG.or (A : ClG CX0 P w K mg base j x st ps dvs kws sp) (B : ClG CX P w K mg base k x st ps dvs kws sq) (hj : j ≤ n) (hk : k ≤ n) : ClG CX P w K mg base n x st ps dvs kws (spOr sp sq) := by
  obtain ⟨f, fd, h1, h2, h3⟩ := A.ex
  obtain ⟨g, gd, k1, k2, k3⟩ := B.ex
  rw [h1] at k1
  cases k1
  obtain ⟨_, _, _, _, _, _, _, _, _, _, e1, l1, _⟩ := id h2.ex
  obtain ⟨_, _, _, _, _, _, _, _, _, _, e2, l2, _⟩ := id k2.ex
  have : fd = gd := by
    rw [l1] at l2
    injection l2 with l2
    injection l2 with _ _ l2
    injection l2
  subst this
  exact ⟨f, fd, h1, h2, fnOr (h3.mono hj) (k3.mono hk)⟩
end
end Gx

set_option Elab.async false
set_option linter.all false
set_option maxRecDepth 100000
set_option maxHeartbeats 4000000
/-! Gy: either reading; what is never reached; f-strings; classes without an __init__ -/
namespace Gx
open PySem PySem.Spec PyProof.Rows L2
section
variable {X : Cx} {σ : L2.St} {H H1 : Hp} {Q : VK} {te : TE} {ts : List TE}
/-- either of two readings -/
def tEi (t1 t2 : TE) : TE := fun σ H Q => t1 σ H Q ∨ t2 σ H Q
theorem pe_ei {e : Expr} {t1 t2 : TE} (h1 : PE X e t1) (h2 : PE X e t2) : PE X e (tEi t1 t2) := ⟨fun pins s σ H Q I h => h.elim (h1.run pins s σ H Q I) (h2.run pins s σ H Q I)⟩
theorem ei_l {t1 t2 : TE} (h : t1 σ H Q) : tEi t1 t2 σ H Q := .inl h
theorem ei_r {t1 t2 : TE} (h : t2 σ H Q) : tEi t1 t2 σ H Q := .inr h
/-- what is never reached -/
def spNo : L2.Sp := fun _ _ _ _ => False
def tDead : L2.TS := fun _ _ _ => False
theorem pss_dead {ss : List Stmt} : PSs X ss tDead := ⟨fun _ _ _ _ _ _ h => h.elim⟩
/-! f-strings -/
def rFmt (x : V) (H : Hp) (Q : VK) : Prop := (∃ y : Str, x = .str y ∧ y.length ≤ sizeLine ∧ Q (.str y) H) ∨ ∃ i : Int, x = .int i ∧ i.natAbs.log2 < 1920 ∧ Q (.str (toString i)) H
def rJn (ts : List TE) (acc : Str) (σ : L2.St) (x : V) (H : Hp) (Q : Str → Hp → Prop) : Prop := ∃ y : Str, x = .str y ∧ (acc ++ y).length ≤ sizeLine ∧ tJs ts (acc ++ y) σ H Q
def tFs (ts : List TE) : TE := fun σ H Q => tJs ts Str.empty σ H fun out H1 => Q (.str out) H1
instance : Step (tFmt te σ H Q) (te σ H fun x H1 => rFmt x H1 Q) := ⟨fun q => q⟩
instance {acc : Str} {R : Str → Hp → Prop} : Step (tJs (te :: ts) acc σ H R) (te σ H fun x H1 => rJn ts acc σ x H1 R) := ⟨fun q => q⟩
instance {acc : Str} {R : Str → Hp → Prop} : Step (tJs [] acc σ H R) (R acc H) := ⟨fun q => q⟩
instance : Step (tFs ts σ H Q) (tJs ts Str.empty σ H fun out H1 => Q (.str out) H1) := ⟨fun q => q⟩
theorem pe_fs {v1 v2 : Expr} {rest : List Expr} {pos : Pos} (h : PJ X (v1 :: v2 :: rest) ts) : PE X (.JoinedStr (v1 :: v2 :: rest) pos) (tFs ts) := pe_joined h
theorem g_fmtI {i : Int} (h : i.natAbs.log2 < 1920) (q : Q (.str (toString i)) H) : rFmt (.int i) H Q := .inr ⟨i, rfl, h, q⟩
theorem g_jn {acc y : Str} {R : Str → Hp → Prop} (h : (acc ++ y).length ≤ sizeLine) (q : tJs ts (acc ++ y) σ H R) : rJn ts acc σ (.str y) H R := ⟨y, rfl, h, q⟩
/-! C() where there is no __init__ but object's -/
structure MkZ (K : PySem.W.Frag) (C : Addr) : Prop where
  makes : PySem.W.makesIn K C = true
  init : PySem.W.findIn K (.ref C) "__init__" = some (some (.builtin "object.__init__"))
  kp : PySem.W.keepIn K (.ref C) = true
def rMkZ (C : Addr) (H : Hp) (Q : VK) : Prop := ∀ x dx, H x = none → H dx = none → dx ≠ x → Q (.ref x) (upd (upd H dx (.own x)) x (.ins C dx []))
def tMakeZ (C : Addr) : TE := fun _ H Q => rMkZ C H Q
instance {C : Addr} : Step (tMakeZ C σ H Q) (rMkZ C H Q) := ⟨fun q => q⟩
theorem g_mkZ {C : Addr} (q : ∀ x dx H', Nw H x → Ex H H' → At H' x (.ins C dx []) → Q (.ref x) H') : rMkZ C H Q := fun x dx h1 h2 h3 => by
  refine q x dx _ ⟨h1⟩ ?_ ⟨upd_same⟩
  have e1 : Ex H (upd H dx (.own x)) := Ex.mk h2
  have h4 : upd H dx (.own x) x = none := by rw [upd_ne (Ne.symm h3)]; exact h1
  exact e1.trans (Ex.mk h4)
theorem run_makeZ {pins : List (Addr × Obj)} {s : Shared} {C : Addr} (M : MkZ X.K C) (I : Inv X pins σ H s) (h : rMkZ C H Q) : wpAny (model X.prog X.w) X.A (call (.ref C) []) (EP X pins σ Q) X.xe s := by
  have hq := h (s.heap.objs.size + 1) s.heap.objs.size (I.hok.fresh (Nat.le_succ _)) (I.hok.fresh (Nat.le_refl _)) (Nat.ne_of_lt (Nat.lt_succ_self _))
  have I2 := Inv.made (C := C) I
  refine wpAny_call (make_map0 I.kIn M.makes M.init (fun self => PySem.W.Looks.of_pure (PySem.W.oi_bind self)) ?_)
  have Y := PySem.W.makes_of (M := model X.prog X.w) I.kIn M.makes
  have e2 : ((s.heap.push PySem.W.emptyDict).push (PySem.W.instObj C s.heap.objs.size)).get? (s.heap.objs.size + 1) = some (PySem.W.instObj C s.heap.objs.size) := by
    have := Heap.get?_push_size (s.heap.push PySem.W.emptyDict) (o := PySem.W.instObj C s.heap.objs.size) rfl
    rwa [Heap.size_push] at this
  have t1 : PySem.W.Looks (model X.prog X.w) ((s.heap.push PySem.W.emptyDict).push (PySem.W.instObj C s.heap.objs.size)) (typeOf (.ref (s.heap.objs.size + 1))) (.ref C) := (PySem.W.Looks.ld e2).andThen .now
  have t2 : PySem.W.Looks (model X.prog X.w) ((s.heap.push PySem.W.emptyDict).push (PySem.W.instObj C s.heap.objs.size)) (isInstance (.ref (s.heap.objs.size + 1)) (.type "object")) true := t1.andThen (Y.top.keeps fun b o e => Heap.get?_push_of_some _ (Heap.get?_push_of_some _ e))
  refine codeAny_call_builtin PySem.W.oi_plain PySem.W.entry_oi (@PySem.W.check_slot (model X.prog X.w) _ _ _ "object.__init__" "object" "__init__" (.ref (s.heap.objs.size + 1)) [] [] _ PySem.W.oi_kind PySem.W.oi_split t2 (PySem.W.oi_args (.ref (s.heap.objs.size + 1))) ?_)
  rw [PySem.W.oi_run]
  exact wpAny_pure (And.intro rfl ⟨V.ref (s.heap.objs.size + 1), _, I2, rfl, hq⟩)
theorem pe_mkZ {C : Addr} {x : Str} {p pos : Pos} (M : MkZ X.K C) (hg : Gl X x) (hm : X.mg x = some (.ref C)) (hdb : (x == ("__debug__" : Str)) = false := by decide) : PE X (.Call (.Name x p) [] [] pos) (tMakeZ C) := by
  refine ⟨fun pins s σ H Q I h => ?_⟩
  refine wpAny_Call_Name_kw (ld_glob I hg hm ?_ hdb)
  exact PySem.W.callWith_K0 I.kIn M.kp (run_makeZ M I h)
end
section
variable {P : Program} {w : World} {K : PySem.W.Frag} {mg : Str → Option Value} {base : Heap} {CX : CXT} {x : Str} {st : Stmt} {ps : List Str} {dvs : List V} {kws : List (Str × V)} {j k n : Nat} {sp sq : Sp}
theorem fnOrX {f : Addr} {fd : FuncData} (F : FnOk P w K mg base CX k f fd ps sp) (G : FnOk P w K mg base CX k f fd ps sq) : FnOk P w K mg base CX k f fd ps (spOr sp sq) :=
  ⟨fun vs H Q E h => h.elim (F.len _ _ _ _) (G.len _ _ _ _), fun A outer s H args us vs Q E hr e0 hb r h => h.elim (F.run A outer s H args us vs Q E hr e0 hb r) (G.run A outer s H args us vs Q E hr e0 hb r)⟩
theorem ClG.orX (A : ClG CX P w K mg base j x st ps dvs kws sp) (B : ClG CX P w K mg base k x st ps dvs kws sq) (hj : j ≤ n) (hk : k ≤ n) : ClG CX P w K mg base n x st ps dvs kws (spOr sp sq) := by
  obtain ⟨f, fd, h1, h2, h3⟩ := A.ex
  obtain ⟨g, gd, k1, k2, k3⟩ := B.ex
  rw [h1] at k1
  cases k1
  obtain ⟨_, _, _, _, _, _, _, _, _, _, e1, l1, _⟩ := id h2.ex
  obtain ⟨_, _, _, _, _, _, _, _, _, _, e2, l2, _⟩ := id k2.ex
  have : fd = gd := by
    rw [l1] at l2
    injection l2 with l2
    injection l2 with _ _ l2
    injection l2
  subst this
  exact ⟨f, fd, h1, h2, fnOrX (h3.mono hj) (k3.mono hk)⟩
end
end Gx

set_option Elab.async false
set_option linter.all false
set_option maxRecDepth 100000
set_option maxHeartbeats 4000000
/-! Gz: enumerate(list, start=1) -/
namespace Gx
open PySem PySem.Spec PyProof.Rows L2
open PySem.Builtin.SmallTypes
open Sem (wp)
open AutoSeq1 (wpAny_loadPart')
section
variable {prog : Program} {w : World} {A : Around} {E : Value → Shared → Prop} {s : Shared}
theorem callType_meetsK {T newId initId : String} {Bn Bi : Builtin} {args : List Value} {kw : List (Str × Value)} {S : PySem.Spec} {Q Q₁ : Value → Shared → Prop} (ft : TypeCalled T newId initId)
    (hct : checkTypeCall T ⟨args, kw⟩ = pure ()) (hcn : checkBuiltinCall newId ⟨.type T :: args, kw⟩ = pure ())
    (entryN : entryFor table newId = some Bn) (entryI : entryFor table initId = some Bi) (g : Meets (Bn ⟨.type T :: args, kw⟩) S)
    (h : S A.in1 (wants Q₁ E) s)
    (hnext : ∀ obj s₁, Q₁ obj s₁ → s₁.TypeIs obj T ∧ argsOk initId ⟨obj :: args, kw⟩ ∧ ∃ Si, Meets (Bi ⟨obj :: args, kw⟩) Si ∧ Si A.in1 (wants (fun r s₂ => r = .none ∧ Q obj s₂) E) s₁) :
    wpAny (model prog w) A (call (.type T) args kw) Q E s := by
  obtain ⟨c, tl, hmro⟩ := ft.mro
  have hmade := ft.made
  have hsub := ft.sub
  refine wpAny_call (codeAny_of_tree ?_)
  show wpAny _ _ (callAny (.type T) _) _ _ _
  refine wpAny_pure ⟨Code.quiet_builtin _ (by decide +kernel), codeAny_builtin F.entry_type_call ?_⟩
  rw [Around.under_plain (weight_type_call_type T args kw) (units_type_call_type T args kw)]
  have h1 := ft.notType
  have h2 := ft.canCreate
  repeat (any_goals (first | assumption | wp_step))

  refine codeAny_mono (codeAny_call_builtin ft.plain entryN (wpAny_of_eq hcn (g prog w A.in1 _ s h))) fun r s₁ hr => ?_
  cases r with
  | error e => exact hr
  | ok fl =>
    cases fl with
    | ret obj =>
      obtain ⟨hT, hok, Si, gi, hsi⟩ := hnext _ _ hr
      have hli := ft.init.lookup
      have hbi := ft.init.bind obj
      repeat (any_goals (first | assumption | wp_step))

      refine codeAny_mono (codeAny_call_builtin ft.init.plain entryI (ft.init.check _ _ _ _ _ _ _ _ hT hok (gi prog w A.in1 _ s₁ hsi))) fun r₂ s₂ hr₂ => ?_
      cases r₂ with
      | error e => exact hr₂
      | ok fl₂ =>
        cases fl₂ with
        | ret r =>
          obtain ⟨rfl, hq⟩ := hr₂
          repeat (any_goals (first | assumption | wp_step))
        | _ => exact hr₂.elim
    | _ => exact hr.elim
theorem typeCall_en (a : Value) (t : Tok) : checkTypeCall "enumerate" ⟨[a], [("start", .int 1 t)]⟩ = pure () := by kernel_rfl
theorem newCall_en (a : Value) (t : Tok) : checkBuiltinCall "enumerate.__new__" ⟨[.type "enumerate", a], [("start", .int 1 t)]⟩ = pure () := by kernel_rfl
theorem args_oi_en (a b : Value) (t : Tok) : argsOk "object.__init__" ⟨[a, b], [("start", .int 1 t)]⟩ := by unfold argsOk; kernel_rfl
theorem oi_meets_en {T newId : String} {self a : Value} {t : Tok} (hl : typeLookup (.type T) "__init__" = pure (some (.builtin "object.__init__")))
    (hm : Bind.madeBy (.type T) = pure (some newId)) (hne : (some newId != some "object.__new__") = true) :
    Meets (Builtin.«object.__init__» ⟨[self, a], [("start", .int 1 t)]⟩) (fun _ R s => s.TypeIs self T ∧ R (.ok (.ret .none)) s) := by
  refine Meets.of_wp fun prog w A R s hs => ?_
  obtain ⟨hT, hq⟩ := hs
  repeat (any_goals (first | assumption | wp_step))
  exact ⟨_, rfl, hq⟩
theorem meets_en (l : Addr) (items : Array Value) (n : Nat) (dct : Option Addr) (sl : Array (Option Value)) (t : Tok) :
    Meets (Builtin.«enumerate.__new__» ⟨[.type "enumerate", .ref l], [("start", .int 1 t)]⟩) (fun _ R s => s.heap.get? l = some { cls := .type "list", dict := dct, data := .seq items n, slots := sl } ∧
      R (.ok (.ret (.ref (s.heap.push { cls := .type "list_iterator", data := .fields #[.ref l, .int 0 0] }).objs.size)))
        { s with heap := (s.heap.push { cls := .type "list_iterator", data := .fields #[.ref l, .int 0 0] }).push { cls := .type "enumerate", data := .fields #[.none, .bool false, .ref s.heap.objs.size, rawInt 1, .none, .none] } }) :=
  .of_wp fun prog w A R s h => by
    obtain ⟨hp, g, d, tk, os⟩ := s; obtain ⟨hl, h⟩ := h
    have hsub := sub_enumerate
    have hL : Heap.IsList (Shared.heap ⟨hp, g, d, tk, os⟩) l items := ⟨_, hl, rfl, n, rfl⟩
    wp_walk using wpAny_loadPart' hl
    refine wpAny_stack_any fun st => wpAny_pure ?_
    split
    · rename_i c _ _ _ _ _
      cases (c == Value.type "enumerate")
      · wp_walk using wpAny_loadPart' hl, wpAny_pyIter_list hL
        exact ⟨_, rfl, h⟩
      · wp_walk using wpAny_loadPart' hl, wpAny_pyIter_list hL
        exact ⟨_, rfl, h⟩
    · wp_walk using wpAny_loadPart' hl, wpAny_pyIter_list hL
      exact ⟨_, rfl, h⟩
theorem call_en {l : Addr} {items : Array Value} {t : Tok} {Q : Value → Shared → Prop} (hL : s.heap.IsList l items)
    (h : ∀ h', IsEnum h' (s.heap.objs.size + 1) s.heap.objs.size 1 .none → h'.IsListIter s.heap.objs.size l 0 → h'.objs.size = s.heap.objs.size + 2 →
      (∀ b o, s.heap.get? b = some o → h'.get? b = some o) → Q (.ref (s.heap.objs.size + 1)) { s with heap := h' }) :
    wpAny (model prog w) A (call (.type "enumerate") [.ref l] [("start", .int 1 t)]) Q E s := by
  obtain ⟨⟨c, dct, dt, sl⟩, hl, hc, n, hd⟩ := hL
  replace hc : c = .type "list" := hc
  replace hd : dt = .seq items n := hd
  subst hc hd
  have ft := F.called_enumerate
  refine callType_meetsK ft (typeCall_en _ _) (newCall_en _ _) F.entry_enumerate_new F.entry_object_init (meets_en l items n dct sl t) (Q₁ := fun obj s₁ => s₁.TypeIs obj "enumerate" ∧ Q obj s₁) ⟨hl, ?_⟩
    fun obj _ hq => ⟨hq.1, args_oi_en obj _ _, _, oi_meets_en ft.init.lookup ft.made (by decide), hq.1, rfl, hq.2⟩
  have hz : (s.heap.push { cls := .type "list_iterator", data := .fields #[.ref l, .int 0 0] }).objs.size = s.heap.objs.size + 1 := Heap.size_push ..
  show _ ∧ _
  rw [hz]
  have he : IsEnum ((s.heap.push { cls := .type "list_iterator", data := .fields #[.ref l, .int 0 0] }).push
      { cls := .type "enumerate", data := .fields #[.none, .bool false, .ref s.heap.objs.size, rawInt 1, .none, .none] }) (s.heap.objs.size + 1) s.heap.objs.size 1 .none := by
    have := Heap.get?_push_size (s.heap.push { cls := .type "list_iterator", data := .fields #[.ref l, .int 0 0] })
      (o := { cls := .type "enumerate", data := .fields #[.none, .bool false, .ref s.heap.objs.size, rawInt 1, .none, .none] }) rfl
    rw [hz] at this; exact this
  refine ⟨⟨_, he, rfl⟩, h _ he ⟨_, Heap.get?_push_of_some _ (Heap.get?_push_size _ rfl), rfl, rfl⟩ (by rw [Heap.size_push, hz]) fun b o x => Heap.get?_push_of_some _ (Heap.get?_push_of_some _ x)⟩
end
section
variable {prog : Program} {w : World} {A : Around} {E : Value → Shared → Prop} {s : Shared}
theorem enum_end1 {e it l : Addr} {i : Nat} {j : Int} {items : Array Value} {old : Value} {Q : Option Value → Shared → Prop} (hh : A.handled = none)
    (he : IsEnum s.heap e it j old) (hit : s.heap.IsListIter it l i) (hl : s.heap.IsList l items) (hx : items[i]? = none)
    (hQ : ∀ h', Heap.ExtBut it s.heap h' → Q none { s with heap := h' }) : wpAny (model prog w) A (pyNext (.ref e)) Q E s := by
  have hT : s.TypeIs (.ref e) "enumerate" := ⟨_, he, rfl⟩
  unfold pyNext
  refine wpAny_bind (wpAny_attempt (wpAny_callSpecial?_slot (name := Str.ofString "__next__") hT F.slot_enumerate_next
    (wpAny_call_entry F.slot_enumerate_next hT F.entry_enumerate_next ?_ (F.args_enumerate_next_1 _))))
  show wpAny _ _ (field (.ref e) 2 >>= _) _ _ _
  refine wpAny_bind (wpAny_field he rfl (x := .ref it) rfl ?_)
  refine wpAny_bind (wpAny_nextOf_list_end hh hit hl hx fun h' x he' hx' => ?_)
  obtain ⟨o, ho, hc⟩ := hx'
  refine wpAny_bind (wpAny_isInstance (T := "StopIteration") (b := true) ⟨o, ho, hc⟩ isSubtype_stop ?_)
  exact wpAny_pure (hQ _ he')
theorem draws_up {it : Addr} {fp : List Addr} {n : Nat} {P : Nat → Value → Prop} {St : Nat → Heap → Prop} (D : Draws prog w A it fp n P St) :
    Draws prog w A it fp (n + 1) (fun j v => ∃ i, j = i + 1 ∧ P i v) (fun j h => ∃ i, j = i + 1 ∧ St i h) where
  live := fun _ h ⟨i, _, st⟩ => D.live i h st
  frame := fun _ h h' ⟨i, e, st⟩ hk => ⟨i, e, D.frame i h h' st hk⟩
  item := fun j s Q E hj st hQ => by
    obtain ⟨i, rfl, st⟩ := st
    exact D.item i s Q E (by omega) st fun x h' tk p st' sb => hQ x h' tk ⟨i, rfl, p⟩ ⟨i + 1, rfl, st'⟩ sb
  done := fun s Q E st hE => by
    obtain ⟨i, e, st⟩ := st
    obtain rfl : i = n := by omega
    exact D.done s Q E st hE
theorem callWith_type_kwB {M : Model} {pos : Pos} {T : String} {first : List Value} {args : List (Bool × Sem Value)} {keywords : List (Option Str × Sem Value)} {Q : Value → Shared → Prop}
    (hplain : args.any (·.1) = false) (hkw : keywords.any (·.1.isNone) = false)
    (h : wpAny M A (evalArgs (.type T) true args keywords) (fun a s₁ => wpAny M A (call (.type T) (first ++ a.pos) a.kw) Q E s₁) E s) :
    wpAny M A (callWith pos (.type T) first args keywords) Q E s := by
  unfold callWith
  refine wpAny_bind (wpAny_holding (wpAny_mono h (fun a s₁ h₁ => wpAny_bind (wpAny_standAt ?_)) fun _ _ x => x))
  simp only [hplain, hkw, Bool.or_false]
  refine wpAny_bind (wpAny_pure ?_)
  exact wpAny_bind (wpAny_mono h₁ (fun r s₂ hr => wpAny_bind (wpAny_holding (wpAny_point (wpAny_pure hr)))) fun _ _ x => x)
theorem callWith_kwT {M : Model} {env : Env} {pos : Pos} {T : String} {e : Expr} {rest : List Expr} {kws : List Keyword} {Q : Value → Shared → Prop}
    (h : wpAny M A (spliced (backTo pos (starEach (e :: rest) env))) (fun vs s₁ => wpAny M A (evalAll ((backToKw pos (keywordEach kws env)).map (·.2)))
      (fun kvs s₂ => wpAny M A (call (.type T) vs (((backToKw pos (keywordEach kws env)).filterMap (·.1)).zip kvs)) Q E s₂) E s₁) E s)
    (he : backTo pos (starEach (e :: rest) env) = (false, eval e env) :: backTo pos (starEach rest env))
    (hplain : (backTo pos (starEach (e :: rest) env)).any (·.1) = false)
    (hall : (backToKw pos (keywordEach kws env)).all (·.1.isSome) = true)
    (hkw : (backToKw pos (keywordEach kws env)).any (·.1.isNone) = false) :
    wpAny M A (callWith pos (.type T) [] (backTo pos (starEach (e :: rest) env)) (backToKw pos (keywordEach kws env))) Q E s := by
  refine callWith_type_kwB hplain hkw ?_
  rw [he] at h ⊢
  exact PyProof.Rows.evalArgs_kwB hall h
end
/-- the list at a, each item in a new pair with its place from 1 on -/
def Ite1 (K : PySem.W.Frag) (a : Addr) : It :=
  ⟨fun i H => ∃ (xs : List V) (x : V), SqL K H a xs ∧ xs[i]? = some x, fun i H v H' => ∃ T x, v = .ref T ∧ H T = none ∧ H' = upd H T (.tup [.int ((i + 1 : Nat) : Int), x]) ∧ ∀ xs, SqL K H a xs → xs[i]? = some x, fun i H => ∃ xs : List V, SqL K H a xs ∧ xs.length ≤ i⟩
theorem turn_enum1 {P : Program} {w : World} {K : PySem.W.Frag} {elts : List Expr} {kk : Nat} {tpos : Pos} (a e it : Addr) :
    Turn P w K (.Tuple elts kk tpos) (Ite1 K a) [e, it] e (fun i h => (∃ old, IsEnum h e it ((i + 1 : Nat) : Int) old) ∧ h.IsListIter it a i ∧ e ≠ it) where
  mem := by simp
  obj := fun i h st b hb => by
    obtain ⟨⟨old, he⟩, ⟨o, ho, hc, hd⟩, _⟩ := st
    have e' : b = e ∨ b = it := by simpa using hb
    rcases e' with z | z
    · rw [z]; exact ⟨_, he, fun v q => nomatch q⟩
    · rw [z]; exact ⟨o, ho, fun v q => by rw [hd] at q; cases q⟩
  keep := fun i h h' st k => let ⟨⟨old, he⟩, hi, hne⟩ := st; ⟨⟨old, k e (by simp) _ he⟩, hi.at fun o q => k it (by simp) o q, hne⟩
  item := by
    intro X hP hw hK hc i pins s σ H E I hf st hg
    subst hP hw hK
    obtain ⟨⟨old, he⟩, hit, hne⟩ := st
    obtain ⟨xs, x, hq, hx⟩ := hg
    obtain ⟨its, rv, p, hz⟩ := I.list hq
    obtain ⟨u, hu, ru⟩ := rv.get hx
    have hel : e < s.heap.objs.size := Heap.lt_size he
    have hil : it < s.heap.objs.size := by obtain ⟨_, q, _⟩ := hit; exact Heap.lt_size q
    have hai : a ≠ it := fun z => by
      obtain ⟨o1, e1, c1, _⟩ := p.isList
      obtain ⟨o2, e2, c2, _⟩ := id hit
      rw [z, e2] at e1
      cases e1
      rw [c2] at c1
      simp at c1
    have hea : e ≠ a := fun z => by
      obtain ⟨o1, e1, c1, _⟩ := p.isList
      have e2 := he
      unfold IsEnum at e2
      rw [z, e1] at e2
      cases e2
      simp at c1
    have D := draws_up (Draws.list (prog := X.prog) (w := X.w) (A := X.A.in1) (I.ok.hd hc) it a hai its.toArray)
    have hlt : i < its.toArray.size := by
      rcases Nat.lt_or_ge i its.toArray.size with z | z
      · exact z
      · rw [List.getElem?_eq_none (by simpa using z)] at hu; cases hu
    refine wpAny_pyNext_enum_itemD D he ⟨i, rfl, hit, p.isList⟩ (by omega) hne (by simp only [List.mem_cons, List.not_mem_nil, or_false, not_or]; exact ⟨hne, hea⟩) fun v h' tk hv ho hit' hT hsz hk => ?_
    obtain ⟨i', ei, hv⟩ := hv
    obtain rfl : i = i' := by omega
    obtain rfl : v = u := by
      have hu2 : its.toArray[i]? = some u := by simpa using hu
      rw [hu2] at hv
      cases hv
      rfl
    obtain ⟨i', ei', hit', _⟩ := hit'
    obtain rfl : i + 1 = i' := by omega
    refine ⟨_, rfl, wpAny_letOwnedTupleGo_enum (s := { s with heap := h', toks := tk + 1 }) ho fun h'' he' sb => ?_⟩
    have hT2 : h''.get? s.heap.objs.size = some { cls := .type "tuple", data := .seq #[.int ((i + 1 : Nat) : Int) tk, v] } := (sb.2 _ (Nat.ne_of_gt hel)).trans hT
    have new : ObjOk X.prog X.w (upd H s.heap.objs.size (.tup [.int ((i + 1 : Nat) : Int), x])) h'' s.heap.objs.size (.tup [.int ((i + 1 : Nat) : Int), x]) :=
      ⟨by show 2 ≤ sizeLine; decide, [.int ((i + 1 : Nat) : Int) tk, v], .cons ⟨_, rfl⟩ (.cons ru .nil), ⟨_, hT2, rfl, _, rfl⟩⟩
    have I1 : Inv X pins σ (upd H s.heap.objs.size (.tup [.int ((i + 1 : Nat) : Int), x])) { s with heap := h'', toks := tk + 1 } :=
      I.turnedNew (ch := [e, it]) (fun b ob hb q => (sb.2 b (fun z => hb (by simp [z]))).trans (hk b ob (fun z => hb (by simp [z])) (fun z => hb (by simp [z])) q)) hf (Nat.le_refl _) new
    refine ⟨.ref s.heap.objs.size, _, I1, rfl, ⟨_, x, rfl, I.hok.fresh (Nat.le_refl _), rfl, fun ys hy => by rw [I.list_inj hy hq]; exact hx⟩, ⟨⟨v, ?_⟩, hit'.at fun o q => (sb.2 it (Ne.symm hne)).trans q, hne⟩, fun b hb => ?_⟩
    · have e1 : ((i + 1 + 1 : Nat) : Int) = ((i + 1 : Nat) : Int) + 1 := by omega
      rw [e1]; exact he'
    · have hb' : b < s.heap.objs.size := by
        have e' : b = e ∨ b = it := by simpa using hb
        rcases e' with z | z
        · rw [z]; exact hel
        · rw [z]; exact hil
      rw [upd_ne (Nat.ne_of_lt hb')]
      exact (hf b hb).1
  done := by
    intro X hP hw hK hc i pins s σ H E I hf st hg
    subst hP hw hK
    obtain ⟨⟨old, he⟩, hit, hne⟩ := st
    obtain ⟨xs, hq, hx⟩ := hg
    obtain ⟨its, rv, p, hz⟩ := I.list hq
    obtain ⟨f0, f1, f2, f3, f4, f5⟩ := hf it (by simp)
    have hl := rv.length
    exact enum_end1 (I.ok.hd hc) he hit p.isList (by simp; omega) fun h' eb => ⟨rfl, I.turned (t' := s.toks) (fun b o hb q => eb b o hb q) f0 f1 f3 f4 f5⟩
  self := fun A i s Q E st h => let ⟨⟨_, he⟩, _⟩ := st; wpAny_pyIter_enum he h
def rEn1 (K : PySem.W.Frag) (vs zs : List V) (H : Hp) (R : It → Hp → Prop) : Prop := ∃ a xs, vs = [.ref a] ∧ zs = [.int 1] ∧ SqL K H a xs ∧ R (Ite1 K a) H
def iEnum1 (K : PySem.W.Frag) (ta tk : TA) : TI := fun σ H R => ta σ H fun vs H1 => tk σ H1 fun zs H2 => rEn1 K vs zs H2 R
theorem pi_enum1 {X : Cx} {K : PySem.W.Frag} {e : Expr} {kws : List Keyword} {ta tk : TA} {p pos tpos : Pos} {elts : List Expr} {kk : Nat} (hK : X.K = K) (hg : Gl X "enumerate") (hm : X.mg "enumerate" = none) (ha : PA X [e] ta) (hk : PK X kws tk)
    (he : backTo pos (starEach [e] X.env) = (false, eval e X.env) :: backTo pos (starEach [] X.env) := by rfl) (hpl : (backTo pos (starEach [e] X.env)).any (·.1) = false := by rfl)
    (hall : (backToKw pos (keywordEach kws X.env)).all (·.1.isSome) = true := by rfl) (hnone : (backToKw pos (keywordEach kws X.env)).any (·.1.isNone) = false := by rfl) (hks : (backToKw pos (keywordEach kws X.env)).filterMap (·.1) = [("start" : Str)] := by rfl) :
    PI X (.Tuple elts kk tpos) (.Call (.Name "enumerate" p) [e] kws pos) (iEnum1 K ta tk) := by
  subst hK
  refine ⟨fun pins s σ H R I h => ?_⟩
  refine wpAny_Call_Name_kw (ld_blt I hg hm boot_enumerate ?_)
  refine callWith_kwT (thn (ha.run pos pins s σ H _ I h) fun us s1 ⟨vs, H1, I1, r1, q1⟩ => thn (hk.run pos pins s1 σ H1 _ I1 q1) fun ws s2 ⟨zs, H2, I2, r2, q2⟩ => ?_) he hpl hall hnone
  rw [hks]
  obtain ⟨a, xs, ex, ez, hq, q⟩ := q2
  subst ex
  subst ez
  cases r1 with
  | cons r rr =>
    cases rr
    cases r
    cases r2 with
    | cons r' rr' =>
      cases rr'
      obtain ⟨t, rfl⟩ := r'
      obtain ⟨its, rv, p', hz⟩ := I2.list hq
      refine call_en p'.isList fun h' he hit hsz hk => wpAny_pyIter_enum he ?_
      have I3 : Inv X pins σ H2 { s2 with heap := h' } := I2.kept (t' := s2.toks) hk
      refine ⟨s2.heap.objs.size + 1, [s2.heap.objs.size + 1, s2.heap.objs.size], _, _, H2, rfl, I3, turn_enum1 a (s2.heap.objs.size + 1) s2.heap.objs.size, ⟨⟨.none, he⟩, hit, Nat.succ_ne_self _⟩, fun b hb => ?_, q⟩
      have e' : b = s2.heap.objs.size + 1 ∨ b = s2.heap.objs.size := by simpa using hb
      have hle : s2.heap.objs.size ≤ b := by
        rcases e' with z | z
        · rw [z]; exact Nat.le_add_right _ _
        · rw [z]; exact Nat.le_refl _
      exact I2.fpOk hle (I2.hok.fresh hle)
section
variable {K : PySem.W.Frag} {σ : L2.St} {H : Hp} {ta tk : TA} {D : Ends} {tb : TS} {g : TG}
theorem fd_enum1 {a : Addr} {xs : List V} : Feeds (Ite1 K a) xs.length (fun H => SqL K H a xs) (fun i H x H' => ∃ c, xs[i]? = some c ∧ Pair H x H' (.int ((i + 1 : Nat) : Int)) c) :=
  ⟨fun i H s h => ⟨xs, xs[i], s, List.getElem?_eq_getElem h⟩, fun i H x H' s _ y => by
    obtain ⟨T, c, rfl, h, rfl, hc⟩ := y
    exact ⟨c, hc xs s, pair_mk h⟩, fun H s => ⟨xs, s, Nat.le_refl _⟩⟩
def rForE1 (K : PySem.W.Frag) (vs zs : List V) (g : TG) (tb : TS) (D : Ends) (σ : L2.St) (H : Hp) : Prop := tFor (fun _ H R => rEn1 K vs zs H R) g tb D σ H
instance : Step (tFor (iEnum1 K ta tk) g tb D σ H) (ta σ H fun vs H1 => tk σ H1 fun zs H2 => rForE1 K vs zs g tb D σ H2) := ⟨fun q => q⟩
theorem forE1 {a : Addr} {xs : List V} (bs : List Addr) (Pv : Nat → L2.St → Hp → Prop) [hx : SqC K H a xs] [hn : NotIn a bs] (h0 : Pv 0 σ H)
    (hs : ∀ (i : Nat) c x σ' H' H'', xs[i]? = some c → Chg bs H H' → Pv i σ' H' → Pair H' x H'' (.int ((i + 1 : Nat) : Int)) c → g x σ' H'' fun σ2 H2 => tb { D with nx := LI bs H (Pv (i + 1)), ct := LI bs H (Pv (i + 1)), bk := D.nx } σ2 H2)
    (hd : ∀ σ' H', Chg bs H H' → Pv xs.length σ' H' → D.nx σ' H') : rForE1 K [.ref a] [.int 1] g tb D σ H :=
  ⟨a, xs, rfl, rfl, hx.sq, for_feeds fd_enum1 bs Pv h0 (fun _ r => r.l hn.out hx.sq) (fun i σ' H' x H'' hi r p y => by
    obtain ⟨c, h1, y⟩ := y
    exact hs i c x σ' H' H'' h1 r p y) hd⟩
end
end Gx

set_option Elab.async false
set_option linter.all false
set_option maxRecDepth 100000
set_option maxHeartbeats 4000000
/-! methods and makings within a try: what is raised is wished for at the caller's slots -/
namespace Gx
open PySem PySem.Spec PyProof.Rows L2
section
variable {X : Cx} {CX : CXT} {k : Nat} {C : Addr} {m qual x : Str} {st : Stmt} {ps : List Str} {sp : Sp} {E : L2.St → XK} {o e : Expr} {es : List Expr} {ta : TE} {t : TA} {p apos pos : Pos} {pl : Sem Bool}
def tMethD (C : Addr) (m : Str) (sp : Sp) (dvs : List V) (E : L2.St → XK) (ta : TE) (t : TA) : TE := fun σ H Q => ta σ H fun x H1 => rMeth C m sp dvs (E σ) t σ x H1 Q
def tMakeD (C : Addr) (sp : Sp) (dvs : List V) (E : L2.St → XK) (t : TA) : TE := fun σ H Q => t σ H fun vs H1 => rMkC C sp dvs (E σ) vs H1 Q
theorem pe_mD (M : ClM CX X.prog X.w X.K X.mg X.base k C m qual st ps [] [] sp) (c : Cls X.K C) (hr : Room k X.A) (hx : ∀ σ, PassesAt CX X σ (E σ))
    (hB : ∀ (kV doc pm : Value) (an : Option Addr) (cdv ct : Value) (us : List Value), us.length = ps.length → bindArgs (PySem.W.fnOf m qual (defArgs st) (defBody st) (defScope st) .none kV doc pm an cdv ct) ⟨us, []⟩ = pure (ps.zip us))
    (he : PE X o ta) (ha : PA X (e :: es) t)
    (hst : starEach (e :: es) X.env = (false, eval e X.env) :: starEach es X.env := by rfl) (hpl : (backTo pos (starEach es X.env)).any (·.1) = false := by rfl)
    (ht : eval (.Call (.Attribute o m apos) (e :: es) [] pos) X.env = (do
      let ov ← eval o X.env
      standAt apos.atName
      let (f, first) ← holding [ov] (getMethod ov m pl)
      callWith pos f first (backTo pos (starEach (e :: es) X.env)) (backToKw pos (keywordEach [] X.env))) := by rfl) :
    PE X (.Call (.Attribute o m apos) (e :: es) [] pos) (tMethD C m sp [] E ta t) := by
  obtain ⟨f, fd, h1, h2, h4⟩ := M.ex
  refine ⟨fun pins s σ H Q I h => ?_⟩
  refine PySem.W.methodCall_KW (pl := pl) (thn (he.run pins s σ H _ I h) fun u s1 ⟨x, H1, I1, rx, a, dx, fs, ex, ea, l, q⟩ => ?_) ht
  subst ex
  obtain rfl : u = Value.ref a := rx
  refine getmeth_ok I1 ea c h1 l ?_
  refine PySem.W.callWith_K (first := [.ref a]) (h₀ := X.base) I.ok.mod.kin h1.kp (thn (ha.run pos pins s1 σ H1 _ I1 q) fun us s2 ⟨vs, H2, I2, r, q2⟩ => ⟨I2.kIn, ?_⟩) hst hpl
  exact run_fnSD (us := .ref a :: us) (vs := .ref a :: vs) h4 hr (h2.bindsN hB) .nil (hx σ) I2 (.cons rfl r) q2
/-- an object is made -/
theorem pe_mkD (M : ClC CX X.prog X.w X.K X.mg X.base k C qual st ps [] [] sp) (hr : Room (k + 1) X.A) (hg : Gl X x) (hm : X.mg x = some (.ref C)) (hx : ∀ σ, PassesAt CX X σ (E σ))
    (hB : ∀ (kV doc pm : Value) (an : Option Addr) (cdv ct : Value) (us : List Value), us.length = ps.length → bindArgs (PySem.W.fnOf "__init__" qual (defArgs st) (defBody st) (defScope st) .none kV doc pm an cdv ct) ⟨us, []⟩ = pure (ps.zip us))
    (ha : PA X (e :: es) t) (hdb : (x == ("__debug__" : Str)) = false := by decide) (he : starEach (e :: es) X.env = (false, eval e X.env) :: starEach es X.env := by rfl) (hpl : (backTo pos (starEach es X.env)).any (·.1) = false := by rfl) :
    PE X (.Call (.Name x p) (e :: es) [] pos) (tMakeD C sp [] E t) := by
  obtain ⟨f, fd, h1, h2, h4⟩ := M.ex
  refine ⟨fun pins s σ H Q I h => ?_⟩
  refine wpAny_Call_Name_kw (ld_glob I hg hm ?_ hdb)
  refine PySem.W.callWith_K (h₀ := X.base) I.ok.mod.kin h1.kp (thn (ha.run pos pins s σ H _ I h) fun us s1 ⟨vs, H1, I1, r, q⟩ => ⟨I1.kIn, ?_⟩) he hpl
  have hq := q (s1.heap.objs.size + 1) s1.heap.objs.size (I1.hok.fresh (Nat.le_succ _)) (I1.hok.fresh (Nat.le_refl _)) (Nat.ne_of_lt (Nat.lt_succ_self _))
  have I2 := Inv.made (C := C) I1
  have r2 : Vals (V.ref (s1.heap.objs.size + 1) :: (vs ++ [])) (Value.ref (s1.heap.objs.size + 1) :: (us ++ [])) := .cons rfl (r.append .nil)
  have hl : (Value.ref (s1.heap.objs.size + 1) :: us ++ []).length = ps.length := by
    have y := r2.length
    rw [h4.len _ _ _ _ hq] at y
    exact y.symm
  have hbb : BindsTo _ fd { pos := Value.ref (s1.heap.objs.size + 1) :: us } (ps.zip (Value.ref (s1.heap.objs.size + 1) :: (us ++ []))) := h2.bindsN hB _ (Value.ref (s1.heap.objs.size + 1) :: us) I2.kIn hl
  refine wpAny_call (make_map (f := f) I1.kIn h1.makes h1.init (beq_iff_eq.mp h1.fn) (codeAny_mono (h4.run _ X.stack _ _ ⟨Value.ref (s1.heap.objs.size + 1) :: us, []⟩ (Value.ref (s1.heap.objs.size + 1) :: (us ++ [])) _ _ (E σ) (hr.make C us [])
    (I2.env0.make C us []) hbb r2 hq) fun r s' hq' => ?_))
  cases r with
  | error y => exact hx σ pins _ _ y s' I2 hq'
  | ok fl =>
    cases fl with
    | ret u =>
      obtain ⟨v, H', I3, rv, ev, q3⟩ := I2.after hq'
      subst ev
      exact ⟨rv, ⟨V.ref (s1.heap.objs.size + 1), H', I3, rfl, q3⟩⟩
    | next => exact False.elim hq'
    | brk => exact False.elim hq'
    | cont => exact False.elim hq'
end
section
variable {σ : L2.St} {H : Hp} {Q : VK} {C : Addr} {m : Str} {sp : Sp} {dvs : List V} {E : L2.St → XK} {ta : TE} {t : TA}
instance : Step (tMakeD C sp dvs E t σ H Q) (t σ H fun vs H1 => rMkC C sp dvs (E σ) vs H1 Q) := ⟨fun q => q⟩
instance : Step (tMethD C m sp dvs E ta t σ H Q) (ta σ H fun x H1 => rMeth C m sp dvs (E σ) t σ x H1 Q) := ⟨fun q => q⟩
end
section
variable {H : Hp} {Q : VK}
/-- x.split(y) of a text by a text -/
def rSpl : V → List V → Hp → VK → Prop := fun x xs H Q => ∃ a b, x = .str a ∧ xs = [.str b] ∧ (b.length == 0) = false ∧ a.length + 2 ≤ sizeLine ∧ rNewStrs (Txt.split a b) H Q
theorem mtSpl {X : Cx} : MtR X "str.split" rSpl := mt_split
theorem g_split {a b : Str} {ys : List Str} (e : Txt.split a b = ys) (hb : (b.length == 0) = false) (ha : a.length ≤ 1000) (q : ∀ p H2, Nw H p → Ex H H2 → At H2 p (.lst (ys.map V.str)) → Q (.ref p) H2) : rSpl (.str a) [.str b] H Q :=
  ⟨a, b, rfl, rfl, hb, Nat.le_trans (Nat.add_le_add_right ha 2) (by decide), fun p h => by rw [e]; exact q p _ ⟨h⟩ (Ex.mk h) ⟨upd_same⟩⟩
end
end Gx

set_option linter.all false
set_option maxRecDepth 100000
set_option maxHeartbeats 2000000
/-! Gk: dicts: with texts or ints as keys (dK), with tuples of these (dT). -/
namespace Gx
open PySem PySem.Spec PyProof.Rows L2
theorem hu1 {n m : Nat} (h : n + 64 < m) : n + 1 < m := by omega
/-- the keys of a tuple -/
class KeysC (xs : List V) (k : outParam (List Key)) : Prop where
  eq : xs = k.map kV
class KeyC (x : V) (k : outParam Key) : Prop where
  eq : x = kV k
instance {i : Int} : KeyC (.int i) (.inl i) := ⟨rfl⟩
instance {z : Str} : KeyC (.str z) (.inr z) := ⟨rfl⟩
instance : KeysC [] [] := ⟨rfl⟩
instance {x : V} {k : Key} {xs : List V} {ks : List Key} [h : KeyC x k] [hs : KeysC xs ks] : KeysC (x :: xs) (k :: ks) := ⟨by rw [h.eq, hs.eq]; rfl⟩
theorem exbN {H : Hp} {b : Addr} {o o' : HO} (h : H b = some o') (hi : ¬ Imm o') : ExB b H (L2.upd H b o) := ⟨fun a u n e => by
  rw [upd_ne (by simpa using n)]
  exact e, fun a e => by
  by_cases z : a = b
  · rw [z, upd_same] at e; cases e
  · rw [upd_ne z] at e; exact e, fun a u i e => by
  by_cases z : a = b
  · rw [z, h] at e
    cases e
    exact absurd i hi
  · rw [upd_ne z]; exact e⟩
theorem ImmDT {kvs : List (List Key × V)} : ¬ Imm (.dT kvs) := fun h => by
  rcases h with ⟨_, h⟩ | ⟨_, h⟩ | ⟨_, _, _, h⟩ <;> cases h
theorem ImmDK {kvs : List (Key × V)} : ¬ Imm (.dK kvs) := fun h => by
  rcases h with ⟨_, h⟩ | ⟨_, h⟩ | ⟨_, _, _, h⟩ <;> cases h
section
variable {K : PySem.W.Frag} {σ : L2.St} {H : Hp} {Q : VK} {D : Ends} {a b : Addr} {x y v : V} {xs : List V} {ks : List Key} {k : Key} {kvs : List (List Key × V)} {kvk : List (Key × V)} {td ty tv : TE}
def rDGet (x y : V) (H2 : Hp) (Q : VK) : Prop := ∃ a v, x = .ref a ∧ DGet H2 a y (some v) ∧ Q v H2
instance : Step (tDGet td ty σ H Q) (td σ H fun x H1 => ty σ H1 fun y H2 => rDGet x y H2 Q) := ⟨fun q => q⟩
def rDIn (y x : V) (H2 : Hp) (Q : VK) : Prop := ∃ a o, x = .ref a ∧ DGet H2 a y o ∧ Q (.bl o.isSome) H2
def rDNot (y x : V) (H2 : Hp) (Q : VK) : Prop := ∃ a o, x = .ref a ∧ DGet H2 a y o ∧ Q (.bl (!o.isSome)) H2
instance : Step (tDIn ty td σ H Q) (ty σ H fun y H1 => td σ H1 fun x H2 => rDIn y x H2 Q) := ⟨fun q => q⟩
instance : Step (tDNotIn ty td σ H Q) (ty σ H fun y H1 => td σ H1 fun x H2 => rDNot y x H2 Q) := ⟨fun q => q⟩
def rDPut (x y v : V) (D : Ends) (σ : L2.St) (H3 : Hp) : Prop := ∃ a H4, x = .ref a ∧ DPut H3 a y v H4 ∧ D.nx σ H4
instance : Step (sDPut td ty tv D σ H) (tv σ H fun v H1 => td σ H1 fun x H2 => ty σ H2 fun y H3 => rDPut x y v D σ H3) := ⟨fun q => q⟩
theorem g_dgetT [h : At H a (.dT kvs)] [hb : At H b (.tup xs)] [hk : KeysC xs ks] (hv : valV kvs ks = some v) (q : Q v H) : rDGet (.ref a) (.ref b) H Q :=
  ⟨a, v, rfl, by rw [← hv]; exact DGet.t h.eq (by rw [hb.eq, hk.eq]), q⟩
theorem g_dgetK [h : At H a (.dK kvk)] [hk : KeyC y k] (hv : valV kvk k = some v) (q : Q v H) : rDGet (.ref a) y H Q :=
  ⟨a, v, rfl, by rw [← hv, hk.eq]; exact DGet.k h.eq, q⟩
instance [h : At H a (.dT kvs)] [hb : At H b (.tup xs)] [hk : KeysC xs ks] : Step (rDIn (.ref b) (.ref a) H Q) (Q (.bl (valV kvs ks).isSome) H) := ⟨fun q => ⟨a, _, rfl, DGet.t h.eq (by rw [hb.eq, hk.eq]), q⟩⟩
instance [h : At H a (.dT kvs)] [hb : At H b (.tup xs)] [hk : KeysC xs ks] : Step (rDNot (.ref b) (.ref a) H Q) (Q (.bl (!(valV kvs ks).isSome)) H) := ⟨fun q => ⟨a, _, rfl, DGet.t h.eq (by rw [hb.eq, hk.eq]), q⟩⟩
instance [h : At H a (.dK kvk)] [hk : KeyC y k] : Step (rDIn y (.ref a) H Q) (Q (.bl (valV kvk k).isSome) H) := ⟨fun q => ⟨a, _, rfl, by rw [hk.eq]; exact DGet.k h.eq, q⟩⟩
instance [h : At H a (.dK kvk)] [hk : KeyC y k] : Step (rDNot y (.ref a) H Q) (Q (.bl (!(valV kvk k).isSome)) H) := ⟨fun q => ⟨a, _, rfl, by rw [hk.eq]; exact DGet.k h.eq, q⟩⟩
theorem g_dputT [h : At H a (.dT kvs)] [hb : At H b (.tup xs)] [hk : KeysC xs ks] (hl : kvs.length < 100000) (q : ∀ H2, ExB a H H2 → At H2 a (.dT (putK kvs ks v)) → D.nx σ H2) : rDPut (.ref a) (.ref b) v D σ H :=
  ⟨a, _, rfl, DPut.t h.eq (by rw [hb.eq, hk.eq]) (Nat.lt_of_lt_of_le hl (by decide)), q _ (exbN (o := .dT (putK kvs ks v)) h.eq ImmDT) ⟨upd_same⟩⟩
theorem g_dputK [h : At H a (.dK kvk)] [hk : KeyC y k] (hl : kvk.length < 100000) (q : ∀ H2, ExB a H H2 → At H2 a (.dK (putK kvk k v)) → D.nx σ H2) : rDPut (.ref a) y v D σ H :=
  ⟨a, _, rfl, by rw [hk.eq]; exact DPut.k h.eq (Nat.lt_of_lt_of_le hl (by decide)), q _ (exbN (o := .dK (putK kvk k v)) h.eq ImmDK) ⟨upd_same⟩⟩
def rDNewT (H : Hp) (Q : VK) : Prop := ∀ p, H p = none → Q (.ref p) (upd H p (.dT []))
def rDNewK (H : Hp) (Q : VK) : Prop := ∀ p, H p = none → Q (.ref p) (upd H p (.dK []))
instance : Step (tDNewT σ H Q) (rDNewT H Q) := ⟨fun q => q⟩
instance : Step (tDNewK σ H Q) (rDNewK H Q) := ⟨fun q => q⟩
theorem g_dnewT (q : ∀ p H2, Nw H p → Ex H H2 → At H2 p (.dT []) → Q (.ref p) H2) : rDNewT H Q := fun p hp => q p _ ⟨hp⟩ (Ex.mk hp) ⟨upd_same⟩
theorem g_dnewK (q : ∀ p H2, Nw H p → Ex H H2 → At H2 p (.dK []) → Q (.ref p) H2) : rDNewK H Q := fun p hp => q p _ ⟨hp⟩ (Ex.mk hp) ⟨upd_same⟩
end
end Gx

set_option linter.all false
set_option maxRecDepth 100000
set_option maxHeartbeats 2000000
/-! Gf: promises of defs that are asked with no guard on the stack (they may ask for repr of a list). -/
namespace Gx
open PySem PySem.Spec PyProof.Rows L2
/-- as FnOk, asked for stacks without a guard alone -/
structure FnG (P : Program) (w : World) (K : PySem.W.Frag) (mg : Str → Option Value) (base : Heap) (CX : CXT) (k : Nat) (f : Addr) (fd : FuncData) (ps : List Str) (sp : Sp) : Prop where
  many : ∀ vs H Q E, sp vs H Q E → vs.length = ps.length
  goes : ∀ (A : Around) (out : List Env) (st : Shared) (H : Hp) (ar : Args) (us : List Value) (vs : List V) (Q : VK) (E : XK), A.guards = some [] → Room k A → Env0 P w K mg base A out st H → BindsTo st fd ar (ps.zip us) → Vals vs us →
    sp vs H Q E → codeAny (model P w) A (.call (.ref f) ar) (CR CX out P w H st Q E) st
section
variable {P : Program} {w : World} {K : PySem.W.Frag} {mg : Str → Option Value} {base : Heap} {CX : CXT} {k : Nat} {ps : List Str} {sp : Sp}
theorem FnG.of {f : Addr} {fd : FuncData} (F : FnOk P w K mg base CX k f fd ps sp) : FnG P w K mg base CX k f fd ps sp := ⟨F.len, fun A out st H ar us vs Q E _ => F.run A out st H ar us vs Q E⟩
/-- a function's end, from the body's -/
theorem ce_of {X : Cx} {out : List Env} {H H' : Hp} {st st' : Shared} {Q : VK} {σ' : L2.St} {v : V} {u : Value} {P : Program} {w : World} (e1 : X.outer = out) (e2 : X.s_0 = st) (e3 : X.H_0 = H) (e4 : X.prog = P) (e5 : X.w = w) (e6 : X.ex = []) (J : Inv X [] σ' H' st') (rv : RelV v u) (q : Q v H') : CE out P w H st Q u st' := by
  subst e1 e2 e3 e4 e5
  refine ⟨v, H', J.os, J.bare, ?_, J.hok, rv, q⟩
  have b := J.base
  rw [e6] at b
  exact b
theorem fnG_of {f : Addr} {nm qn : Str} {pr : Arguments} {bd : List Stmt} {sc : Scope} {dV kV doc pm cdv ct oc : Value} {an od : Option Addr} {osl : Array (Option Value)} {N : List Str}
    (lk : K.lookup f = some ⟨oc, od, .func (PySem.W.fnOf nm qn pr bd sc dV kV doc pm an cdv ct), osl⟩) (hcd : PySem.W.codeIn K cdv qn = true) (S : FnScope N ps sc) (many : ∀ vs H Q E, sp vs H Q E → vs.length = ps.length)
    (inside : ∀ (A : Around) (out : List Env) (st : Shared) (H : Hp) (vs : List V) (Q : VK) (E : XK), A.guards = some [] → Room k (A.deeper (envOfC qn sc st.heap.objs.size f cdv)) → sp vs H Q E →
      ∃ t, PSs (cxOf CX P w K mg base N qn sc f cdv A out st H E) bd t ∧ t { nx := fun _ H' => Q .non H', rt := Q } (start N vs) H) :
    FnG P w K mg base CX (k + 1) f (PySem.W.fnOf nm qn pr bd sc dV kV doc pm an cdv ct) ps sp := by
  constructor
  · exact many
  intro A out st H ar us vs Q E noG room env binds rel asked
  have same : ∀ b o, base.get? b = some o → st.heap.get? b = some o := fun b o q => (env.bs b o q).1
  have kin : K.In st.heap := env.mod.kin.keeps same
  have free : st.heap.NoLimit := env.mod.nolimit.keeps same
  refine codeAny_call_function room.depth (kin _ _ lk) rfl S.co S.gen rfl (PySem.W.codeRec_of kin hcd) (binds _ _ _ _ (wpAny_newFunctionEnv_cells S.kind ?slots fun e he st1 x => ?run))
  case slots =>
    rintro ⟨y, u⟩ hy
    exact (S.par y (List.of_mem_zip hy).1).imp id fun q => ⟨q, PySem.W.cellsFrom_some _ _ _ (.inl q)⟩
  case run =>
    subst he
    obtain ⟨t, reads, told⟩ := inside A out st H vs Q E noG (room.deeper _) asked
    refine ⟨free.keeps x.toInCall.keep, codeAny_func (wpAny_mono (reads.run [] st1 (start N vs) H _ (inv_start S room.hd env (many _ _ _ _ asked) rel x) told) (fun fl st2 hs => ?_) fun e st2 hs => hs)⟩
    match fl, hs with
    | .ret u, ⟨v, σ', H', J, rv, q⟩ => exact ce_of rfl rfl rfl rfl rfl rfl J rv q
    | .next, ⟨σ', H', J, q⟩ => exact ce_of (v := V.non) (u := Value.none) rfl rfl rfl rfl rfl rfl J rfl q
    | .brk, ⟨_, _, _, q⟩ => exact q.elim
    | .cont, ⟨_, _, _, q⟩ => exact q.elim
end
/-- .. may be called where no guard is on the stack -/
structure ClGG (CX : CXT) (P : Program) (w : World) (K : PySem.W.Frag) (mg : Str → Option Value) (base : Heap) (k : Nat) (x : Str) (st : Stmt) (ps : List Str) (dvs : List V) (kws : List (Str × V)) (sp : Sp) : Prop where
  ex : ∃ (f : Addr) (fd : FuncData), mg x = some (.ref f) ∧ FunD K x x (defArgs st) (defBody st) (defScope st) dvs kws f fd ∧ FnG P w K mg base CX k f fd ps sp
section
variable {P : Program} {w : World} {K : PySem.W.Frag} {mg : Str → Option Value} {base : Heap} {k : Nat} {x : Str} {st : Stmt} {ps N : List Str} {dvs : List V} {kws : List (Str × V)} {sp : Sp}
theorem FunD.okG {f : Addr} {fd : FuncData} (F : FunD K x x (defArgs st) (defBody st) (defScope st) dvs kws f fd) (S : FnScope N ps (defScope st)) (many : ∀ vs H Q E, sp vs H Q E → vs.length = ps.length)
    (inside : ∀ (cdv : Value) (A : Around) (out : List Env) (s : Shared) (H : Hp) (vs : List V) (Q : VK) (E : XK), A.guards = some [] → Room k (A.deeper (envOfC x (defScope st) s.heap.objs.size f cdv)) → sp vs H Q E →
      ∃ t, PSs (cxOf CX0 P w K mg base N x (defScope st) f cdv A out s H E).nox (defBody st) t ∧ t { nx := fun _ H' => Q .non H', rt := Q } (start N vs) H) : FnG P w K mg base CX0 (k + 1) f fd ps sp := by
  obtain ⟨oc, od, dV, kV, doc, pm, an, cdv, ct, osl, rfl, lk, hcd, _, _⟩ := F.ex
  refine fnG_of lk hcd S many fun A out s H vs Q E g r h => ?_
  obtain ⟨t, a, b⟩ := inside cdv A out s H vs Q E g r h
  exact ⟨t, a.nox, b⟩
theorem DfG.okG (D : DfG K mg x st dvs kws) (S : FnScope N ps (defScope st)) (many : ∀ vs H Q E, sp vs H Q E → vs.length = ps.length)
    (inside : ∀ (f : Addr) (cdv : Value) (A : Around) (out : List Env) (s : Shared) (H : Hp) (vs : List V) (Q : VK) (E : XK), A.guards = some [] → Room k (A.deeper (envOfC x (defScope st) s.heap.objs.size f cdv)) → sp vs H Q E →
      ∃ t, PSs (cxOf CX0 P w K mg base N x (defScope st) f cdv A out s H E).nox (defBody st) t ∧ t { nx := fun _ H' => Q .non H', rt := Q } (start N vs) H) : ClGG CX0 P w K mg base (k + 1) x st ps dvs kws sp := by
  obtain ⟨f, fd, h1, h2⟩ := D.ex
  exact ⟨f, fd, h1, h2, FunD.okG h2 S many fun cdv A out s H vs Q E => inside f cdv A out s H vs Q E⟩
end
section
variable {X : Cx} {CX : CXT} {k : Nat} {ps : List Str} {sp : Sp} {E : L2.St → XK} {x : Str} {p pos : Pos} {e : Expr} {es : List Expr} {t : TA} {st : Stmt} {kws : List (Str × V)}
/-- every parameter given by place -/
theorem pe_gG (C : ClGG CX X.prog X.w X.K X.mg X.base k x st ps [] kws sp) (hr : Room k X.A) (hgd : X.A.guards = some []) (hx : ∀ σ, PassesAt CX X σ (E σ))
    (h : ∀ (kV doc pm : Value) (an : Option Addr) (cdv ct : Value) (us : List Value), us.length = ps.length → bindArgs (PySem.W.fnOf x x (defArgs st) (defBody st) (defScope st) .none kV doc pm an cdv ct) ⟨us, []⟩ = pure (ps.zip us))
    (ha : PA X (e :: es) t) (hg : Gl X x := by rfl) (hdb : (x == ("__debug__" : Str)) = false := by decide)
    (he : starEach (e :: es) X.env = (false, eval e X.env) :: starEach es X.env := by rfl) (hpl : (backTo pos (starEach es X.env)).any (·.1) = false := by rfl) :
    PE X (.Call (.Name x p) (e :: es) [] pos) (tCallSD sp [] E t) := by
  obtain ⟨f, fd, h1, h2, F⟩ := C.ex
  refine ⟨fun pins s σ H Q I hh => wpAny_Call_Name_kw (ld_glob I hg h1 ?_ hdb)⟩
  refine PySem.W.callWith_K (h₀ := X.base) I.ok.mod.kin h2.kp (thn (ha.run pos pins s σ H _ I hh) fun us s1 ⟨vs, H1, J, r, q⟩ => ⟨J.kIn, ?_⟩) he hpl
  have q : sp vs H1 Q (E σ) := by rw [← List.append_nil vs]; exact q
  have hl : us.length = ps.length := r.length.symm.trans (F.many _ _ _ _ q)
  have b := (h2.bindsN h) s1 us J.kIn (by rw [List.append_nil]; exact hl)
  rw [List.append_nil] at b
  refine wpAny_call (codeAny_mono (F.goes X.A X.stack s1 H1 ⟨us, []⟩ us vs Q (E σ) hgd hr J.env0 b r q) fun z s2 hz => ?_)
  match z, hz with
  | .error y, hz => exact hx σ pins H1 s1 y s2 J hz
  | .ok (.ret u), hz => exact J.after hz
  | .ok .next, hz => exact hz.elim
  | .ok .brk, hz => exact hz.elim
  | .ok .cont, hz => exact hz.elim
end

/-! ### repr -/
theorem textFrom_le : ∀ (ts : List Str) (k : Nat) (acc : Str), (textFrom k acc ts).length ≤ acc.length + piled ts
  | [], _, _ => Nat.le_add_right _ _
  | t :: r, k, acc => by
    refine Nat.le_trans (textFrom_le r (k + 1) _) ?_
    rw [piled_cons, Str.length_append, Str.length_append]
    have h2 : (if k > 0 then ", " else "" : String).length ≤ 2 := by split <;> decide
    have h3 : ((if k > 0 then ", " else "" : String) : Str).length ≤ 2 := by split <;> decide
    omega
theorem listText_le (ts : List Str) : (listText ts).length ≤ piled ts + 2 := by
  unfold listText
  have h := textFrom_le ts 0 "["
  rw [Str.length_append]
  have e1 : ("[" : Str).length = 1 := by decide
  have e2 : ("]" : Str).length = 1 := by decide
  omega
theorem piled_le {m : Nat} : ∀ (ts : List Str), (∀ t ∈ ts, t.length ≤ m) → piled ts ≤ ts.length * (m + 2)
  | [], _ => by simp [piled]
  | t :: r, h => by
    have h1 := h t (List.mem_cons_self ..)
    have h2 := piled_le r fun u hu => h u (List.mem_cons_of_mem _ hu)
    rw [piled_cons, List.length_cons, Nat.succ_mul]
    omega
/-- what repr shows of this data fits -/
structure ShowOk (d : PyData) : Prop where
  ok : d.showable = true
  nd : d.hasDict = false
  dp : d.depth ≤ 60
  sz : d.shown.length ≤ sizeLine
def rRepr (K : PySem.W.Frag) (xs : List V) (H : Hp) (Q : VK) : Prop := ∃ v d, xs = [v] ∧ Dp K H v d ∧ ShowOk d ∧ Q (.str d.shown) H
theorem callRepr {X : Cx} {K : PySem.W.Frag} (hK : X.K = K) (noG : X.A.guards = some []) (room : X.A.units + 64 < cLine) : CallR X (.builtin "repr") (rRepr K) := by
  subst hK
  intro pins s σ H xs us Q I r h
  obtain ⟨v, d, rfl, hd, ⟨o1, o2, o3, o4⟩, q⟩ := h
  obtain ⟨u, rfl, rv⟩ := vals1 r
  cases hd with
  | non =>
    cases rv
    exact PySem.P.repr_of_none ⟨.str _, H, I.tok _, ⟨_, rfl⟩, q⟩
  | bl b =>
    cases rv
    exact PySem.P.repr_of_bool ⟨.str _, H, I.tok _, ⟨_, rfl⟩, q⟩
  | int i =>
    obtain ⟨t, rfl⟩ := rv
    exact PySem.P.repr_of_int (by simpa [PyData.showable] using o1) ⟨.str _, H, I.tok _, ⟨_, rfl⟩, q⟩
  | str z =>
    obtain ⟨t, rfl⟩ := rv
    exact PySem.P.repr_of_str (hsz := o4) ⟨.str _, H, I.tok _, ⟨_, rfl⟩, q⟩
  | lst h1 h2 =>
    obtain rfl : u = Value.ref _ := rv
    obtain ⟨as, rd⟩ := Dp.reads I _ _ _ (.lst h1 h2) (rfl : RelV (.ref _) (.ref _))
    exact repr_of_reads' rd o1 (fun z => by rw [o2] at z; cases z) noG (by omega) (fun _ _ e => e) (fun h' t tk hk => ⟨.str _, H, I.kept (t' := tk) hk, ⟨t, rfl⟩, q⟩) o4
  | tup h1 h2 =>
    obtain rfl : u = Value.ref _ := rv
    obtain ⟨as, rd⟩ := Dp.reads I _ _ _ (.tup h1 h2) (rfl : RelV (.ref _) (.ref _))
    exact repr_of_reads' rd o1 (fun z => by rw [o2] at z; cases z) noG (by omega) (fun _ _ e => e) (fun h' t tk hk => ⟨.str _, H, I.kept (t' := tk) hk, ⟨t, rfl⟩, q⟩) o4
theorem g_repr {K : PySem.W.Frag} {H : Hp} {Q : VK} {x : V} {d : PyData} [h : DatC K H x d] (ok : ShowOk d) (q : Q (.str d.shown) H) : rRepr K [x] H Q := ⟨x, d, rfl, h.dp, ok, q⟩
theorem shownAll_map (xs : List PyData) : PyData.shownAll xs = xs.map PyData.shown := by
  induction xs with
  | nil => rfl
  | cons x r ih => show x.shown :: PyData.shownAll r = _; rw [ih]; rfl
theorem showInts {ns : List Int} (h : ∀ n ∈ ns, n.natAbs.log2 < 1920) (hl : ns.length ≤ 1000) : ShowOk (.list (ns.map PyData.int)) := by
  refine ⟨?_, ?_, ?_, ?_⟩
  · show PyData.showableAll _ = true
    clear hl
    induction ns with
    | nil => rfl
    | cons n r ih =>
      show (PyData.showable (.int n) && PyData.showableAll (r.map PyData.int)) = true
      rw [ih fun m hm => h m (List.mem_cons_of_mem _ hm), Bool.and_true]
      simpa [PyData.showable] using h n (List.mem_cons_self ..)
  · show PyData.hasDictAll _ = false
    clear hl h
    induction ns with
    | nil => rfl
    | cons n r ih => show (PyData.hasDict (.int n) || PyData.hasDictAll (r.map PyData.int)) = false; rw [ih]; rfl
  · show PyData.depthAll _ + 1 ≤ 60
    have e : PyData.depthAll (ns.map PyData.int) ≤ 1 := by
      clear hl h
      induction ns with
      | nil => exact Nat.zero_le _
      | cons n r ih => show max (PyData.depth (.int n)) (PyData.depthAll (r.map PyData.int)) ≤ 1; exact Nat.max_le.mpr ⟨by simp [PyData.depth], ih⟩
    omega
  · show (listText (PyData.shownAll (ns.map PyData.int))).length ≤ sizeLine
    refine Nat.le_trans (listText_le _) ?_
    have hp := piled_le (m := 1921) (PyData.shownAll (ns.map PyData.int)) (fun t ht => by
      rw [shownAll_map, List.map_map] at ht
      obtain ⟨n, hn, rfl⟩ := List.mem_map.mp ht
      exact PyProof.Rows.int_text_len_1921 (h n hn))
    rw [shownAll_map, List.length_map, List.length_map] at hp
    rw [shownAll_map]
    have : ns.length * (1921 + 2) ≤ 1000 * 1923 := Nat.mul_le_mul_right _ hl
    exact Nat.le_trans (Nat.add_le_add_right (Nat.le_trans hp this) 2) (by decide)
/-! ### the law's call -/
section
variable {P : Program} {w : World} {K : PySem.W.Frag} {mg mb : Str → Option Value} {st : Shared} {a : Addr} {vs : List Value}
/-- at the head of a law nothing is tracked but perhaps the script, at a -/
theorem env_top {H : Hp} (kin : K.In st.heap) (gns : st.heap.Ns mainGlobals mg) (bns : st.heap.Ns builtinsNs mb) (boot : ∀ x : Str, x ≠ "__name__" → mb x = bootBuiltins x) (free : st.heap.NoLimit) (still : st.gens = #[])
    (at_a : st.heap.get? a = some { cls := .type "list", data := .seq vs.toArray }) (ok : HOk P w H st.heap) (only : ∀ b, b ≠ a → H b = none) (own : H a ≠ none → K.lookup a = none) :
    K.In (hidT st.heap H) ∧ (hidT st.heap H).Ns mainGlobals mg ∧ Env0 P w K mg (hidT st.heap H) callerA [] st H := by
  have ns_stays : ∀ {b : Addr} {m : Str → Option Value}, st.heap.Ns b m → (hidT st.heap H).Ns b m := by
    rintro b m ⟨o, es, ep, e, d, r⟩
    refine ⟨o, es, ep, hidT_get e (only b ?_), d, r⟩
    rintro rfl
    cases at_a.symm.trans e
    cases d
  have kin2 : K.In (hidT st.heap H) := by
    intro b o e
    by_cases hb : b = a
    · subst hb
      refine hidT_get (kin b o e) (Classical.byContradiction fun z => ?_)
      rw [own z] at e
      cases e
    · exact hidT_get (kin b o e) (only b hb)
  obtain ⟨mc, c1, c2⟩ := free
  exact ⟨kin2, ns_stays gns, rfl, ⟨kin2, ns_stays gns, ⟨mb, ns_stays bns, boot⟩, mc, ns_stays c1, c2⟩, fun _ _ => of_hidT, Nat.le_of_eq (hidT_size _ _), trivial, fun b hb => (List.not_mem_nil hb).elim, ok, .of_eq still⟩
theorem law_goes {CX : CXT} {k : Nat} {fa : Addr} {fd : FuncData} {x : Str} {sp : Sp} {ns : List Int} (kin : K.In st.heap) (gns : st.heap.Ns mainGlobals mg) (bns : st.heap.Ns builtinsNs mb) (boot : ∀ x : Str, x ≠ "__name__" → mb x = bootBuiltins x) (free : st.heap.NoLimit) (still : st.gens = #[])
    (at_a : st.heap.get? a = some { cls := .type "list", data := .seq vs.toArray }) (hi : IntsAre vs ns) (short : ns.length ≤ sizeLine) (room : Room k callerA)
    (F : ∀ base : Heap, K.In base → base.Ns mainGlobals mg → FnG P w K mg base CX k fa fd [x] sp) (binds : ∀ (s : Shared) (u : Value), BindsTo s fd ⟨[u], []⟩ [(x, u)])
    (asked : ∀ H : Hp, Only H → SqL K H a (ns.map V.int) → sp [.ref a] H (fun v _ => v = .bl true) fun _ _ _ => False) (noX : ∀ H e s', CX [] H st (fun _ _ _ => False) e s' → False) :
    codeAny (model P w) callerA (.call (.ref fa) ⟨[.ref a], []⟩) (fun r s' => r = .ok (.ret (.bool true)) ∧ OldK st.heap s'.heap ∧ s'.os = st.os ∧ AllBare s'.gens) st := by
  suffices run : ∀ H : Hp, Only H → SqL K H a (ns.map V.int) → HOk P w H st.heap → (∀ b, b ≠ a → H b = none) → (H a ≠ none → K.lookup a = none) →
      codeAny (model P w) callerA (.call (.ref fa) ⟨[.ref a], []⟩) (fun r s' => r = .ok (.ret (.bool true)) ∧ OldK st.heap s'.heap ∧ s'.os = st.os ∧ AllBare s'.gens) st by
    have rel := vals_ints hi
    cases hk : K.lookup a with
    | some o =>
      cases at_a.symm.trans (kin a o hk)
      exact run (fun _ => none) (fun _ => .inl rfl) (.inr ⟨_, vs.toArray, _, hk, rfl, rfl, rfl, by simpa [hi.length] using short, by simpa using rel⟩) (fun b u z => nomatch (z : (none : Option HO) = some u)) (fun _ _ => rfl) fun z => (z rfl).elim
    | none =>
      let H : Hp := fun b => if b = a then some (.frz { cls := .type "list", data := .seq vs.toArray } (.lst (ns.map V.int))) else none
      have here : H a = some (.frz { cls := .type "list", data := .seq vs.toArray } (.lst (ns.map V.int))) := if_pos rfl
      have else_ : ∀ b, b ≠ a → H b = none := fun b hb => if_neg hb
      refine run H (fun b => ?_) (.inl (.inr ⟨_, here⟩)) (fun b u z => ?_) else_ fun _ => hk
      · rcases Decidable.em (b = a) with rfl | hb
        · exact .inr ⟨_, _, here⟩
        · exact .inl (else_ b hb)
      · rcases Decidable.em (b = a) with rfl | hb
        · cases here.symm.trans z
          exact ⟨at_a, by simpa using short, vs, _, rel, at_a⟩
        · cases (else_ b hb).symm.trans z
  intro H frozen seen ok only own
  obtain ⟨k1, k2, env⟩ := env_top kin gns bns boot free still at_a ok only own
  refine codeAny_mono ((F _ k1 k2).goes callerA [] st H ⟨[.ref a], []⟩ [.ref a] [.ref a] _ _ rfl room env (binds st (.ref a)) (.cons rfl .nil) (asked H frozen seen)) fun r s' h => ?_
  match r, h with
  | .error e, h => exact (noX H e s' h).elim
  | .ok .next, h => exact h.elim
  | .ok .brk, h => exact h.elim
  | .ok .cont, h => exact h.elim
  | .ok (.ret u), ⟨v, H', os, bare, un, ok', rv, q⟩ =>
    obtain rfl : v = .bl true := q
    obtain rfl : u = Value.bool true := rv
    refine ⟨rfl, OldK.of_keep fun b o e => ?_, os, bare⟩
    rcases frozen b with z | ⟨ob, xs, z⟩
    · exact un.keep b o e z (fun y => (List.not_mem_nil y).elim) (fun y => (List.not_mem_nil y).elim)
    · have e1 := (ok b _ z).1
      cases e.symm.trans e1
      exact (ok' b _ (un.frzs b _ _ z)).1
end
theorem walk_ofG {l : PySem.W.OpenLaw} {n k : Nat} {q : Program} {loose : List Str} {XP : (Str → Option Value) → Heap → Prop} {YP : World → Heap → Prop} {d : DefRec} {K : Params → PySem.W.Frag} {CX : World → CXT} {sp : World → Sp} {x : Str}
    (most : l.most = some n) (small : n ≤ sizeLine) (hdf : d.params.defaults = []) (room : Room k callerA) (hY : ∀ (w : World) (h : Heap), YP w h → (K w.params).In h)
    (F : ∀ (w : World) (mg : Str → Option Value) (fa : Addr) (h : Heap), (K w.params).In h → h.Ns mainGlobals mg → mg d.name = some (.ref fa) →
      ∃ fd : FuncData, (∀ (s : Shared) (u : Value), BindsTo s fd ⟨[u], []⟩ [(x, u)]) ∧ ∀ base : Heap, (K w.params).In base → base.Ns mainGlobals mg → FnG l.prog w (K w.params) mg base (CX w) k fa fd [x] (sp w))
    (asked : ∀ (w : World) (H : Hp) (a : Addr) (ns : List Int), ns.length ≤ n → (∀ z ∈ ns, Builtin.Int.intBits z ≤ 1048576) → Only H → SqL (K w.params) H a (ns.map V.int) → sp w [.ref a] H (fun v _ => v = .bl true) fun _ _ _ => False)
    (noX : ∀ (w : World) (H : Hp) (s : Shared) (e : Value) (s' : Shared), CX w [] H s (fun _ _ _ => False) e s' → False) :
    PySem.W.WalkO q loose XP YP l.row.toRowW d [] (fun f vs => PySem.call f vs) := by
  refine Att.attach_callB most hdf fun w s0 st mg mb fa o pm cd doc a vs ns G Y _ _ _ hmg at_a hi len bits still => ?_
  have kin := hY w _ Y
  obtain ⟨fd, hb, hF⟩ := F w mg fa _ kin G.T.g hmg
  exact law_goes kin G.T.g G.T.b G.T.builtins G.T.nolimit still at_a hi (Nat.le_trans len small) room hF hb (fun H => asked w H a ns len bits) fun H e s' => noX w H st e s'
end Gx

set_option Elab.async false
set_option linter.all false
set_option maxRecDepth 100000
set_option maxHeartbeats 4000000
/-! Go: constants of the module, own `in`, methods with defaults, items of lists unpacked in a comprehension. -/
namespace Gx
open PySem PySem.Spec PyProof.Rows L2
/-! ### constants of the module -/
structure GlI (mg : Str → Option Value) (x : Str) (i : Int) : Prop where
  ex : ∃ t, mg x = some (.int i t)
structure GlS (mg : Str → Option Value) (x z : Str) : Prop where
  ex : ∃ t, mg x = some (.str z t)
section
variable {X : Cx} {x z : Str} {i : Int} {pos : Pos}
theorem pe_gI (g : GlI X.mg x i) (hg : Gl X x := by rfl) (hd : (x == ("__debug__" : Str)) = false := by decide) : PE X (.Name x pos) (tC (.int i)) := by
  obtain ⟨t, h⟩ := g.ex
  exact pe_glob (v := .int i) hg h ⟨t, rfl⟩ hd
theorem pe_gS (g : GlS X.mg x z) (hg : Gl X x := by rfl) (hd : (x == ("__debug__" : Str)) = false := by decide) : PE X (.Name x pos) (tC (.str z)) := by
  obtain ⟨t, h⟩ := g.ex
  exact pe_glob (v := .str z) hg h ⟨t, rfl⟩ hd
end
theorem gli_mk {K : PySem.W.Frag} {mg : Str → Option Value} {h : Heap} {x : Str} {i : Int} {t : Tok} (X : K.In h) (G : h.Ns mainGlobals mg) (a : PySem.W.nsIn K mainGlobals x = some (some (.int i t))) : GlI mg x i := ⟨t, PySem.W.mg_of X G a⟩
theorem gls_mk {K : PySem.W.Frag} {mg : Str → Option Value} {h : Heap} {x z : Str} {t : Tok} (X : K.In h) (G : h.Ns mainGlobals mg) (a : PySem.W.nsIn K mainGlobals x = some (some (.str z t))) : GlS mg x z := ⟨t, PySem.W.mg_of X G a⟩
/-! ### x in an object with its own __contains__ -/
section
variable {X : Cx} {CX : CXT} {k : Nat} {C : Addr} {qual : Str} {st : Stmt} {ps : List Str} {sp : Sp} {E : XK}
def rOwnIn (C : Addr) (sp : Sp) (E : XK) : R2 := fun x y H Q => ∃ b dy gs, y = .ref b ∧ H b = some (.ins C dy gs) ∧ sp [.ref b, x] H (fun v H' => ∃ q, v = .bl q ∧ Q (.bl q) H') E
def rOwnNotIn (C : Addr) (sp : Sp) (E : XK) : R2 := fun x y H Q => ∃ b dy gs, y = .ref b ∧ H b = some (.ins C dy gs) ∧ sp [.ref b, x] H (fun v H' => ∃ q, v = .bl q ∧ Q (.bl (!q)) H') E
theorem opOwnIn (M : ClM CX X.prog X.w X.K X.mg X.base k C "__contains__" qual st ps [] [] sp) (hr : Room k X.A) (hx : Passes CX X E)
    (h : ∀ (kV doc pm : Value) (an : Option Addr) (cdv ct : Value) (us : List Value), us.length = ps.length → bindArgs (PySem.W.fnOf "__contains__" qual (defArgs st) (defBody st) (defScope st) .none kV doc pm an cdv ct) ⟨us, []⟩ = pure (ps.zip us)) :
    OpR X (compareOp .In) (rOwnIn C sp E) := by
  obtain ⟨f, fd, h1, h2, h4⟩ := M.ex
  intro pins s σ H x y v u Q I rx ry d
  obtain ⟨b, dy, gs, rfl, hb', hsp⟩ := d
  cases ry
  obtain ⟨mB, J, _⟩ := ins_get I.hok hb'
  obtain ⟨od, J, _⟩ := J.look
  obtain ⟨m', hF⟩ := I.fr
  refine PySem.W.in_K hF I.ok.mod.kin J h1.at_ h1.fn ?_
  refine wpAny_mono (run_fn (us := [.ref b, v]) (vs := [.ref b, x]) h4 hr (h2.bindsN h) .nil hx I (.cons rfl (.cons rx .nil)) hsp) (fun r s' z => ?_) fun _ _ e => e
  obtain ⟨z, H', I', rz, ⟨q, ez, hq⟩⟩ := z
  subst ez
  cases rz
  exact wpAny_truthy_bool ⟨.bl q, H', I', rfl, hq⟩
theorem opOwnNotIn (M : ClM CX X.prog X.w X.K X.mg X.base k C "__contains__" qual st ps [] [] sp) (hr : Room k X.A) (hx : Passes CX X E)
    (h : ∀ (kV doc pm : Value) (an : Option Addr) (cdv ct : Value) (us : List Value), us.length = ps.length → bindArgs (PySem.W.fnOf "__contains__" qual (defArgs st) (defBody st) (defScope st) .none kV doc pm an cdv ct) ⟨us, []⟩ = pure (ps.zip us)) :
    OpR X (compareOp .NotIn) (rOwnNotIn C sp E) := by
  obtain ⟨f, fd, h1, h2, h4⟩ := M.ex
  intro pins s σ H x y v u Q I rx ry d
  obtain ⟨b, dy, gs, rfl, hb', hsp⟩ := d
  cases ry
  obtain ⟨mB, J, _⟩ := ins_get I.hok hb'
  obtain ⟨od, J, _⟩ := J.look
  obtain ⟨m', hF⟩ := I.fr
  refine PySem.W.notIn_K hF I.ok.mod.kin J h1.at_ h1.fn ?_
  refine wpAny_mono (run_fn (us := [.ref b, v]) (vs := [.ref b, x]) h4 hr (h2.bindsN h) .nil hx I (.cons rfl (.cons rx .nil)) hsp) (fun r s' z => ?_) fun _ _ e => e
  obtain ⟨z, H', I', rz, ⟨q, ez, hq⟩⟩ := z
  subst ez
  cases rz
  exact wpAny_truthy_bool ⟨.bl (!q), H', I', rfl, hq⟩
end
section
variable {H : Hp} {Q : VK} {C b : Addr} {gs : List (Str × V)} {x : V} {sp : Sp} {E : XK}
instance [h : InC C gs H b] : Step (rOwnIn C sp E x (.ref b) H Q) (sp [.ref b, x] H (fun v H' => ∃ q, v = .bl q ∧ Q (.bl q) H') E) := ⟨fun q => by
  obtain ⟨dy, h⟩ := h.ex
  exact ⟨b, dy, gs, rfl, h, q⟩⟩
instance [h : InC C gs H b] : Step (rOwnNotIn C sp E x (.ref b) H Q) (sp [.ref b, x] H (fun v H' => ∃ q, v = .bl q ∧ Q (.bl (!q)) H') E) := ⟨fun q => by
  obtain ⟨dy, h⟩ := h.ex
  exact ⟨b, dy, gs, rfl, h, q⟩⟩
end
/-! ### methods, the last places lack -/
section
variable {X : Cx} {CX : CXT} {k n j : Nat} {C : Addr} {m qual : Str} {st : Stmt} {ps : List Str} {dvs : List V} {sp : Sp} {E : L2.St → XK} {o e : Expr} {es : List Expr} {ta : TE} {t : TA} {apos pos : Pos} {pl : Sem Bool}
theorem pe_mD1 (M : ClM CX X.prog X.w X.K X.mg X.base k C m qual st ps dvs [] sp) (c : Cls X.K C) (hr : Room k X.A) (hx : ∀ σ, PassesAt CX X σ (E σ)) (n j : Nat) (hd : dvs ≠ []) (hn : n + (dvs.length - j) = ps.length)
    (hB : ∀ (T : Addr) (kV doc pm : Value) (an : Option Addr) (cdv ct : Value) (us its : List Value), us.length = n → its.length = dvs.length →
      ∃ k, bindArgs (PySem.W.fnOf m qual (defArgs st) (defBody st) (defScope st) (.ref T) kV doc pm an cdv ct) ⟨us, []⟩ = seqItems? (.ref T) >>= k ∧ k (some its.toArray) = pure (ps.zip (us ++ its.drop j)))
    (he : PE X o ta) (ha : PA X (e :: es) t)
    (hst : starEach (e :: es) X.env = (false, eval e X.env) :: starEach es X.env := by rfl) (hpl : (backTo pos (starEach es X.env)).any (·.1) = false := by rfl)
    (ht : eval (.Call (.Attribute o m apos) (e :: es) [] pos) X.env = (do
      let ov ← eval o X.env
      standAt apos.atName
      let (f, first) ← holding [ov] (getMethod ov m pl)
      callWith pos f first (backTo pos (starEach (e :: es) X.env)) (backToKw pos (keywordEach [] X.env))) := by rfl) :
    PE X (.Call (.Attribute o m apos) (e :: es) [] pos) (tMethD C m sp (dvs.drop j) E ta t) := by
  obtain ⟨f, fd, h1, h2, h4⟩ := M.ex
  obtain ⟨ds, rd, hb⟩ := h2.binds1 n j hd hn hB
  refine ⟨fun pins s σ H Q I h => ?_⟩
  refine PySem.W.methodCall_KW (pl := pl) (thn (he.run pins s σ H _ I h) fun u s1 ⟨x, H1, I1, rx, a, dx, fs, ex, ea, l, q⟩ => ?_) ht
  subst ex
  obtain rfl : u = Value.ref a := rx
  refine getmeth_ok I1 ea c h1 l ?_
  refine PySem.W.callWith_K (first := [.ref a]) (h₀ := X.base) I.ok.mod.kin h1.kp (thn (ha.run pos pins s1 σ H1 _ I1 q) fun us s2 ⟨vs, H2, I2, r, q2⟩ => ⟨I2.kIn, ?_⟩) hst hpl
  exact run_fnSD (us := .ref a :: us) (vs := .ref a :: vs) h4 hr hb rd (hx σ) I2 (.cons rfl r) q2
end
/-! ### makings -/
section
variable {X : Cx} {CX : CXT} {k : Nat} {C : Addr} {qual : Str} {st : Stmt} {ps : List Str} {kws : List (Str × V)} {sp : Sp} {E : XK} {x : Str} {e : Expr} {es : List Expr} {kw : List Keyword} {t tk : TA} {p pos : Pos}
/-- C() -/
theorem pe_mk0 (M : ClC CX X.prog X.w X.K X.mg X.base k C qual st ps [] [] sp) (hr : Room (k + 1) X.A) (hg : Gl X x) (hm : X.mg x = some (.ref C)) (hx : Passes CX X E)
    (h : ∀ (kV doc pm : Value) (an : Option Addr) (cdv ct : Value) (us : List Value), us.length = ps.length → bindArgs (PySem.W.fnOf "__init__" qual (defArgs st) (defBody st) (defScope st) .none kV doc pm an cdv ct) ⟨us, []⟩ = pure (ps.zip us))
    (hdb : (x == ("__debug__" : Str)) = false := by decide) : PE X (.Call (.Name x p) [] [] pos) (tMake C sp [] E tNil) := by
  obtain ⟨f, fd, h1, h2, h4⟩ := M.ex
  exact pe_make0 h1 h4 hr hg hm (h2.bindsN h) .nil hx hdb
/-- C(e, ..), the keyword-only ones lack -/
theorem pe_mkL (M : ClC CX X.prog X.w X.K X.mg X.base k C qual st ps [] kws sp) (hr : Room (k + 1) X.A) (hg : Gl X x) (hm : X.mg x = some (.ref C)) (hx : Passes CX X E) (n : Nat) (hk : kws ≠ []) (hn : n + kws.length = ps.length)
    (h : ∀ (D : Addr) (doc pm : Value) (an : Option Addr) (cdv ct : Value) (us ks : List Value), us.length = n → ks.length = kws.length →
      KwChain D ((kws.map (·.1)).zip ks) (bindArgs (PySem.W.fnOf "__init__" qual (defArgs st) (defBody st) (defScope st) .none (.ref D) doc pm an cdv ct) ⟨us, []⟩) (ps.zip (us ++ ks)))
    (ha : PA X (e :: es) t) (hdb : (x == ("__debug__" : Str)) = false := by decide) (he : starEach (e :: es) X.env = (false, eval e X.env) :: starEach es X.env := by rfl) (hpl : (backTo pos (starEach es X.env)).any (·.1) = false := by rfl) :
    PE X (.Call (.Name x p) (e :: es) [] pos) (tMake C sp (kws.map (·.2)) E t) := by
  obtain ⟨f, fd, h1, h2, h4⟩ := M.ex
  obtain ⟨ds, r, b⟩ := h2.binds0 n hk hn h
  exact pe_make h1 h4 hr hg hm b r hx ha hdb he hpl
/-- C(e, .., k = v, ..), some keyword-only ones given -/
theorem pe_mkW (M : ClC CX X.prog X.w X.K X.mg X.base k C qual st ps [] kws sp) (hr : Room (k + 1) X.A) (hg : Gl X x) (hm : X.mg x = some (.ref C)) (hx : Passes CX X E) (n : Nat) (ks : List Str) (ms : List (Str × V)) (g : {α : Type} → List α → List α → List α → List α) (hk : kws ≠ []) (hms : ∀ q ∈ ms, q ∈ kws)
    (hrel : ∀ {vs mz zs : List V} {us mv ws : List Value}, Vals vs us → Vals mz mv → Vals zs ws → Vals (g vs mz zs) (g us mv ws))
    (h : ∀ (D : Addr) (doc pm : Value) (an : Option Addr) (cdv ct : Value) (us mv ws : List Value), us.length = n + 1 → mv.length = ms.length → ws.length = ks.length →
      KwChain D ((ms.map (·.1)).zip mv) (bindArgs (PySem.W.fnOf "__init__" qual (defArgs st) (defBody st) (defScope st) .none (.ref D) doc pm an cdv ct) ⟨us, ks.zip ws⟩) (ps.zip (g us mv ws)))
    (ha : PA X (e :: es) t) (hkw : PK X kw tk) (hall : (backToKw pos (keywordEach kw X.env)).all (·.1.isSome) = true := by rfl) (hks : (backToKw pos (keywordEach kw X.env)).filterMap (·.1) = ks := by rfl)
    (hdb : (x == ("__debug__" : Str)) = false := by decide) (he : starEach (e :: es) X.env = (false, eval e X.env) :: starEach es X.env := by rfl)
    (hpl : ((backTo pos (starEach (e :: es) X.env)).any (·.1) || (backToKw pos (keywordEach kw X.env)).any (·.1.isNone)) = false := by rfl) :
    PE X (.Call (.Name x p) (e :: es) kw pos) (tMakeK C n ks.length sp (fun vs zs => g vs (ms.map (·.2)) zs) E t tk) := by
  obtain ⟨f, fd, h1, h2, h4⟩ := M.ex
  obtain ⟨mv, b⟩ := h2.kbinds0 (n + 1) ks ms g hk hms hrel h
  exact pe_makeK h1 h4 hr hg hm b hx ha hkw hall hks hdb he hpl
end
section
variable {σ : L2.St} {H : Hp} {Q : VK} {C : Addr} {n m : Nat} {sp : Sp} {gV : List V → List V → List V} {E : XK} {t tk : TA}
def rMkK (C : Addr) (n m : Nat) (sp : Sp) (gV : List V → List V → List V) (E : XK) (vs zs : List V) (H1 : Hp) (Q : VK) : Prop := vs.length = n ∧ zs.length = m ∧ ∀ x dx, H1 x = none → H1 dx = none → dx ≠ x → sp (gV (.ref x :: vs) zs) (upd (upd H1 dx (.own x)) x (.ins C dx [])) (fun v H3 => v = .non ∧ Q (.ref x) H3) E
instance : Step (tMakeK C n m sp gV E t tk σ H Q) (t σ H fun vs H1 => tk σ H1 fun zs H2 => rMkK C n m sp gV E vs zs H2 Q) := ⟨fun q => q⟩
theorem g_mkK {vs zs : List V} (hn : vs.length = n) (hm : zs.length = m) (q : ∀ x dx H', Nw H x → Ex H H' → At H' x (.ins C dx []) → sp (gV (.ref x :: vs) zs) H' (fun v H2 => v = .non ∧ Q (.ref x) H2) E) : rMkK C n m sp gV E vs zs H Q := ⟨hn, hm, fun x dx h1 h2 h3 => by
  refine q x dx _ ⟨h1⟩ ?_ ⟨upd_same⟩
  have e1 : Ex H (upd H dx (.own x)) := Ex.mk h2
  have h4 : upd H dx (.own x) x = none := by rw [upd_ne (Ne.symm h3)]; exact h1
  exact e1.trans (Ex.mk h4)⟩
end
/-! ### a sign in a text -/
def rSgIn : R2 := fun x y H Q => ∃ (c : Nat) (z : Str), x = .str ⟨#[c]⟩ ∧ y = .str z ∧ Q (.bl (decide (c ∈ z.cps.toList))) H
def rSgNotIn : R2 := fun x y H Q => ∃ (c : Nat) (z : Str), x = .str ⟨#[c]⟩ ∧ y = .str z ∧ Q (.bl (!decide (c ∈ z.cps.toList))) H
theorem opSgIn {X : Cx} : OpR X (compareOp .In) rSgIn := op_in_sign
theorem opSgNotIn {X : Cx} : OpR X (compareOp .NotIn) rSgNotIn := op_notIn_sign
instance {H : Hp} {Q : VK} {c : Nat} {z : Str} : Step (rSgIn (.str ⟨#[c]⟩) (.str z) H Q) (Q (.bl (decide (c ∈ z.cps.toList))) H) := ⟨fun q => ⟨c, z, rfl, rfl, q⟩⟩
instance {H : Hp} {Q : VK} {c : Nat} {z : Str} : Step (rSgNotIn (.str ⟨#[c]⟩) (.str z) H Q) (Q (.bl (!decide (c ∈ z.cps.toList))) H) := ⟨fun q => ⟨c, z, rfl, rfl, q⟩⟩
end Gx

set_option linter.all false
set_option maxRecDepth 100000
set_option maxHeartbeats 2000000
/-! Ha: dict displays with keys. -/
namespace Gx
open PySem PySem.Spec PyProof.Rows L2
/-- pairs whose keys are texts or ints -/
class PairsK (ps : List (V × V)) (kvs : outParam (List (Key × V))) : Prop where
  eq : ps = kvs.map fun kv => (kV kv.1, kv.2)
instance : PairsK [] [] := ⟨rfl⟩
instance {x y : V} {k : Key} {ps : List (V × V)} {kvs : List (Key × V)} [h : KeyC x k] [hs : PairsK ps kvs] : PairsK ((x, y) :: ps) ((k, y) :: kvs) := ⟨by rw [h.eq, hs.eq]; rfl⟩
section
variable {σ : L2.St} {H : Hp} {Q : VK} {R : List (V × V) → Hp → Prop} {trs : List (TE × TE)} {tk tv : TE} {p : Addr} {ps : List (V × V)} {kvs : List (Key × V)}
instance : Step (tPairs [] σ H R) (R [] H) := ⟨fun q => q⟩
instance : Step (tPairs ((tk, tv) :: trs) σ H R) (tk σ H fun x H1 => tv σ H1 fun y H2 => tPairs trs σ H2 fun ps H3 => R ((x, y) :: ps) H3) := ⟨fun q => q⟩
def rDispE (p : Addr) (ps : List (V × V)) (H2 : Hp) (Q : VK) : Prop := H2 p = some (.dK []) ∧ ∃ kvs : List (Key × V), ps = kvs.map (fun kv => (kV kv.1, kv.2)) ∧ kvs.length ≤ 15 ∧ Q (.ref p) (L2.upd H2 p (.dK (mergeK [] kvs)))
theorem g_disp (q : ∀ p H1, Nw H p → Ex H H1 → At H1 p (.dK []) → tPairs trs σ H1 fun ps H2 => rDispE p ps H2 Q) : tDisp trs σ H Q := fun p hp => q p _ ⟨hp⟩ (Ex.mk hp) ⟨upd_same⟩
theorem g_dispE [h : At H p (.dK [])] [k : PairsK ps kvs] (hl : kvs.length ≤ 15) (q : ∀ H2, ExB p H H2 → At H2 p (.dK (mergeK [] kvs)) → Q (.ref p) H2) : rDispE p ps H Q :=
  ⟨h.eq, kvs, k.eq, hl, q _ (exbN (o := .dK (mergeK [] kvs)) h.eq ImmDK) ⟨upd_same⟩⟩
end
end Gx

set_option Elab.async false
set_option linter.all false
set_option maxRecDepth 100000
set_option maxHeartbeats 4000000
/-! Hb: methods whose last places are given by name. -/
namespace Gx
open PySem PySem.Spec PyProof.Rows L2
/-- the places, then the named ones -/
def tApp (n m : Nat) (t tk : TA) : TA := fun σ H R => t σ H fun vs H1 => tk σ H1 fun zs H2 => vs.length = n ∧ zs.length = m ∧ R (vs ++ zs) H2
instance {n m : Nat} {t tk : TA} {σ : L2.St} {H : Hp} {R : List V → Hp → Prop} : Step (tApp n m t tk σ H R) (t σ H fun vs H1 => tk σ H1 fun zs H2 => vs.length = n ∧ zs.length = m ∧ R (vs ++ zs) H2) := ⟨fun q => q⟩
section
variable {X : Cx} {CX : CXT} {k : Nat} {C : Addr} {m qual : Str} {st : Stmt} {ps ks : List Str} {dvs : List V} {sp : Sp} {E : L2.St → XK} {o e : Expr} {es : List Expr} {kw : List Keyword} {ta : TE} {t tk : TA} {apos pos : Pos} {pl : Sem Bool}
theorem pe_mK (M : ClM CX X.prog X.w X.K X.mg X.base k C m qual st ps dvs [] sp) (c : Cls X.K C) (hr : Room k X.A) (hx : ∀ σ, PassesAt CX X σ (E σ)) (n : Nat) (ks : List Str) (hd : dvs ≠ [])
    (hB : ∀ (T : Addr) (kV doc pm : Value) (an : Option Addr) (cdv ct : Value) (us its ws : List Value), us.length = n + 1 → its.length = dvs.length → ws.length = ks.length →
      ∃ k, bindArgs (PySem.W.fnOf m qual (defArgs st) (defBody st) (defScope st) (.ref T) kV doc pm an cdv ct) ⟨us, ks.zip ws⟩ = seqItems? (.ref T) >>= k ∧ k (some its.toArray) = pure (ps.zip (us ++ ws)))
    (he : PE X o ta) (ha : PA X (e :: es) t) (hkw : PK X kw tk)
    (hall : (backToKw pos (keywordEach kw X.env)).all (·.1.isSome) = true := by rfl) (hks : (backToKw pos (keywordEach kw X.env)).filterMap (·.1) = ks := by rfl)
    (hst : starEach (e :: es) X.env = (false, eval e X.env) :: starEach es X.env := by rfl)
    (hpl : ((backTo pos (starEach (e :: es) X.env)).any (·.1) || (backToKw pos (keywordEach kw X.env)).any (·.1.isNone)) = false := by rfl)
    (ht : eval (.Call (.Attribute o m apos) (e :: es) kw pos) X.env = (do
      let ov ← eval o X.env
      standAt apos.atName
      let (f, first) ← holding [ov] (getMethod ov m pl)
      callWith pos f first (backTo pos (starEach (e :: es) X.env)) (backToKw pos (keywordEach kw X.env))) := by rfl) :
    PE X (.Call (.Attribute o m apos) (e :: es) kw pos) (tMethD C m sp [] E ta (tApp n ks.length t tk)) := by
  obtain ⟨f, fd, h1, h2, h4⟩ := M.ex
  have hb : ∀ (s : Shared) (us ws : List Value), X.K.In s.heap → us.length = n + 1 → ws.length = ks.length → BindsTo s fd ⟨us, ks.zip ws⟩ (ps.zip (us ++ ws)) := by
    obtain ⟨oc, od, dV, kV, doc, pm, an, cdv, ct, osl, rfl, lk, hcd, hD, hK⟩ := h2.ex
    rcases hD with ⟨e, _⟩ | ⟨_, T, o, its, m, rfl, lT, oT, rT⟩
    · exact absurd e hd
    · intro s us ws hin l1 l2
      obtain ⟨k, e1, e2⟩ := hB T kV doc pm an cdv ct us its ws l1 rT.length.symm l2
      refine BindsTo.of_looks fun M => ?_
      rw [e1]
      exact looks_items hin lT oT (.of_pure e2)
  refine ⟨fun pins s σ H Q I h => ?_⟩
  refine PySem.W.methodCall_KW (pl := pl) (thn (he.run pins s σ H _ I h) fun u s1 ⟨x, H1, I1, rx, a, dx, fs, ex, ea, l, q⟩ => ?_) ht
  subst ex
  obtain rfl : u = Value.ref a := rx
  refine getmeth_ok I1 ea c h1 l ?_
  refine PySem.W.callWith_KW (first := [.ref a]) (h₀ := X.base) I.ok.mod.kin h1.kp hall (thn (ha.run pos pins s1 σ H1 _ I1 q) fun us s2 ⟨vs, H2, I2, r, q2⟩ => ?_) hpl hst
  refine thn (hkw.run pos pins s2 σ H2 _ I2 q2) fun ws s3 ⟨zs, H3, I3, rz, l1, l2, q3⟩ => ⟨I3.kIn, ?_⟩
  rw [hks]
  have q3 : sp (.ref a :: ((vs ++ zs) ++ [])) H3 Q (E σ) := q3
  rw [List.append_nil] at q3
  have r2 : Vals (.ref a :: (vs ++ zs)) (.ref a :: us ++ ws) := .cons rfl (r.append rz)
  have hlu : (Value.ref a :: us).length = n + 1 := by rw [List.length_cons, ← r.length, l1]
  refine wpAny_call (codeAny_mono (h4.run X.A X.stack s3 H3 ⟨.ref a :: us, ks.zip ws⟩ (.ref a :: us ++ ws) _ Q (E σ) hr I3.env0 (hb s3 (.ref a :: us) ws I3.kIn hlu (rz.length.symm.trans l2)) r2 q3) fun r s' hq => ?_)
  cases r with
  | error e => exact hx σ pins H3 s3 e s' I3 hq
  | ok fl =>
    cases fl with
    | ret u => exact I3.after hq
    | next => exact False.elim hq
    | brk => exact False.elim hq
    | cont => exact False.elim hq
end
end Gx

set_option Elab.async false
set_option linter.all false
set_option maxRecDepth 100000
set_option maxHeartbeats 2000000
/-! Hc: lists turned round in place; what repr shows of data at any depth; data told item by item. -/
namespace Gx
open PySem PySem.Spec PyProof.Rows L2
section
variable {K : PySem.W.Frag} {H : Hp} {Q : VK} {l : Addr} {xs : List V}
theorem g_rev [h : At H l (.lst xs)] (q : ∀ H2, ExB l H H2 → At H2 l (.lst xs.reverse) → Q .non H2) : rReverse (.ref l) [] H Q :=
  ⟨l, xs, rfl, rfl, h.eq, q _ (ExB.upd h.eq) ⟨upd_same⟩⟩
end
/-- small data: at most k deep, its text at most n long -/
structure Sm (n k : Nat) (d : PyData) : Prop where
  ok : d.showable = true
  nd : d.hasDict = false
  dp : d.depth ≤ k
  sz : d.shown.length ≤ n
structure SmA (n k : Nat) (ds : List PyData) : Prop where
  ok : PyData.showableAll ds = true
  nd : PyData.hasDictAll ds = false
  dp : PyData.depthAll ds ≤ k
  sz : ∀ t ∈ PyData.shownAll ds, t.length ≤ n
theorem Sm.mono {n m k j : Nat} {d : PyData} (h : Sm n k d) (hn : n ≤ m) (hk : k ≤ j) : Sm m j d := ⟨h.ok, h.nd, Nat.le_trans h.dp hk, Nat.le_trans h.sz hn⟩
theorem sm_non : Sm 4 0 .none := ⟨rfl, rfl, Nat.le_refl _, by decide⟩
theorem sm_bl {b : Bool} : Sm 5 0 (.bool b) := ⟨rfl, rfl, Nat.le_refl _, by cases b <;> decide⟩
theorem sm_int {i : Int} (h : i.natAbs.log2 < 1920) : Sm 1921 0 (.int i) := ⟨by simpa [PyData.showable] using h, rfl, Nat.le_refl _, PyProof.Rows.int_text_len_1921 h⟩
theorem sm_int2 {i : Int} (h0 : -(2 ^ 200) < i) (h1 : i < 2 ^ 200) : Sm 1921 0 (.int i) := sm_int (Nat.lt_of_lt_of_le (PySem.Flt.log2_lt_of (k := 200) (by decide) (by omega)) (by decide))
theorem sm_str {z : Str} {m : Nat} (h : z.length ≤ m) (hc : ∀ c ∈ z.cps.toList, c < 16 ^ 8) : Sm (10 * m + 2) 0 (.str z) := ⟨rfl, rfl, Nat.le_refl _, by
  have := StrLaws.reprText_len z hc
  show (reprText z).length ≤ _
  omega⟩
theorem sma_nil {n k : Nat} : SmA n k [] := ⟨rfl, rfl, Nat.zero_le _, fun t h => by cases h⟩
theorem sma_cons {n k m j : Nat} {d : PyData} {ds : List PyData} (h : Sm m j d) (hs : SmA n k ds) (hm : m ≤ n) (hj : j ≤ k) : SmA n k (d :: ds) := by
  refine ⟨?_, ?_, ?_, ?_⟩
  · show (d.showable && PyData.showableAll ds) = true
    rw [h.ok, hs.ok]
    rfl
  · show (d.hasDict || PyData.hasDictAll ds) = false
    rw [h.nd, hs.nd]
    rfl
  · show max d.depth (PyData.depthAll ds) ≤ k
    exact Nat.max_le.mpr ⟨Nat.le_trans h.dp hj, hs.dp⟩
  · intro t ht
    rcases List.mem_cons.mp (show t ∈ d.shown :: PyData.shownAll ds from ht) with rfl | ht
    · exact Nat.le_trans h.sz hm
    · exact hs.sz t ht
theorem sma_of {n k : Nat} : ∀ {ds : List PyData}, (∀ d ∈ ds, Sm n k d) → SmA n k ds
  | [], _ => sma_nil
  | d :: r, h => sma_cons (h d (List.mem_cons_self ..)) (sma_of fun x hx => h x (List.mem_cons_of_mem _ hx)) (Nat.le_refl _) (Nat.le_refl _)
theorem shownAll_len (ds : List PyData) : (PyData.shownAll ds).length = ds.length := by
  induction ds with
  | nil => rfl
  | cons d r ih => show (PyData.shownAll r).length + 1 = r.length + 1; rw [ih]
theorem SmA.pil {n k m : Nat} {ds : List PyData} (h : SmA n k ds) (hl : ds.length ≤ m) : piled (PyData.shownAll ds) ≤ m * (n + 2) := by
  have h1 := piled_le (m := n) (PyData.shownAll ds) h.sz
  rw [shownAll_len] at h1
  exact Nat.le_trans h1 (Nat.mul_le_mul_right _ hl)
theorem SmA.lst {n k m : Nat} {ds : List PyData} (h : SmA n k ds) (hl : ds.length ≤ m) : Sm (m * (n + 2) + 2) (k + 1) (.list ds) :=
  ⟨h.ok, h.nd, Nat.succ_le_succ h.dp, Nat.le_trans (listText_le _) (Nat.add_le_add_right (h.pil hl) 2)⟩
theorem SmA.tup {n k m : Nat} {ds : List PyData} (h : SmA n k ds) (hl : ds.length ≤ m) : Sm (m * (n + 2) + 4) (k + 1) (.tuple ds) :=
  ⟨h.ok, h.nd, Nat.succ_le_succ h.dp, by
    show (tupleText (PyData.shownAll ds)).length ≤ _
    have h1 := h.pil hl
    unfold tupleText
    rw [Str.length_append, Str.length_append]
    have e1 : ("(" : Str).length = 1 := by decide
    have e2 : ((if (PyData.shownAll ds).length == 1 then ",)" else ")" : String) : Str).length ≤ 2 := by split <;> decide
    have e3 : (Str.join ", " (PyData.shownAll ds)).length ≤ piled (PyData.shownAll ds) := by
      by_cases hz : PyData.shownAll ds = []
      · rw [hz]
        decide
      · have := join_length_add _ hz
        omega
    omega⟩
theorem Sm.show {n k : Nat} {d : PyData} (h : Sm n k d) (hn : n ≤ 3000000) (hk : k ≤ 60) : ShowOk d := ⟨h.ok, h.nd, Nat.le_trans h.dp hk, Nat.le_trans h.sz (Nat.le_trans hn (by decide))⟩
theorem dp_pw {K : PySem.W.Frag} {H : Hp} : ∀ {xs : List V} {ds : List PyData}, xs.length = ds.length → (∀ (i : Nat) v, xs[i]? = some v → ∃ d, ds[i]? = some d ∧ Dp K H v d) → DpAll K H xs ds
  | [], [], _, _ => .nil
  | [], d :: r, h, _ => by cases h
  | x :: r, [], h, _ => by cases h
  | x :: r, d :: s, h, k => by
    obtain ⟨e, h1, h2⟩ := k 0 x rfl
    obtain rfl : d = e := by simpa using h1
    exact .cons h2 (dp_pw (by simpa using h) fun i v hv => by simpa using k (i + 1) v (by simpa using hv))
end Gx

set_option Elab.async false
set_option linter.all false
set_option maxRecDepth 100000
set_option maxHeartbeats 4000000
/-! Hd: dict comprehensions, pop, clear, list(d), list(d.items()), len(d), isinstance(x, dict); sorted of texts, any number of them. -/
namespace SrtZ
open PySem PyProof.Rows Srt
open SrtO hiding Str
section
variable {prog : Program} {w : World} {A : Around} {E : Value → Shared → Prop} {s : Shared}
def zv : Value → Str
  | .str z _ => z
  | _ => ""
abbrev zlt (a b : Str) : Prop := a.cps.toList < b.cps.toList
def ltZv (v u : Value) : Bool := decide (zlt (zv v) (zv u))
theorem zlt_asym {a b : Str} (h : zlt a b) : ¬ zlt b a := List.lt_asymm h
theorem zlt_tr {a b c : Str} (h1 : ¬ zlt b a) (h2 : ¬ zlt c b) : ¬ zlt c a := List.not_lt.mpr (List.le_trans (List.not_lt.mp h1) (List.not_lt.mp h2))
theorem zlt_anti {a b : Str} (h1 : ¬ zlt a b) (h2 : ¬ zlt b a) : a = b := by
  have := List.le_antisymm (List.not_lt.mp h2) (List.not_lt.mp h1)
  cases a with
  | mk x => cases b with
    | mk y =>
      have h : x = y := Array.toList_inj.mp this
      rw [h]
theorem swo_str : Swo ltZv := by
  refine ⟨fun x y h => ?_, fun x y z h1 h2 => ?_⟩
  · exact decide_eq_false (zlt_asym (of_decide_eq_true h))
  · exact decide_eq_false (zlt_tr (of_decide_eq_false h1) (of_decide_eq_false h2))
theorem strs_mem : ∀ {vs : List Value} {ns : List Str}, StrsAre vs ns → ∀ v ∈ vs, ∃ i t, v = Value.str i t
  | _, _, .nil, v, h => absurd h (by simp)
  | _, _, .cons n t r, v, h => by
    rcases List.mem_cons.mp h with e | h
    · exact ⟨n, t, e⟩
    · exact strs_mem r v h
theorem strs_zv : ∀ {vs : List Value}, (∀ v ∈ vs, ∃ i t, v = Value.str i t) → StrsAre vs (vs.map zv)
  | [], _ => .nil
  | v :: vs, h => by
    obtain ⟨i, t, e⟩ := h v List.mem_cons_self
    subst e
    exact .cons i t (strs_zv fun u hu => h u (List.mem_cons_of_mem _ hu))
theorem zv_strs : ∀ {vs : List Value} {ns : List Str}, StrsAre vs ns → vs.map zv = ns
  | _, _, .nil => rfl
  | _, _, .cons n t r => congrArg (n :: ·) (zv_strs r)
theorem str_cmp {vs : List Value} {ns : List Str} (hI : StrsAre vs ns) : Cmp prog w A s oneType' (fun p => p.1 ∈ vs) (lt2 ltZv) := by
  intro p q hm hm'
  obtain ⟨a, t, e⟩ := strs_mem hI _ hm
  obtain ⟨b, u, e'⟩ := strs_mem hI _ hm'
  show wpAny (model prog w) A (keyLt' oneType' p.1 q.1) (fun r s' => s' = s ∧ r = ltZv p.1 q.1) (fun _ _ => False) s
  rw [e, e', keyLt'_oneType]
  exact oneLt_str ⟨rfl, rfl⟩
theorem strs_sortable {a : Addr} {vs : List Value} {ns : List Str} (hI : StrsAre vs ns) (h2 : 2 ≤ vs.length) : SortableO prog w A s a vs ltZv := by
  intro h' _
  refine ⟨oneType', fun Q E hq => ?_, str_cmp hI⟩
  match vs, hI, h2 with
  | v1 :: v2 :: rest, hI, _ =>
    rw [keyKind_strs hI]
    exact wpAny_pure hq
  | [], _, h => exact absurd h (by decide)
  | [v], _, h => exact absurd h (by simp)
theorem strs_out {vs out : List Value} {ns : List Str} (hI : StrsAre vs ns) (hs : Srtd ltZv out) (hb : Stb ltZv out vs) : StrsAre out (out.map zv) ∧ (out.map zv).Perm ns ∧ (out.map zv).Pairwise (fun a b => ¬ zlt b a) := by
  refine ⟨strs_zv fun v hv => strs_mem hI v (hb.perm.mem_iff.mp hv), ?_, ?_⟩
  · have q := hb.perm.map zv
    rw [zv_strs hI] at q
    exact q
  · exact List.pairwise_map.mpr (hs.imp fun {x y} h => of_decide_eq_false h)
end
end SrtZ
namespace Gx
open PySem PySem.Spec PyProof.Rows L2
/-- two rows in ascending order with the same items -/
theorem asc_uniq : ∀ {l m : List Str}, l.Perm m → l.Pairwise (fun a b => ¬ SrtZ.zlt b a) → m.Pairwise (fun a b => ¬ SrtZ.zlt b a) → l = m
  | [], m, h, _, _ => by rw [h.symm.eq_nil]
  | a :: r, [], h, _, _ => by have := h.eq_nil; cases this
  | a :: r, b :: s, h, h1, h2 => by
    obtain ⟨a1, a2⟩ := List.pairwise_cons.mp h1
    obtain ⟨b1, b2⟩ := List.pairwise_cons.mp h2
    have e : a = b := by
      by_cases e : a = b
      · exact e
      · have ha : a ∈ s := by
          have := h.mem_iff.mp (List.mem_cons_self (a := a) (l := r))
          rcases List.mem_cons.mp this with z | z
          · exact absurd z e
          · exact z
        have hb : b ∈ r := by
          have := h.mem_iff.mpr (List.mem_cons_self (a := b) (l := s))
          rcases List.mem_cons.mp this with z | z
          · exact absurd z.symm e
          · exact z
        exact SrtZ.zlt_anti (b1 a ha) (a1 b hb)
    subst e
    rw [asc_uniq (List.Perm.cons_inv h) a2 b2]
def rSrtZ (K : PySem.W.Frag) : List V → Hp → VK → Prop := fun vs H Q => ∃ (a : Addr) (zs : List Str), vs = [V.ref a] ∧ SqL K H a (zs.map V.str) ∧
  ∀ (ys : List Str) (p : Addr), ys.Perm zs → ys.Pairwise (fun a b => ¬ SrtZ.zlt b a) → H p = none → Q (.ref p) (upd H p (.lst (ys.map V.str)))
theorem callSrtZ {X : Cx} {K : PySem.W.Frag} (hK : X.K = K) : CallR X (.builtin "sorted") (rSrtZ K) := by
  subst hK
  intro pins s σ H vs us Q I r h
  obtain ⟨a, zs, rfl, hs, q⟩ := h
  obtain ⟨its, rv, hl, hz⟩ := I.list hs
  rw [Vals.ref1 r]
  have hi := rv.strs
  refine SrtO.sorted_ord SrtZ.swo_str hl.isList (by rw [← rv.length]; exact hz) (fun h2 h₁ a' _ _ => SrtZ.strs_sortable hi h2) fun out h1 h2 => ?_
  obtain ⟨k1, k2, k3⟩ := SrtZ.strs_out hi h1 h2
  obtain ⟨ep, he'⟩ := PyProof.Rows.sortedAll_at s.heap its out.toArray
  have hlen : ((out.map SrtZ.zv).map V.str).length ≤ sizeLine := by
    rw [List.length_map, k2.length_eq]
    rw [List.length_map] at hz
    exact hz
  exact ⟨.ref _, upd H (s.heap.objs.size + 1) (.lst ((out.map SrtZ.zv).map V.str)), I.laid (t' := s.toks) (fun _ _ => PyProof.Rows.sortedAll_old) (Nat.le_succ _) ⟨hlen, out, ep, vals_of_strs k1, he'⟩, rfl, q _ _ k2 k3 (I.hok.fresh (Nat.le_succ _))⟩
section
variable {K : PySem.W.Frag} {σ τ : L2.St} {H : Hp} {Q : VK} {D : Ends} {a p q : Addr} {x y z v : V} {xs : List V} {k : Key} {kvs : List (Key × V)} {zs : List Str} {g : TG} {tt : TT} {tk tv tl td ty : TE}
theorem g_srtZ [h : SqC K H p (zs.map V.str)] (q : ∀ p' (ys : List Str) H2, Nw H p' → Ex H H2 → At H2 p' (.lst (ys.map V.str)) → ys.Perm zs → ys.Pairwise (fun a b => ¬ SrtZ.zlt b a) → Q (.ref p') H2) : rSrtZ K [.ref p] H Q :=
  ⟨p, zs, rfl, h.sq, fun ys p' h1 h2 h3 => q p' ys _ ⟨h3⟩ (Ex.mk h3) ⟨upd_same⟩ h1 h2⟩
/-! ### dict comprehensions over a list -/
def rDcL (K : PySem.W.Frag) (v : V) (g : TG) (tt : TT) (tk tv : TE) (vs : List Nat) (σ : L2.St) (H : Hp) (Q : VK) : Prop := tDc (iList K fun _ H R => R v H) g tt tk tv vs σ H Q
instance {vs : List Nat} : Step (tDc (iList K tl) g tt tk tv vs σ H Q) (tl σ H fun v H1 => rDcL K v g tt tk tv vs σ H1 Q) := ⟨fun q => q⟩
def rWk (D : Addr) (P : List (Key × V) → Hp → Prop) (H' : Hp) : Prop := ∃ kv, H' D = some (.dK kv) ∧ P kv H'
def rDcP (D : Addr) (W : Hp → Prop) (y z : V) (H5 : Hp) : Prop := ∃ kvs k, y = kV k ∧ H5 D = some (.dK kvs) ∧ kvs.length < sizeLine ∧ W (upd H5 D (.dK (putK kvs k z)))
instance {P : List (Key × V) → Hp → Prop} {E : Addr} [h : At H E (.dK kvs)] : Step (rWk E P H) (P kvs H) := ⟨fun q => ⟨_, h.eq, q⟩⟩
theorem g_dcP {P : List (Key × V) → Hp → Prop} {E : Addr} [h : At H E (.dK kvs)] [hk : KeyC y k] (hz : kvs.length < 100000) (q : ∀ H5, ExB E H H5 → At H5 E (.dK (putK kvs k z)) → P (putK kvs k z) H5) : rDcP E (rWk E P) y z H :=
  ⟨kvs, k, hk.eq, h.eq, Nat.lt_of_lt_of_le hz (by decide), _, upd_same, q _ (exbN (o := .dK (putK kvs k z)) h.eq ImmDK) ⟨upd_same⟩⟩
theorem dcL_P {vs : List Nat} {a : Addr} {xs : List V} (Pv : Addr → Nat → List (Key × V) → Hp → Prop) [hx : SqC K H a xs] [hw : Wipe σ vs τ] (h0 : ∀ D H1, Nw H D → Ex H H1 → At H1 D (.dK []) → Pv D 0 [] H1)
    (hs : ∀ D (i : Nat) x kv H', xs[i]? = some x → Nw H D → Ex H H' → At H' D (.dK kv) → Pv D i kv H' → g x τ H' fun σ2 H2 => wipe σ2 vs = τ ∧ tt σ2 H2 fun b H3 =>
      if b = true then tk σ2 H3 fun y H4 => tv σ2 H4 fun z H5 => rDcP D (rWk D fun kv' H6 => Ex H H6 ∧ Pv D (i + 1) kv' H6) y z H5 else rWk D (fun kv' H6 => Ex H H6 ∧ Pv D (i + 1) kv' H6) H3)
    (hd : ∀ D kv H', Nw H D → Ex H H' → At H' D (.dK kv) → Pv D xs.length kv H' → Q (.ref D) H') : rDcL K (.ref a) g tt tk tv vs σ H Q := by
  refine ⟨a, rfl, ⟨xs, hx.sq⟩, fun D hD => ?_⟩
  refine ⟨fun i m H' => m = xs.length - i ∧ i ≤ xs.length ∧ rWk D (fun kv H5 => Ex H H5 ∧ Pv D i kv H5) H', ⟨xs.length, rfl, Nat.zero_le _, [], upd_same, Ex.mk hD, h0 D _ ⟨hD⟩ (Ex.mk hD) ⟨upd_same⟩⟩, ?_⟩
  rintro i m H' ⟨rfl, hi, kv, e, r, p⟩
  have q := Ex.l r hx.sq
  by_cases hlt : i < xs.length
  · refine .inr ⟨fd_list.go i H' q hlt, rWk D (fun kv H5 => Ex H H5 ∧ Pv D (i + 1) kv H5), fun H' p' => ⟨xs.length - (i + 1), by omega, rfl, hlt, p'⟩, fun v H'' y => ?_⟩
    rw [hw.eq]
    obtain ⟨rfl, y'⟩ := fd_list.yld i H' v H'' q hlt y
    exact hs D i v kv _ y' ⟨hD⟩ r ⟨e⟩ p
  · have e' : i = xs.length := by omega
    subst e'
    exact .inl ⟨fd_list.stop H' q, hd D kv H' ⟨hD⟩ r ⟨e⟩ p⟩
/-! ### pop, clear, list, len, isinstance -/
def rDPop (x y : V) (H2 : Hp) (Q : VK) : Prop := ∃ a kvs k v, x = .ref a ∧ H2 a = some (.dK kvs) ∧ y = kV k ∧ valV kvs k = some v ∧ Q v (upd H2 a (.dK (dropK kvs k)))
class IsDC (H : Hp) (x : V) : Prop where
  ex : ∃ a, x = .ref a ∧ IsD H a
theorem g_dclr [h : At H a (.dK kvs)] (q : ∀ H2, ExB a H H2 → At H2 a (.dK []) → Q .non H2) : rDClear (.ref a) [] H Q := ⟨a, kvs, rfl, rfl, h.eq, q _ (exbN (o := .dK []) h.eq ImmDK) ⟨upd_same⟩⟩
theorem g_lstD [h : At H p (.dK kvs)] (q : ∀ p' H2, Nw H p' → Ex H H2 → At H2 p' (.lst (kvs.map fun kv => kV kv.1)) → Q (.ref p') H2) : rListD [.ref p] H Q := ⟨p, kvs, rfl, h.eq, fun p' h => q p' _ ⟨h⟩ (Ex.mk h) ⟨upd_same⟩⟩
theorem g_isD [h : At H p (.dK kvs)] (q : Q (.bl true) H) : rIsi K [.ref p, .ty "dict"] H Q := g_isi (.ty _) (.base (.dK h.eq)) (kit_ty (by decide +kernel)) q
instance [h : At H p (.dK kvs)] : Step (rIsi K [.ref p, .ty "dict"] H Q) (Q (.bl true) H) := ⟨g_isD⟩
instance {te : TE} : Step (LiI.tListItems te σ H Q) (te σ H fun x H1 => LiI.rItemsL x H1 Q) := ⟨fun q => q⟩
theorem g_itemsL [h : At H p (.dK kvs)] (q : ∀ p' ts H2, Nw H p' → Ex H H2 → At H2 p' (.lst (ts.map V.ref)) → Paired (fun (t : Addr) (q : Key × V) => H2 t = some (.tup [kV q.1, q.2])) ts kvs → Q (.ref p') H2) : LiI.rItemsL (.ref p) H Q :=
  ⟨p, kvs, rfl, h.eq, fun H' p' ts h1 h2 h3 h4 h5 h6 => q p' ts H' ⟨h2⟩ ⟨fun a o _ e => h1 a o e, (fun a e => by
    cases e' : H a with
    | none => rfl
    | some o => rw [h1 a o e'] at e; cases e), fun a o _ e => h1 a o e⟩ ⟨h5⟩ h6⟩
instance : Step (tDPop1 td ty σ H Q) (td σ H fun x H1 => ∃ a, x = .ref a ∧ IsD H1 a ∧ ty σ H1 fun y H2 => ∃ kvs k v, H2 a = some (.dK kvs) ∧ y = kV k ∧ valV kvs k = some v ∧ Q v (upd H2 a (.dK (dropK kvs k)))) := ⟨fun q => q⟩
def rDPopE (a : Addr) (y : V) (H2 : Hp) (Q : VK) : Prop := ∃ kvs k v, H2 a = some (.dK kvs) ∧ y = kV k ∧ valV kvs k = some v ∧ Q v (upd H2 a (.dK (dropK kvs k)))
theorem g_dpop1 [h : At H a (.dK kvs)] (q : ty σ H fun y H2 => rDPopE a y H2 Q) : ∃ a', V.ref a = .ref a' ∧ IsD H a' ∧ ty σ H fun y H2 => ∃ kvs k v, H2 a' = some (.dK kvs) ∧ y = kV k ∧ valV kvs k = some v ∧ Q v (upd H2 a' (.dK (dropK kvs k))) :=
  ⟨a, rfl, .inl ⟨kvs, .inl h.eq⟩, q⟩
theorem g_dpopE [h : At H a (.dK kvs)] [hk : KeyC y k] (hv : valV kvs k = some v) (q : ∀ H3, ExB a H H3 → At H3 a (.dK (dropK kvs k)) → Q v H3) : rDPopE a y H Q := ⟨kvs, k, v, h.eq, hk.eq, hv, q _ (exbN (o := .dK (dropK kvs k)) h.eq ImmDK) ⟨upd_same⟩⟩
def rLenD : List V → Hp → VK → Prop := fun xs H Q => ∃ a kvs, xs = [V.ref a] ∧ H a = some (.dK kvs) ∧ Q (.int kvs.length) H
theorem callLenD {X : Cx} : CallR X (.builtin "len") rLenD := call_lenD
instance [h : At H p (.dK kvs)] : Step (rLenD [.ref p] H Q) (Q (.int kvs.length) H) := ⟨fun q => ⟨p, kvs, rfl, h.eq, q⟩⟩
end
/-! ### generator methods -/
structure ClMY (P : Program) (w : World) (K : PySem.W.Frag) (mg : Str → Option Value) (base : Heap) (k : Nat) (C : Addr) (m qual : Str) (st : Stmt) (ps : List Str) (sp : SpG) : Prop where
  ex : ∃ (f : Addr) (fd : FuncData), Meth K C m f ∧ FunD K m qual (defArgs st) (defBody st) (defScope st) [] [] f fd ∧ GFn P w K mg base k f fd ps sp
theorem DfM.okY {P : Program} {w : World} {K : PySem.W.Frag} {mg : Str → Option Value} {base : Heap} {C : Addr} {m qual : Str} {st : Stmt} {N ps : List Str} {k : Nat} {sp : SpG} (D : DfM K C m qual st [] []) (S : GScope N ps (defScope st)) (len : ∀ vs H Q E, sp vs H Q E → vs.length = ps.length)
    (hbody : ∀ (f : Addr) (cdv : Value) (A : Around) (outer : List Env) (s : Shared) (H : Hp) (vs : List V) (Q : List V → Hp → Prop) (E : XK) (pn : List (Addr × Obj)), Room k (A.deeper (envOfC qual (defScope st) s.heap.objs.size f cdv)) → sp vs H Q E →
      ∃ t, GSs (gcxOf P w K mg base N qual (defScope st) f cdv A outer s H E pn) (defBody st) t ∧ t { nx := fun ys _ H' => Q ys H', rt := fun ys v H' => v = .non ∧ Q ys H' } [] (start N vs) H) : ClMY P w K mg base (k + 1) C m qual st ps sp := by
  obtain ⟨f, fd, h1, h2⟩ := D.ex
  obtain ⟨oc, od, dV, kV, doc, pm, an, cdv, ct, osl, rfl, lk, hcd, _, _⟩ := id h2.ex
  exact ⟨f, _, h1, h2, gfn_of lk hcd S len fun A outer s H vs Q E pn hr hsp => hbody f cdv A outer s H vs Q E pn hr hsp⟩
theorem pgen_m0 {X : Cx} {k : Nat} {C : Addr} {m qual : Str} {st : Stmt} {ps : List Str} {sp : SpG} {o : Expr} {ta : TE} {apos pos : Pos} {pl : Sem Bool} (M : ClMY X.prog X.w X.K X.mg X.base k C m qual st ps sp) (c : Cls X.K C) (hr : Room k X.A)
    (h : ∀ (kV doc pm : Value) (an : Option Addr) (cdv ct : Value) (us : List Value), us.length = ps.length → bindArgs (PySem.W.fnOf m qual (defArgs st) (defBody st) (defScope st) .none kV doc pm an cdv ct) ⟨us, []⟩ = pure (ps.zip us))
    (he : PE X o ta)
    (ht : eval (.Call (.Attribute o m apos) [] [] pos) X.env = (do
      let ov ← eval o X.env
      standAt apos.atName
      let (f, first) ← holding [ov] (getMethod ov m pl)
      callWith pos f first (backTo pos (starEach [] X.env)) (backToKw pos (keywordEach [] X.env))) := by rfl) :
    PGen X k (.Call (.Attribute o m apos) [] [] pos) (tMethG C m sp [] E0 ta tNil) E0 := by
  obtain ⟨f, fd, h1, h2, h4⟩ := M.ex
  exact pgen_meth0 he c h1 h4 hr (h2.bindsN h) .nil ht
section
variable {σ : L2.St} {H : Hp} {Q : VK} {C : Addr} {m : Str} {sp : SpG} {ta : TE}
def rMethG (C : Addr) (m : Str) (sp : SpG) (x : V) (H1 : Hp) (Q : VK) : Prop := ∃ a dx fs, x = .ref a ∧ H1 a = some (.ins C dx fs) ∧ fs.lookup m = none ∧ rNewG sp [x] E0 H1 Q
instance : Step (tListG (tMethG C m sp [] E0 ta tNil) σ H Q) (ta σ H fun x H1 => rMethG C m sp x H1 Q) := ⟨fun q => q⟩
end
end Gx

set_option Elab.async false
set_option linter.all false
set_option maxRecDepth 100000
set_option maxHeartbeats 2000000
/-! He: repr of a dict of texts and numbers. -/
namespace Gx
open PySem PySem.Spec PyProof.Rows L2
/-- a dict of texts and numbers as data -/
def dD (B : List (Str × Int)) : PyData := .dict (B.map fun p => (.str p.1, .int p.2))
structure ShowDk (B : List (Str × Int)) : Prop where
  ok : (dD B).showable = true
  dp : (dD B).depth ≤ 60
  sz : (dD B).shown.length ≤ sizeLine
def rReprD : List V → Hp → VK → Prop := fun xs H Q => ∃ (a : Addr) (B : List (Str × Int)), xs = [V.ref a] ∧ H a = some (.dK (B.map fun p => ((.inr p.1 : Key), V.int p.2))) ∧ ShowDk B ∧ Q (.str (dD B).shown) H
theorem rdp {P : Program} {w : World} {h : Heap} : ∀ {B : List (Str × Int)} {vs : List (Key × Value)} {es : List DictEntry}, KV (B.map fun p => ((.inr p.1 : Key), V.int p.2)) vs → Pairs (mixKind P w) es vs →
    ReadsAll h (es.map (·.key)) (B.map fun p => PyData.str p.1) [] ∧ ReadsAll h (es.map (·.val)) (B.map fun p => PyData.int p.2) []
  | [], _, _, hk, hp => by
    cases hk
    cases hp
    exact ⟨.nil, .nil⟩
  | p :: r, _, _, hk, hp => by
    cases hk with
    | cons h1 h2 =>
      cases hp with
      | @cons e kv es kvs g1 g2 g3 =>
        obtain ⟨i1, i2⟩ := rdp h2 g3
        obtain ⟨e1, e2⟩ := h1
        obtain ⟨t, e2⟩ := e2
        rw [← e1] at g1
        have g1 : keyIs (.inr p.1) e.key = true := g1
        have g2 : e.val = _ := g2.trans e2
        have q1 : Reads h e.key (.str p.1) [] := by
          rcases keyIs_shape g1 with ⟨i, u, z, _⟩ | ⟨x, u, z, z2⟩
          · cases z
          · cases z
            rw [z2]
            exact .str _ _
        have q2 : Reads h e.val (.int p.2) [] := by
          rw [g2]
          exact .int _ _
        exact ⟨.cons (as := []) (bs := []) q1 i1, .cons (as := []) (bs := []) q2 i2⟩
theorem callReprD {X : Cx} (noG : X.A.guards = some []) (room : X.A.units + 64 < cLine) : CallR X (.builtin "repr") rReprD := by
  intro pins s σ H xs us Q I r h
  obtain ⟨a, B, rfl, hB, ⟨o1, o2, o3⟩, q⟩ := h
  obtain ⟨u, rfl, rv⟩ := vals1 r
  obtain rfl : u = Value.ref _ := rv
  obtain ⟨_, hs, vs, hk, hd⟩ := dk_of I.hok hB
  obtain ⟨o, es, ep, h1, h2, h3, _, h5, _⟩ := hd
  obtain ⟨i1, i2⟩ := rdp hk h5
  have rd : Reads s.heap (.ref a) (dD B) (a :: [] ++ []) := .dict h1 h2.1 h3 (by rw [List.map_map]; exact i1) (by rw [List.map_map]; exact i2)
  exact repr_of_reads' rd o1 (fun _ hm => by
    have : sysModules = a := by simpa using hm
    rw [this] at hs
    simp at hs) noG (by omega) (fun _ _ e => e) (fun h' t tk hk => ⟨.str _, H, I.kept (t' := tk) hk, ⟨t, rfl⟩, q⟩) o3
theorem g_reprD {H : Hp} {Q : VK} {a : Addr} {B : List (Str × Int)} [h : At H a (.dK (B.map fun p => ((.inr p.1 : Key), V.int p.2)))] (ok : ShowDk B) (q : Q (.str (dD B).shown) H) : rReprD [.ref a] H Q := ⟨a, B, rfl, h.eq, ok, q⟩
theorem shownKv_eq (B : List (Str × Int)) : PyData.shownKv (B.map fun p => (PyData.str p.1, PyData.int p.2)) = B.map fun p => (PyData.str p.1).shown ++ ": " ++ (PyData.int p.2).shown := by
  induction B with
  | nil => rfl
  | cons p r ih => rw [List.map_cons, List.map_cons, PyData.shownKv, ih]
theorem showD {B : List (Str × Int)} (hl : B.length ≤ 100) (h : ∀ p ∈ B, Sm 200 0 (.str p.1) ∧ Sm 1921 0 (.int p.2)) : ShowDk B := by
  refine ⟨?_, ?_, ?_⟩
  · show PyData.showableKv _ = true
    clear hl
    induction B with
    | nil => rfl
    | cons p r ih =>
      obtain ⟨g1, g2⟩ := h p (List.mem_cons_self ..)
      rw [List.map_cons, PyData.showableKv, g1.ok, g2.ok, ih fun q hq => h q (List.mem_cons_of_mem _ hq)]
      rfl
  · have h0 : PyData.depthKv (B.map fun p => (PyData.str p.1, PyData.int p.2)) = 0 := by
      clear hl h
      induction B with
      | nil => rfl
      | cons p r ih => rw [List.map_cons, PyData.depthKv, ih]; rfl
    show PyData.depthKv _ + 1 ≤ 60
    rw [h0]
    decide
  · show (dictText (PyData.shownKv _)).length ≤ _
    rw [shownKv_eq]
    have hp : piled (B.map fun p => (PyData.str p.1).shown ++ ": " ++ (PyData.int p.2).shown) ≤ 100 * (2200 + 2) := by
      refine Nat.le_trans (piled_le (m := 2200) _ fun t ht => ?_) (Nat.mul_le_mul_right _ (by rw [List.length_map]; exact hl))
      obtain ⟨p, hp, rfl⟩ := List.mem_map.mp ht
      obtain ⟨g1, g2⟩ := h p hp
      have e1 := g1.sz
      have e2 := g2.sz
      rw [Str.length_append, Str.length_append]
      have : (": " : Str).length = 2 := by decide
      omega
    generalize B.map (fun p => (PyData.str p.1).shown ++ ": " ++ (PyData.int p.2).shown) = ts at hp
    unfold dictText
    rw [Str.length_append, Str.length_append]
    have e1 : ("{" : Str).length = 1 := by decide
    have e2 : ("}" : Str).length = 1 := by decide
    have e3 : (Str.join ", " ts).length ≤ piled ts := by
      by_cases hz : ts = []
      · rw [hz]
        decide
      · have := join_length_add _ hz
        omega
    have e4 : 300000 ≤ sizeLine := by decide
    omega
end Gx


set_option Elab.async false
set_option linter.all false
set_option maxRecDepth 100000
set_option maxHeartbeats 4000000
set_option pp.deepTerms false
set_option pp.maxSteps 300
namespace Toy
open PySem PySem.Spec PyProof.Rows L2 Gx
open L2H (RoomH roomH_mark cxH)
def top (i : Nat) : Stmt := PySem.Challenge.pw_carrylog_k12_whole_ring_tables.main.body.getD i (.Pass ⟨0, 0, 0, 0⟩)
section
variable {P : Program} {w : World} {K : PySem.W.Frag} {mg : Str → Option Value} {base : Heap}

set_option synthInstance.maxHeartbeats 400000
set_option synthInstance.maxSize 4000
local macro_rules | `(tactic| walk_at "szt") => `(tactic| first | assumption | exact Nat.le_of_ble_eq_true rfl | omega | (simp only [List.length_append, List.length_cons, List.length_nil, List.length_map, List.length_replicate, List.length_take, List.length_drop]; omega))
local macro_rules | `(tactic| walk_at "call") => `(tactic| fail)
local macro_rules | `(tactic| walk_at "go1") => `(tactic| first
  | refine Gx.Step.run ?_
  | ((with_reducible show Gx.rAdd _ _ _ _ _); first
    | with_reducible refine Gx.g_addT (by walk_at "szt") ?_
    | (with_reducible refine Gx.g_cat (by walk_at "szt") ?_; intro p_ H_ np_ e_ hp_))
  | ((with_reducible show Gx.rMul _ _ _ _ _); first
    | with_reducible refine Gx.g_mulT (by omega) ?_
    | with_reducible refine Gx.g_mulR (by omega) ?_
    | with_reducible refine Gx.g_mulL (by omega) ?_
    | with_reducible refine Gx.g_mulS (by omega) ?_
    | with_reducible refine Gx.g_mulX (Gx.mulx128 (by omega) (by omega)) ?_)
  | ((with_reducible show Gx.rMod _ _ _ _); with_reducible refine Gx.g_mod (by omega) ?_)
  | ((with_reducible show Gx.rDiv _ _ _ _); with_reducible refine Gx.g_div (Gx.cdivW (by omega) (by omega)) ?_)
  | ((with_reducible show L2.rIx _ _ _ _ _); first
    | with_reducible refine Gx.g_ixL (by with_unfolding_all rfl) ?_
    | with_reducible refine Gx.g_ixIN (by omega) ?_
    | with_reducible refine Gx.g_ixI (by omega) (by omega) ?_
    | with_reducible refine Gx.g_ixTx (by walk_at "szt") (by with_unfolding_all rfl) ?_
    | with_reducible refine Gx.g_ixT (by with_unfolding_all rfl) ?_)
  | ((with_reducible show Gx.rLen _ _ _ _); first
    | with_reducible refine Gx.g_lenT (by walk_at "szt") ?_
    | with_reducible refine Gx.g_len (Gx.len_s (by omega)) ?_)
  | ((with_reducible show Gx.rLstripC _ _ _ _); with_reducible refine Gx.g_lstrip0 (by walk_at "szt") ?_)
  | ((with_reducible show Gx.rStripC _ _ _ _); with_reducible refine Gx.g_strip01 (by walk_at "szt") ?_)
  | ((with_reducible show Gx.rNewL _ _ _); (with_reducible refine Gx.g_newL (by walk_at "szt") ?_; intro p_ H_ np_ e_ hp_))
  | ((with_reducible show Gx.rNewT _ _ _); (with_reducible refine Gx.g_newT (by walk_at "szt") ?_; intro p_ H_ np_ e_ hp_))
  | ((with_reducible show Gx.rSlX _ _ _ _ _ _); first
    | with_reducible refine Gx.g_slT (by walk_at "szt") ?_
    | (with_reducible refine Gx.g_slL ?_; intro p_ H_ np_ e_ hp_))
  | ((with_reducible show Gx.rListOf _ _ _ _); (with_reducible refine Gx.g_listOf ?_; intro p_ H_ np_ e_ hp_))
  | ((with_reducible show Gx.rRevL _ _ _ _); (with_reducible refine Gx.g_revL ?_; intro p_ H_ np_ e_ hp_))
  | ((with_reducible show L2.rSetL _ _ _ _ _); (with_reducible refine Gx.g_setI (by omega) (by omega) ?_; intro H_ e_ hp_))
  | ((with_reducible show L2.rSetL _ _ _ _ _); (with_reducible refine Gx.g_set (by with_unfolding_all rfl) ?_; intro H_ e_ hp_; try simp only [Int.reduceToNat, List.set_cons_zero, List.set_cons_succ] at hp_))
  | ((with_reducible show L2.rAppend _ _ _ _); (with_reducible refine Gx.g_app (by walk_at "szt") ?_; intro H_ e_ hp_))
  | ((with_reducible show Gx.rPow _ _ _ _); with_reducible refine Gx.g_pow (Gx.cpow_ok (by decide) (by decide) (by decide)) (by simp only [Int.reduceToNat, Int.reducePow]; exact rfl) ?_)
  | ((with_reducible show Gx.rApp _ _ _ _); (with_reducible refine Gx.g_rapp (by walk_at "szt") ?_; intro H_ e_ hp_))
  | ((with_reducible show L2.rSum _ _ _ _); (with_reducible refine Gx.g_sum ?_))
  | ((with_reducible show Gx.rStr _ _ _); (with_reducible refine Gx.g_str (by omega) ?_; intro hz_))
  | ((with_reducible show (L2.wipe _ _ = _ ∧ _)); refine ⟨rfl, ?_⟩)
  | ((with_reducible show L2.rAll _ _ _ _); first | refine Gx.g_allT ?_ | refine Gx.g_all ?_)
  | ((with_reducible show (List.length _ = _ ∧ List.length _ = _ ∧ _)); refine ⟨rfl, rfl, ?_⟩)
  | ((with_reducible show L2.gTup _ _ _ _ _ _ _); first
    | (refine Gx.g_pair (by assumption) ?_; intro T_ np_ e_ hp_)
    | refine Gx.g_gtup (by rfl) ?_)
  | walk_at "call")
local macro_rules | `(tactic| walk_at "go") => `(tactic| repeat walk_at "go1")
local macro_rules | `(tactic| walk_at "if1") => `(tactic| first
  | with_reducible refine Gx.g_ite (fun hI => ?_) (fun hI => ?_)
  | with_reducible refine Gx.g_iteN (fun hI => ?_) (fun hI => ?_)
  | with_reducible refine Gx.g_itB (fun hI => ?_) (fun hI => ?_)
  | with_reducible refine Gx.g_itNB (fun hI => ?_) (fun hI => ?_))
local macro_rules | `(tactic| walk_at "dead") => `(tactic| first | (exfalso; omega) | contradiction)
local macro_rules | `(tactic| walk_at "gos") => `(tactic| (walk_at "go"; first | (walk_at "if1" <;> first | walk_at "dead" | walk_at "gos") | skip))


variable {c_Round : Addr}
local macro_rules | `(tactic| walk_at "call") => `(tactic| first
  | ((with_reducible show Gx.rMeth _ _ _ _ _ _ _ _ _ _); refine Gx.g_rmeth (by decide) ?_)
  | ((with_reducible show Gx.rFld _ _ _ _ _); refine Gx.g_fldB (Gx.RdF.c (by assumption)) (Gx.RdF.nb (by assumption)) ?_; intro t_ ht_)
  | ((with_reducible show Gx.rCVal _ _ _ _ _); refine Gx.g_most (by assumption) ?_)
  | ((with_reducible show Gx.rMkR _ _ _ _ _); refine Gx.g_mkR (by omega) (by assumption) ?_; intro a_ H_ np_ e_ hR_)
  | ((with_reducible show Gx.rAdd _ _ _ _ _); refine Gx.g_catT (by omega) ?_; intro p_ H_ e_ hp_)
  | ((with_reducible show Gx.rSlX _ _ _ _ _ _); refine Gx.g_slTup ?_; intro p_ H_ e_ hp_)
  | ((with_reducible show L2.rIx _ _ _ _ _); refine Gx.g_ixTI (by omega) (by omega) ?_)
  | ((with_reducible show Gx.rListOf _ _ _ _); refine Gx.g_listOfT ?_; intro p_ H_ np_ e_ hp_)
  | ((with_reducible show Gx.rTupOf _ _ _ _); refine Gx.g_tupOfL ?_; intro p_ H_ np_ e_ hp_)
  | ((with_reducible show Gx.rDivmod _ _ _); refine Gx.g_divmod (by walk_at "divp") ?_; intro p_ H_ np_ e_ hp_))
local macro_rules | `(tactic| walk_at "call") => `(tactic| ((with_reducible show L2.rIsi _ _ _ _); refine Gx.g_isR (by assumption) ?_))
local macro_rules | `(tactic| walk_at "divp") => `(tactic| exact Gx.cdivP (by omega) (by omega))

def spAtl : Sp := fun vs H Q _ => ∃ (v m : Int) (z : Str), vs = [.int v, .int m, .str z] ∧ m ≤ v ∧ Q .non H
def spWhole : Sp := fun vs H Q _ => ∃ (v : Int) (z : Str), vs = [.int v, .str z] ∧ Q .non H
abbrev s_at_least : Stmt := (top 11)
abbrev N_at_least : List Str := ["value", "least", "field"]
theorem sc_at_least : FnScope N_at_least ["value", "least", "field"] (defScope s_at_least) := ⟨rfl, rfl, rfl, by decide +kernel, rfl, by decide +kernel, by decide +kernel⟩
theorem cl_at_least (T : Bl mg) (R : RdF K mg c_Round) (D : DfG K mg "at_least" s_at_least [] [])  : ClG CX0 P w K mg base 3 "at_least" s_at_least ["value", "least", "field"] [] [] spAtl := by
  have nd := sc_at_least.nd
  refine D.okP sc_at_least (fun vs H Q E h => ?_) (fun f cdv A outer s H vs Q E hr h => ?_)
  · obtain ⟨v, m, z, rfl, _⟩ := h
    rfl
  · obtain ⟨v, m, z, rfl, h, k⟩ := h
    have hu := hu64 hr
    refine ⟨_, (pss_one (ps_if (pt_cmpR opLt (pv 0) (pv 1) (nomark _))
      (pss_one ps_never)
      pss_nil)), ?_⟩
    try dsimp only [L2.cxOf, L2.Cx.nox]
    simp only [L2.start, N_at_least, List.map_cons, List.map_nil, List.length_cons, List.length_nil, Nat.reduceAdd, Nat.reduceSub, List.replicate_succ, List.replicate_zero, List.cons_append, List.nil_append]

    walk_at "gos"
    exact k
abbrev s_whole_number : Stmt := (top 13)
abbrev N_whole_number : List Str := ["value", "field"]
theorem sc_whole_number : FnScope N_whole_number ["value", "field"] (defScope s_whole_number) := ⟨rfl, rfl, rfl, by decide +kernel, rfl, by decide +kernel, by decide +kernel⟩
theorem cl_whole_number (T : Bl mg) (R : RdF K mg c_Round) (D : DfG K mg "whole_number" s_whole_number [] [])  : ClG CX0 P w K mg base 3 "whole_number" s_whole_number ["value", "field"] [] [] spWhole := by
  have nd := sc_whole_number.nd
  refine D.okP sc_whole_number (fun vs H Q E h => ?_) (fun f cdv A outer s H vs Q E hr h => ?_)
  · obtain ⟨v, z, rfl, _⟩ := h
    rfl
  · obtain ⟨v, z, rfl, k⟩ := h
    have hu := hu64 hr
    refine ⟨_, (pss_one (ps_if (PW.pt (pw_or (pt_val (pe_callB (callIsiK (K := K) (by rfl)) (by rfl) T.isinstance (by decide +kernel) (pa_cons (pv 0) (pa_cons (pe_bltn (v := .ty "bool") (by rfl) T.bool (by decide +kernel) rfl) pa_nil)))) (pw_or1 (pt_not (pt_val (pe_callB (callIsiK (K := K) (by rfl)) (by rfl) T.isinstance (by decide +kernel) (pa_cons (pv 0) (pa_cons (pe_bltn (v := .ty "int") (by rfl) T.int (by decide +kernel) rfl) pa_nil))))))))
      (pss_one ps_never)
      pss_nil)), ?_⟩
    try dsimp only [L2.cxOf, L2.Cx.nox]
    simp only [L2.start, N_whole_number, List.map_cons, List.map_nil, List.length_cons, List.length_nil, Nat.reduceAdd, Nat.reduceSub, List.replicate_succ, List.replicate_zero, List.cons_append, List.nil_append]

    walk_at "gos"
    exact k
local macro_rules | `(tactic| walk_at "call") => `(tactic| first
  | ((with_reducible show spAtl _ _ _ _); refine ⟨_, _, _, rfl, by omega, ?_⟩)
  | ((with_reducible show spWhole _ _ _ _); refine ⟨_, _, rfl, ?_⟩))
abbrev s_Round___init__ : Stmt := (inClass (top 25) 1)
abbrev N_Round___init__ : List Str := ["self", "budgets", "budget"]
theorem sc_Round___init__ : FnScope N_Round___init__ ["self", "budgets"] (defScope s_Round___init__) := ⟨rfl, rfl, rfl, by decide +kernel, rfl, by decide +kernel, by decide +kernel⟩
theorem cl_Round___init__ (T : Bl mg) (R : RdF K mg c_Round) (D : DfI K c_Round "Round.__init__" s_Round___init__) (C_at_least : ClG CX0 P w K mg base 3 "at_least" s_at_least ["value", "least", "field"] [] [] spAtl) (C_whole_number : ClG CX0 P w K mg base 3 "whole_number" s_whole_number ["value", "field"] [] [] spWhole) : ClI CX0 P w K mg base 5 c_Round := by
  have nd := sc_Round___init__.nd
  refine D.ok sc_Round___init__ StX.cxUp_none (fun doc pm cdv ct an us rest hl => StX.bind_star1 (B := fun l => bindArgs (PySem.W.fnOf "__init__" "Round.__init__" (defArgs s_Round___init__) (defBody s_Round___init__) (defScope s_Round___init__) .none .none doc pm an cdv ct) ⟨l, []⟩) (fun _ => rfl) (fun _ _ _ => rfl) us rest hl) (fun f cdv A outer s H vs Q E hr h => ?_)
  · obtain ⟨a, dx, t, bs, rfl, ⟨ha, ht, h1, h2, h0⟩, k⟩ := h
    have hu := hu64 hr
    refine Gx.ex_nox ⟨_, (pss_cons (ps_if (pt_not (pt_chain opLe opLe pe_int (pe_callB (callLenK (K := K) (by rfl)) (by rfl) T.len (by decide +kernel) (pa_cons (pv 1) pa_nil)) (_root_.ClX.pe_cval (pe_glob (v := .ref c_Round) (u := .ref c_Round) (by rfl) R.g rfl))))
      (pss_one ps_never)
      pss_nil)
    (pss_cons (ps_for PassesOwn.never rfl (pi_tupK (K := K) (by rfl) (pv 1)) (pg_name (i := 2) nd rfl (Or.inl rfl))
      (pss_cons (ps_expr (pe_g C_whole_number (by exact hr.mono (by decide)) (E := fun _ => E0) (fun σ => passC0 σ) (fun _ _ _ _ _ _ us hl => match us, hl with | [_, _], _ => rfl) (pa_cons (pv 2) (pa_cons pe_str pa_nil))))
    (pss_one (ps_expr (pe_g C_at_least (by exact hr.mono (by decide)) (E := fun _ => E0) (fun σ => passC0 σ) (fun _ _ _ _ _ _ us hl => match us, hl with | [_, _, _], _ => rfl) (pa_cons (pv 2) (pa_cons pe_int (pa_cons pe_str pa_nil))))))))
    (pss_one (ps_fld (pv 0) (pe_callTy (callTupOfK (K := K) (by rfl)) (by rfl) T.tuple (by decide +kernel) (pa_cons (pv 1) pa_nil)) rfl)))), ?_⟩
    try dsimp only [L2.cxOf, L2.Cx.nox]
    simp only [L2.start, N_Round___init__, List.map_cons, List.map_nil, List.length_cons, List.length_nil, Nat.reduceAdd, Nat.reduceSub, List.replicate_succ, List.replicate_zero, List.cons_append, List.nil_append]

    walk_at "gos"
    refine Gx.forT [] (fun i σ' H' => ∃ s2, σ' = [some (.ref a), some (.ref t), s2]) ⟨_, rfl⟩ ?_ ?_
    · rintro i x σ' H' hx e ⟨s2, rfl⟩
      obtain ⟨m, hm, rfl⟩ := Gx.map_at hx
      have h3 := h0 m (List.mem_of_getElem? hm)
      walk_at "gos"
      exact Gx.li ⟨_, rfl⟩
    · rintro σ' H' e ⟨s2, rfl⟩
      have ha' := e.keep a _ (by simp) ha
      walk_at "go"
      refine Gx.g_fldS ha' R ?_
      refine k _ (fun b o hb h => ?_) (fun b hb => ?_) upd_same
      · rw [upd_ne hb]; exact e.keep b o (by simp) h
      · refine e.live b ?_
        by_cases z : b = a
        · rw [z, upd_same] at hb; cases hb
        · rw [upd_ne z] at hb; exact hb
/-! ### rounds, plainly -/
/-- the sum of c budgets from s on -/
def win (bs : List Int) (s c : Int) : Int := c / (bs.length : Int) * bs.sum + (((bs ++ bs).drop (s % (bs.length : Int)).toNat).take (c % (bs.length : Int)).toNat).sum
structure RB (bs : List Int) : Prop where
  l1 : 1 ≤ bs.length
  l2 : bs.length ≤ 12
  h0 : ∀ b ∈ bs, 0 ≤ b
  h1 : ∀ b ∈ bs, b < 2 ^ 110
def spWin (C : Addr) : Sp := fun vs H Q _ => ∃ (a : Addr) (bs : List Int) (s c : Int), vs = [.ref a, .int s, .int c] ∧ (RdC C H a bs ∧ RB bs ∧ 0 ≤ s ∧ s < 2 ^ 200 ∧ 0 ≤ c ∧ c < 2 ^ 200) ∧ ∀ H', Ex H H' → Q (.int (win bs s c)) H'
theorem sum_app (a b : List Int) : (a ++ b).sum = a.sum + b.sum := by simp
theorem sum_bd : ∀ {bs : List Int} {m : Int}, (∀ b ∈ bs, 0 ≤ b) → (∀ b ∈ bs, b < m) → 0 ≤ m → 0 ≤ bs.sum ∧ bs.sum ≤ bs.length * m
  | [], m, _, _, h => by simp
  | b :: r, m, h0, h1, h => by
    have h2 := sum_bd (bs := r) (m := m) (fun x hx => h0 x (List.mem_cons_of_mem _ hx)) (fun x hx => h1 x (List.mem_cons_of_mem _ hx)) h
    have h3 := h0 b (List.mem_cons_self ..)
    have h4 := h1 b (List.mem_cons_self ..)
    rw [List.sum_cons, List.length_cons]
    have e : ((r.length + 1 : Nat) : Int) * m = r.length * m + m := by
      rw [show ((r.length + 1 : Nat) : Int) = (r.length : Int) + 1 from rfl, Int.add_mul, Int.one_mul]
    omega
theorem RB.sum {bs : List Int} (h : RB bs) : 0 ≤ bs.sum ∧ bs.sum < 2 ^ 120 := by
  have h2 := sum_bd h.h0 h.h1 (by decide)
  have l2 := h.l2
  have : (bs.length : Int) * 2 ^ 110 ≤ 12 * 2 ^ 110 := Int.mul_le_mul_of_nonneg_right (by omega) (by decide)
  omega
theorem cutI_two {ns : List Int} {i j : Int} (hi : 0 ≤ i) (hj : 0 ≤ j) : Gx.cutI ns (some i) (some (i + j)) = (ns.drop i.toNat).take j.toNat := by
  obtain ⟨a, rfl⟩ : ∃ a : Nat, i = a := ⟨i.toNat, by omega⟩
  obtain ⟨b, rfl⟩ : ∃ b : Nat, j = b := ⟨j.toNat, by omega⟩
  unfold Gx.cutI
  rw [show ((a : Nat) : Int) + ((b : Nat) : Int) = ((a + b : Nat) : Int) from rfl, HT.sIx_nat, HT.sIx_nat, Int.toNat_natCast, Int.toNat_natCast]
  by_cases h : a ≤ ns.length
  · rw [Nat.min_eq_left h]
    by_cases h2 : a + b ≤ ns.length
    · rw [Nat.min_eq_left h2, Nat.add_sub_cancel_left]
    · rw [Nat.min_eq_right (by omega), List.take_of_length_le (by simp), List.take_of_length_le (by simp; omega)]
  · rw [List.drop_eq_nil_of_le (by omega), List.drop_eq_nil_of_le (by omega)]
    simp
theorem cutI_from {ns : List Int} {i : Int} (hi : 0 ≤ i) : Gx.cutI ns (some i) none = ns.drop i.toNat := by
  obtain ⟨a, rfl⟩ : ∃ a : Nat, i = a := ⟨i.toNat, by omega⟩
  unfold Gx.cutI
  rw [HT.sIx_nat, HT.sIx_none, Int.toNat_natCast]
  by_cases h : a ≤ ns.length
  · rw [Nat.min_eq_left h, List.take_of_length_le (by simp)]
  · rw [List.drop_eq_nil_of_le (by omega), List.drop_eq_nil_of_le (by omega)]
    simp
theorem cutI_to {ns : List Int} {i : Int} (hi : 0 ≤ i) : Gx.cutI ns none (some i) = ns.take i.toNat := by
  obtain ⟨a, rfl⟩ : ∃ a : Nat, i = a := ⟨i.toNat, by omega⟩
  unfold Gx.cutI
  rw [HT.sIx_nat, HT.sIx_none, Int.toNat_natCast, List.drop_zero, Nat.sub_zero]
  by_cases h : a ≤ ns.length
  · rw [Nat.min_eq_left h]
  · rw [Nat.min_eq_right (by omega), List.take_of_length_le (Nat.le_refl _), List.take_of_length_le (by omega)]
theorem modb {s n : Int} (h : 0 < n) : 0 ≤ s % n ∧ s % n < n := ⟨Int.emod_nonneg _ (by omega), Int.emod_lt_of_pos _ h⟩
theorem divb {c n : Int} (h : 0 ≤ c) (hn : 0 < n) : 0 ≤ c / n ∧ c / n ≤ c := ⟨Int.ediv_nonneg h (by omega), Int.ediv_le_self _ h⟩
abbrev s_Round__window : Stmt := (inClass (top 25) 13)
abbrev N_Round__window : List Str := ["self", "start", "count", "turns", "rest", "first", "twice"]
theorem sc_Round__window : FnScope N_Round__window ["self", "start", "count"] (defScope s_Round__window) := ⟨rfl, rfl, rfl, by decide +kernel, rfl, by decide +kernel, by decide +kernel⟩
theorem cl_Round__window (T : Bl mg) (R : RdF K mg c_Round) (D : DfM K c_Round "_window" "Round._window" s_Round__window [] [])  : ClM CX0 P w K mg base 3 c_Round "_window" "Round._window" s_Round__window ["self", "start", "count"] [] [] (spWin c_Round) := by
  have nd := sc_Round__window.nd
  refine D.okP sc_Round__window (fun vs H Q E h => ?_) (fun f cdv A outer s H vs Q E hr h => ?_)
  · obtain ⟨a, bs, s, c, rfl, _⟩ := h
    rfl
  · obtain ⟨a, bs, s, c, rfl, ⟨ha, hB, h1, h2, h3, h4⟩, k⟩ := h
    have hu := hu64 hr
    refine ⟨_, (pss_cons (ps_asg (pe_callB callDivmod (by rfl) T.divmod (by decide +kernel) (pa_cons (pv 2) (pa_cons (pe_callB (callLenK (K := K) (by rfl)) (by rfl) T.len (by decide +kernel) (pa_cons (pe_fld (pv 0) rfl) pa_nil)) pa_nil))) (pg_tup rfl (pgs_cons (pg_name (i := 3) nd rfl (Or.inl rfl)) (pgs_cons (pg_name (i := 4) nd rfl (Or.inl rfl)) pgs_nil))))
    (pss_cons (ps_set (i := 5) nd rfl (Or.inl rfl) (pe_op opMod (pv 1) (pe_callB (callLenK (K := K) (by rfl)) (by rfl) T.len (by decide +kernel) (pa_cons (pe_fld (pv 0) rfl) pa_nil))))
    (pss_cons (ps_set (i := 6) nd rfl (Or.inl rfl) (pe_op (opAddK (K := K) (by rfl)) (pe_fld (pv 0) rfl) (pe_fld (pv 0) rfl)))
    (pss_one (ps_ret (pe_op (opAddK (K := K) (by rfl)) (pe_op (opMulK (K := K) (by rfl)) (pv 3) (pe_callB (callSumXK (K := K) (by rfl) rfl) (by rfl) T.sum (by decide +kernel) (pa_cons (pe_fld (pv 0) rfl) pa_nil))) (pe_callB (callSumXK (K := K) (by rfl) rfl) (by rfl) T.sum (by decide +kernel) (pa_cons (pe_slice (slAnyK (K := K) (by rfl)) (pv 6) (po_some (pv 5)) (po_some (pe_op (opAddK (K := K) (by rfl)) (pv 5) (pv 4)))) pa_nil)))))))), ?_⟩
    try dsimp only [L2.cxOf, L2.Cx.nox]
    simp only [L2.start, N_Round__window, List.map_cons, List.map_nil, List.length_cons, List.length_nil, Nat.reduceAdd, Nat.reduceSub, List.replicate_succ, List.replicate_zero, List.cons_append, List.nil_append]

    have l1 := hB.l1
    have l2 := hB.l2
    have hs := hB.sum
    have hm1 := modb (s := s) (n := bs.length) (by omega)
    have hm2 := modb (s := c) (n := bs.length) (by omega)
    have hd := divb (n := bs.length) h3 (by omega)
    walk_at "gos"
    rw [cutI_two hm1.1 hm2.1]
    exact k _ Gx.rel
local macro_rules | `(tactic| walk_at "call") => `(tactic| ((with_reducible show spWin _ _ _ _ _); refine ⟨_, _, _, _, rfl, ⟨inferInstance, by assumption, by omega, by omega, by omega, by omega⟩, ?_⟩; intro H_ e_))
abbrev s_Round_total : Stmt := (inClass (top 25) 9)
abbrev N_Round_total : List Str := ["self", "start", "count"]
theorem sc_Round_total : FnScope N_Round_total ["self", "start", "count"] (defScope s_Round_total) := ⟨rfl, rfl, rfl, by decide +kernel, rfl, by decide +kernel, by decide +kernel⟩
theorem cl_Round_total (T : Bl mg) (R : RdF K mg c_Round) (D : DfM K c_Round "total" "Round.total" s_Round_total [] []) (C_Round__window : ClM CX0 P w K mg base 3 c_Round "_window" "Round._window" s_Round__window ["self", "start", "count"] [] [] (spWin c_Round)) (C_at_least : ClG CX0 P w K mg base 3 "at_least" s_at_least ["value", "least", "field"] [] [] spAtl) : ClM CX0 P w K mg base 5 c_Round "total" "Round.total" s_Round_total ["self", "start", "count"] [] [] (spWin c_Round) := by
  have nd := sc_Round_total.nd
  refine D.okP sc_Round_total (fun vs H Q E h => ?_) (fun f cdv A outer s H vs Q E hr h => ?_)
  · obtain ⟨a, bs, s, c, rfl, _⟩ := h
    rfl
  · obtain ⟨a, bs, s, c, rfl, ⟨ha, hB, h1, h2, h3, h4⟩, k⟩ := h
    have hu := hu64 hr
    refine ⟨_, (pss_cons (ps_expr (pe_g C_at_least (by exact hr.mono (by decide)) (E := fun _ => E0) (fun σ => passC0 σ) (fun _ _ _ _ _ _ us hl => match us, hl with | [_, _, _], _ => rfl) (pa_cons (pv 1) (pa_cons pe_int (pa_cons pe_str pa_nil)))))
    (pss_cons (ps_expr (pe_g C_at_least (by exact hr.mono (by decide)) (E := fun _ => E0) (fun σ => passC0 σ) (fun _ _ _ _ _ _ us hl => match us, hl with | [_, _, _], _ => rfl) (pa_cons (pv 2) (pa_cons pe_int (pa_cons pe_str pa_nil)))))
    (pss_one (ps_ret (pe_m C_Round__window R.c (by exact hr.mono (by decide)) pass0 (fun _ _ _ _ _ _ us hl => match us, hl with | [_, _, _], _ => rfl) (pv 0) (pa_cons (pv 1) (pa_cons (pv 2) pa_nil))))))), ?_⟩
    try dsimp only [L2.cxOf, L2.Cx.nox]
    simp only [L2.start, N_Round_total, List.map_cons, List.map_nil, List.length_cons, List.length_nil, Nat.reduceAdd, Nat.reduceSub, List.replicate_succ, List.replicate_zero, List.cons_append, List.nil_append]

    walk_at "gos"
    exact k _ Gx.rel
def wins (bs : List Int) (c : Int) : List Int := (List.range bs.length).map fun i => win bs (i : Nat) c
def spWins (C : Addr) : Sp := fun vs H Q _ => ∃ (a : Addr) (bs : List Int) (c : Int), vs = [.ref a, .int c] ∧ (RdC C H a bs ∧ RB bs ∧ 0 ≤ c ∧ c < 2 ^ 200) ∧ ∀ p H', Nw H p → Ex H H' → At H' p (.lst ((wins bs c).map V.int)) → Q (.ref p) H'
abbrev s_Round__windows : Stmt := (inClass (top 25) 14)
abbrev N_Round__windows : List Str := ["self", "count", "start"]
theorem sc_Round__windows : FnScope N_Round__windows ["self", "count"] (defScope s_Round__windows) := ⟨rfl, rfl, rfl, by decide +kernel, rfl, by decide +kernel, by decide +kernel⟩
theorem cl_Round__windows (T : Bl mg) (R : RdF K mg c_Round) (D : DfM K c_Round "_windows" "Round._windows" s_Round__windows [] []) (C_Round__window : ClM CX0 P w K mg base 3 c_Round "_window" "Round._window" s_Round__window ["self", "start", "count"] [] [] (spWin c_Round)) : ClM CX0 P w K mg base 5 c_Round "_windows" "Round._windows" s_Round__windows ["self", "count"] [] [] (spWins c_Round) := by
  have nd := sc_Round__windows.nd
  refine D.okP sc_Round__windows (fun vs H Q E h => ?_) (fun f cdv A outer s H vs Q E hr h => ?_)
  · obtain ⟨a, bs, c, rfl, _⟩ := h
    rfl
  · obtain ⟨a, bs, c, rfl, ⟨ha, hB, h3, h4⟩, k⟩ := h
    have hu := hu64 hr
    refine ⟨_, (pss_one (ps_ret (pe_lc (own := [("start", 2)]) (g := gName 2) rfl nd (pi_range1 rfl T.range (pa_cons (pe_callB (callLenK (K := K) (by rfl)) (by rfl) T.len (by decide +kernel) (pa_cons (pe_fld (pv 0) rfl) pa_nil)) pa_nil)) (blkOk_by (own := [("start", 2)]) (N := N_Round__windows) (sc := defScope s_Round__windows) (by decide +kernel)) (fun _ _ _ _ _ => (pg_name (i := 2) nd rfl (Or.inl rfl))) (fun _ _ _ _ _ => pts_nil) (fun _ _ _ _ _ => (pe_m C_Round__window R.c (by exact hr.mono (by decide)) pass0 (fun _ _ _ _ _ _ us hl => match us, hl with | [_, _, _], _ => rfl) (pv 0) (pa_cons (pv 2) (pa_cons (pv 1) pa_nil))))))), ?_⟩
    try dsimp only [L2.cxOf, L2.Cx.nox]
    simp only [L2.start, N_Round__windows, List.map_cons, List.map_nil, List.length_cons, List.length_nil, Nat.reduceAdd, Nat.reduceSub, List.replicate_succ, List.replicate_zero, List.cons_append, List.nil_append]

    have l1 := hB.l1
    have l2 := hB.l2
    walk_at "gos"
    refine Gx.lc1_F (fun i => ((List.range i).map fun i => win bs (i : Nat) c).map V.int) (by omega) rfl (fun i hi => by simp; omega) (fun D i H' hi hD e hp hz => ?_) (fun D H' hD e hp => ?_)
    · walk_at "gos"
      refine ⟨Gx.rel, ?_⟩
      rw [List.range_succ, List.map_append, List.map_append]
      rfl
    · rw [Int.toNat_natCast] at hp
      exact k D H' Gx.new Gx.rel hp
local macro_rules | `(tactic| walk_at "call") => `(tactic| ((with_reducible show spWins _ _ _ _ _); refine ⟨_, _, _, rfl, ⟨inferInstance, by assumption, by omega, by omega⟩, ?_⟩; intro p_ H_ np_ e_ hp_))
/-- the least of a list -/
def IsMin (ns : List Int) (m : Int) : Prop := m ∈ ns ∧ ∀ y ∈ ns, m ≤ y
theorem IsMin.uniq {ns : List Int} {m n : Int} (h : IsMin ns m) (k : IsMin ns n) : m = n := Int.le_antisymm (h.2 n k.1) (k.2 m h.1)
theorem exists_min : ∀ {ns : List Int}, ns ≠ [] → ∃ m, IsMin ns m
  | [], h => absurd rfl h
  | [a], _ => ⟨a, by simp, by simp⟩
  | a :: b :: r, _ => by
    obtain ⟨m, h1, h2⟩ := exists_min (ns := b :: r) (by simp)
    by_cases z : a ≤ m
    · exact ⟨a, List.mem_cons_self .., fun y hy => (List.mem_cons.mp hy).elim (fun e => by omega) (fun e => Int.le_trans z (h2 y e))⟩
    · exact ⟨m, List.mem_cons_of_mem _ h1, fun y hy => (List.mem_cons.mp hy).elim (fun e => by omega) (fun e => h2 y e)⟩
theorem wins_ne {bs : List Int} {c : Int} (h : RB bs) : wins bs c ≠ [] := by
  intro e
  have := congrArg List.length e
  have l1 := h.l1
  simp [wins] at this
  rw [this] at l1
  simp at l1
noncomputable def least (bs : List Int) (c : Int) : Int := Classical.epsilon fun m => IsMin (wins bs c) m
theorem least_is {bs : List Int} {c : Int} (h : RB bs) : IsMin (wins bs c) (least bs c) := Classical.epsilon_spec (exists_min (wins_ne h))
theorem least_eq {bs : List Int} {c m : Int} (h : RB bs) (k : IsMin (wins bs c) m) : m = least bs c := k.uniq (least_is h)
theorem g_min {K : PySem.W.Frag} {H : Hp} {Q : VK} {p : Addr} {ns : List Int} [h : SqC K H p (ns.map V.int)] (h0 : 0 < ns.length) (q : ∀ m, IsMin ns m → Q (.int m) H) : rMin K [.ref p] H Q := ⟨p, ns, rfl, h.sq, h0, fun m h1 h2 => q m ⟨h1, h2⟩⟩
theorem wins_len {bs : List Int} {c : Int} : (wins bs c).length = bs.length := by simp [wins]
def spLst (C : Addr) : Sp := fun vs H Q _ => ∃ (a : Addr) (bs : List Int) (c : Int), vs = [.ref a, .int c] ∧ (RdC C H a bs ∧ RB bs ∧ 0 ≤ c ∧ c < 2 ^ 200) ∧ ∀ H', Ex H H' → Q (.int (least bs c)) H'
abbrev s_Round_least : Stmt := (inClass (top 25) 10)
abbrev N_Round_least : List Str := ["self", "count"]
theorem sc_Round_least : FnScope N_Round_least ["self", "count"] (defScope s_Round_least) := ⟨rfl, rfl, rfl, by decide +kernel, rfl, by decide +kernel, by decide +kernel⟩
theorem cl_Round_least (T : Bl mg) (R : RdF K mg c_Round) (D : DfM K c_Round "least" "Round.least" s_Round_least [] []) (C_Round__windows : ClM CX0 P w K mg base 5 c_Round "_windows" "Round._windows" s_Round__windows ["self", "count"] [] [] (spWins c_Round)) (C_at_least : ClG CX0 P w K mg base 3 "at_least" s_at_least ["value", "least", "field"] [] [] spAtl) : ClM CX0 P w K mg base 7 c_Round "least" "Round.least" s_Round_least ["self", "count"] [] [] (spLst c_Round) := by
  have nd := sc_Round_least.nd
  refine D.okP sc_Round_least (fun vs H Q E h => ?_) (fun f cdv A outer s H vs Q E hr h => ?_)
  · obtain ⟨a, bs, c, rfl, _⟩ := h
    rfl
  · obtain ⟨a, bs, c, rfl, ⟨ha, hB, h3, h4⟩, k⟩ := h
    have hu := hu64 hr
    refine ⟨_, (pss_cons (ps_expr (pe_g C_at_least (by exact hr.mono (by decide)) (E := fun _ => E0) (fun σ => passC0 σ) (fun _ _ _ _ _ _ us hl => match us, hl with | [_, _, _], _ => rfl) (pa_cons (pv 1) (pa_cons pe_int (pa_cons pe_str pa_nil)))))
    (pss_one (ps_ret (pe_callB (callMinK (K := K) (by rfl) rfl) (by rfl) T.min (by decide +kernel) (pa_cons (pe_m C_Round__windows R.c (by exact hr.mono (by decide)) pass0 (fun _ _ _ _ _ _ us hl => match us, hl with | [_, _], _ => rfl) (pv 0) (pa_cons (pv 1) pa_nil)) pa_nil))))), ?_⟩
    try dsimp only [L2.cxOf, L2.Cx.nox]
    simp only [L2.start, N_Round_least, List.map_cons, List.map_nil, List.length_cons, List.length_nil, Nat.reduceAdd, Nat.reduceSub, List.replicate_succ, List.replicate_zero, List.cons_append, List.nil_append]

    have l1 := hB.l1
    walk_at "gos"
    refine g_min (by rw [wins_len]; omega) fun m hm => ?_
    rw [least_eq hB hm]
    exact k _ Gx.rel
local macro_rules | `(tactic| walk_at "call") => `(tactic| ((with_reducible show spLst _ _ _ _ _); refine ⟨_, _, _, rfl, ⟨inferInstance, by assumption, by omega, by omega⟩, ?_⟩; intro H_ e_))

/-- the first place of m -/
def FirstIx (ns : List Int) (m : Int) (j : Nat) : Prop := ns[j]? = some m ∧ ∀ i, i < j → ns[i]? ≠ some m
theorem FirstIx.uniq {ns : List Int} {m : Int} {i j : Nat} (h : FirstIx ns m i) (k : FirstIx ns m j) : i = j := by
  rcases Nat.lt_trichotomy i j with z | z | z
  · exact absurd h.1 (k.2 i z)
  · exact z
  · exact absurd k.1 (h.2 j z)
theorem firstIx_ex : ∀ {ns : List Int} {m : Int}, m ∈ ns → ∃ j, FirstIx ns m j
  | [], m, h => by cases h
  | a :: r, m, h => by
    by_cases z : a = m
    · exact ⟨0, by rw [z]; rfl, fun i hi => absurd hi (Nat.not_lt_zero _)⟩
    · obtain ⟨j, h1, h2⟩ := firstIx_ex (ns := r) (m := m) ((List.mem_cons.mp h).resolve_left fun e => z e.symm)
      refine ⟨j + 1, h1, fun i hi => ?_⟩
      cases i with
      | zero => intro e; exact z (Option.some.inj e)
      | succ i => exact h2 i (by omega)
theorem g_index {K : PySem.W.Frag} {H : Hp} {Q : VK} {p : Addr} {ns : List Int} {m : Int} [h : SqC K H p (ns.map V.int)] (hm : m ∈ ns) (q : ∀ j, FirstIx ns m j → Q (.int (j : Nat)) H) : rIndex K (.ref p) [.int m] H Q := by
  obtain ⟨j, h1, h2⟩ := firstIx_ex hm
  refine ⟨p, ns.map V.int, .int m, j, .int m, rfl, rfl, h.sq, rfl, ?_, by rw [List.getElem?_map, h1]; rfl, by simp [eqV], fun i z hi hz => ?_, q j ⟨h1, h2⟩⟩
  · rw [List.all_map]
    exact List.all_eq_true.mpr fun _ _ => rfl
  · rw [List.getElem?_map] at hz
    cases e : ns[i]? with
    | none => rw [e] at hz; cases hz
    | some v =>
      rw [e] at hz
      cases hz
      show (v == m) = false
      rw [beq_eq_false_iff_ne]
      intro x
      rw [x] at e
      exact h2 i hi e
def spWst (C : Addr) : Sp := fun vs H Q _ => ∃ (a : Addr) (bs : List Int) (c : Int), vs = [.ref a, .int c] ∧ (RdC C H a bs ∧ RB bs ∧ 0 ≤ c ∧ c < 2 ^ 200) ∧ ∀ j H', Ex H H' → FirstIx (wins bs c) (least bs c) j → Q (.int (j : Nat)) H'
local macro_rules | `(tactic| walk_at "call") => `(tactic| ((with_reducible show spWst _ _ _ _ _); refine ⟨_, _, _, rfl, ⟨inferInstance, by assumption, by omega, by omega⟩, ?_⟩; intro j_ H_ e_ hj_))
theorem win_round {bs : List Int} {s c t : Int} (h : RB bs) : win bs s (t * bs.length + c) = t * bs.sum + win bs s c := by
  have l1 := h.l1
  unfold win
  rw [show t * (bs.length : Int) + c = c + (bs.length : Int) * t from by rw [Int.mul_comm, Int.add_comm], Int.add_mul_ediv_left _ _ (by omega), Int.add_mul_emod_self_left, Int.add_mul, ← Int.add_assoc, Int.add_comm (c / (bs.length : Int) * bs.sum)]
theorem wins_round {bs : List Int} {c t : Int} (h : RB bs) : wins bs (t * bs.length + c) = (wins bs c).map fun x => t * bs.sum + x := by
  unfold wins
  rw [List.map_map]
  exact List.map_congr_left fun i _ => win_round h
theorem least_round {bs : List Int} {c t : Int} (h : RB bs) : least bs (t * bs.length + c) = t * bs.sum + least bs c := by
  refine (least_eq h ?_).symm
  rw [wins_round h]
  obtain ⟨h1, h2⟩ := least_is (c := c) h
  refine ⟨List.mem_map.mpr ⟨_, h1, rfl⟩, fun y hy => ?_⟩
  obtain ⟨x, hx, rfl⟩ := List.mem_map.mp hy
  have := h2 x hx
  omega
theorem win_zero {bs : List Int} {s : Int} : win bs s 0 = 0 := by simp [win]
theorem least_zero {bs : List Int} (h : RB bs) : least bs 0 = 0 := by
  obtain ⟨h1, h2⟩ := least_is (c := 0) h
  obtain ⟨i, _, hi⟩ := List.mem_map.mp h1
  rw [← hi, win_zero]
theorem least_len {bs : List Int} (h : RB bs) : least bs bs.length = bs.sum := by
  have e := least_round (t := 1) (c := 0) h
  rw [least_zero h] at e
  simpa using e
/-- reach's answer: what it must satisfy -/
def spReach (C : Addr) : Sp := fun vs H Q _ => ∃ (a : Addr) (bs : List Int) (n : Int), vs = [.ref a, .int n] ∧ (RdC C H a bs ∧ RB bs ∧ -(2 ^ 140) < n ∧ n < 2 ^ 140) ∧ (n ≤ 0 → Q (.int 0) H) ∧ (0 < n → bs.sum = 0 → Q .non H) ∧
  (0 < n → bs.sum ≠ 0 → ∀ r H', Ex H H' → 1 ≤ r → r < 2 ^ 150 → n ≤ least bs r → least bs (r - 1) < n → Q (.int r) H')
local macro_rules | `(tactic| walk_at "call") => `(tactic| ((with_reducible show spReach _ _ _ _ _); refine ⟨_, _, _, rfl, ⟨inferInstance, by assumption, by omega, by omega⟩, fun hA => ?_, fun hA hB => ?_, fun hA hB r_ H_ e_ h1_ h2_ h3_ h4_ => ?_⟩))
def nth (bs : List Int) (t : Int) : Int := bs.getD (t % (bs.length : Int)).toNat 0
def spAt (C : Addr) : Sp := fun vs H Q _ => ∃ (a : Addr) (bs : List Int) (t : Int), vs = [.ref a, .int t] ∧ (RdC C H a bs ∧ RB bs ∧ 0 ≤ t) ∧ Q (.int (nth bs t)) H
abbrev s_Round_at : Stmt := (inClass (top 25) 7)
abbrev N_Round_at : List Str := ["self", "t"]
theorem sc_Round_at : FnScope N_Round_at ["self", "t"] (defScope s_Round_at) := ⟨rfl, rfl, rfl, by decide +kernel, rfl, by decide +kernel, by decide +kernel⟩
theorem cl_Round_at (T : Bl mg) (R : RdF K mg c_Round) (D : DfM K c_Round "at" "Round.at" s_Round_at [] []) (C_at_least : ClG CX0 P w K mg base 3 "at_least" s_at_least ["value", "least", "field"] [] [] spAtl) : ClM CX0 P w K mg base 5 c_Round "at" "Round.at" s_Round_at ["self", "t"] [] [] (spAt c_Round) := by
  have nd := sc_Round_at.nd
  refine D.okP sc_Round_at (fun vs H Q E h => ?_) (fun f cdv A outer s H vs Q E hr h => ?_)
  · obtain ⟨a, bs, t, rfl, _⟩ := h
    rfl
  · obtain ⟨a, bs, t, rfl, ⟨ha, hB, h3⟩, k⟩ := h
    have hu := hu64 hr
    refine ⟨_, (pss_cons (ps_expr (pe_g C_at_least (by exact hr.mono (by decide)) (E := fun _ => E0) (fun σ => passC0 σ) (fun _ _ _ _ _ _ us hl => match us, hl with | [_, _, _], _ => rfl) (pa_cons (pv 1) (pa_cons pe_int (pa_cons pe_str pa_nil)))))
    (pss_one (ps_ret (pe_ix (ixSeqK (K := K) (by rfl)) (pe_fld (pv 0) rfl) (pe_op opMod (pv 1) (pe_callB (callLenK (K := K) (by rfl)) (by rfl) T.len (by decide +kernel) (pa_cons (pe_fld (pv 0) rfl) pa_nil))) (fun _ _ => rfl))))), ?_⟩
    try dsimp only [L2.cxOf, L2.Cx.nox]
    simp only [L2.start, N_Round_at, List.map_cons, List.map_nil, List.length_cons, List.length_nil, Nat.reduceAdd, Nat.reduceSub, List.replicate_succ, List.replicate_zero, List.cons_append, List.nil_append]

    have l1 := hB.l1
    have hm := modb (s := t) (n := bs.length) (by omega)
    walk_at "gos"
    exact k
local macro_rules | `(tactic| walk_at "call") => `(tactic| ((with_reducible show spAt _ _ _ _ _); refine ⟨_, _, _, rfl, ⟨inferInstance, by assumption, by omega⟩, ?_⟩))
def turn (bs : List Int) (f : Int) : List Int := bs.drop (f % (bs.length : Int)).toNat ++ bs.take (f % (bs.length : Int)).toNat
theorem turn_mem {bs : List Int} {f x : Int} (h : x ∈ turn bs f) : x ∈ bs := (List.mem_append.mp h).elim List.mem_of_mem_drop List.mem_of_mem_take
theorem turn_len {bs : List Int} {f : Int} : (turn bs f).length = bs.length := by
  unfold turn
  rw [List.length_append, List.length_drop, List.length_take]
  omega
theorem RB.turn {bs : List Int} {f : Int} (h : RB bs) : RB (turn bs f) := ⟨by rw [turn_len]; exact h.l1, by rw [turn_len]; exact h.l2, fun b hb => h.h0 b (turn_mem hb), fun b hb => h.h1 b (turn_mem hb)⟩
def spShift (C : Addr) : Sp := fun vs H Q _ => ∃ (a : Addr) (bs : List Int) (f : Int), vs = [.ref a, .int f] ∧ (RdC C H a bs ∧ RB bs ∧ 0 ≤ f) ∧ ∀ b H', Nw H b → Ex H H' → RdC C H' b (turn bs f) → Q (.ref b) H'
local macro_rules | `(tactic| walk_at "call") => `(tactic| ((with_reducible show spShift _ _ _ _ _); refine ⟨_, _, _, rfl, ⟨inferInstance, by assumption, by omega⟩, ?_⟩; intro b_ H_ np_ e_ hb_))
def spBud (C : Addr) : Sp := fun vs H Q _ => ∃ (a : Addr) (bs : List Int), vs = [.ref a] ∧ RdC C H a bs ∧ ∀ b H', Nw H b → Ex H H' → At H' b (.lst (bs.map V.int)) → Q (.ref b) H'
abbrev s_Round_budgets : Stmt := (inClass (top 25) 3)
abbrev N_Round_budgets : List Str := ["self"]
theorem sc_Round_budgets : FnScope N_Round_budgets ["self"] (defScope s_Round_budgets) := ⟨rfl, rfl, rfl, by decide +kernel, rfl, by decide +kernel, by decide +kernel⟩
theorem cl_Round_budgets (T : Bl mg) (R : RdF K mg c_Round) (D : DfP K c_Round "budgets" "Round.budgets" s_Round_budgets)  : ClP CX0 P w K mg base 3 c_Round "budgets" "Round.budgets" s_Round_budgets (spBud c_Round) := by
  have nd := sc_Round_budgets.nd
  refine D.okP sc_Round_budgets (fun vs H Q E h => ?_) (fun f cdv A outer s H vs Q E hr h => ?_)
  · obtain ⟨a, bs, rfl, _⟩ := h
    rfl
  · obtain ⟨a, bs, rfl, ha, k⟩ := h
    have hu := hu64 hr
    refine ⟨_, (pss_one (ps_ret (pe_callTy (callListOfK (K := K) (by rfl)) (by rfl) T.list (by decide +kernel) (pa_cons (pe_fld (pv 0) rfl) pa_nil)))), ?_⟩
    try dsimp only [L2.cxOf, L2.Cx.nox]
    simp only [L2.start, N_Round_budgets, List.map_cons, List.map_nil, List.length_cons, List.length_nil, Nat.reduceAdd, Nat.reduceSub, List.replicate_succ, List.replicate_zero, List.cons_append, List.nil_append]

    walk_at "gos"
    exact k _ _ Gx.new Gx.rel (by assumption)
local macro_rules | `(tactic| walk_at "call") => `(tactic| ((with_reducible show spBud _ _ _ _ _); refine ⟨_, _, rfl, inferInstance, ?_⟩; intro b_ H_ np_ e_ hb_))
def spRadd (C : Addr) : Sp := fun vs H Q _ => ∃ (a b : Addr) (bs cs : List Int), vs = [.ref a, .ref b] ∧ (RdC C H a bs ∧ RdC C H b cs ∧ RB (bs ++ cs)) ∧ ∀ d H', Nw H d → Ex H H' → RdC C H' d (bs ++ cs) → Q (.ref d) H'
abbrev s_Round___add__ : Stmt := (inClass (top 25) 6)
abbrev N_Round___add__ : List Str := ["self", "other", "joined"]
theorem sc_Round___add__ : FnScope N_Round___add__ ["self", "other"] (defScope s_Round___add__) := ⟨rfl, rfl, rfl, by decide +kernel, rfl, by decide +kernel, by decide +kernel⟩
theorem cl_Round___add__ (T : Bl mg) (R : RdF K mg c_Round) (D : DfM K c_Round "__add__" "Round.__add__" s_Round___add__ [] []) (C_Round___init__ : ClI CX0 P w K mg base 5 c_Round) : ClM CX0 P w K mg base 7 c_Round "__add__" "Round.__add__" s_Round___add__ ["self", "other"] [] [] (spRadd c_Round) := by
  have nd := sc_Round___add__.nd
  refine D.okP sc_Round___add__ (fun vs H Q E h => ?_) (fun f cdv A outer s H vs Q E hr h => ?_)
  · obtain ⟨a, b, bs, cs, rfl, _⟩ := h
    rfl
  · obtain ⟨a, b, bs, cs, rfl, ⟨ha, hb, hB⟩, k⟩ := h
    have hu := hu64 hr
    refine ⟨_, (pss_cons (ps_if (pt_not (pt_val (pe_callB (callIsiK (K := K) (by rfl)) (by rfl) T.isinstance (by decide +kernel) (pa_cons (pv 1) (pa_cons (pe_glob (v := .ref c_Round) (u := .ref c_Round) (by rfl) R.g rfl) pa_nil)))))
      (pss_one ps_never)
      pss_nil)
    (pss_cons (ps_set (i := 2) nd rfl (Or.inl rfl) (pe_op (opAddK (K := K) (by rfl)) (pe_fld (pv 0) rfl) (pe_fld (pv 1) rfl)))
    (pss_one (ps_ret (pe_mkS (K := K) (by rfl) C_Round___init__ (by exact hr.mono (by decide)) (by rfl) R.g pass0 (pv 2)))))), ?_⟩
    try dsimp only [L2.cxOf, L2.Cx.nox]
    simp only [L2.start, N_Round___add__, List.map_cons, List.map_nil, List.length_cons, List.length_nil, Nat.reduceAdd, Nat.reduceSub, List.replicate_succ, List.replicate_zero, List.cons_append, List.nil_append]

    have l1 := hB.l1
    have l2 := hB.l2
    have l3 := List.length_append (as := bs) (bs := cs)
    have h0 := hB.h0
    walk_at "gos"
    exact k _ _ Gx.new Gx.rel (by assumption)
local macro_rules | `(tactic| walk_at "call") => `(tactic| ((with_reducible show spRadd _ _ _ _ _); refine ⟨_, _, _, _, rfl, ⟨inferInstance, inferInstance, by assumption⟩, ?_⟩; intro d_ H_ np_ e_ hd_))

variable {c_RingLog : Addr}
variable {c_Ring : Addr}
/-- a record: key, value, living, the readers that see it -/
structure En where
  k : Str
  v : Int
  l : Bool
  rs : List Int
def En.need (e : En) : Bool := e.l || decide (0 < e.rs.length)
/-- without the dead records at the tail -/
def trimL (L : List En) : List En := L.dropWhile fun e => !e.need
class EntC (H : Hp) (p : Addr) (e : outParam En) : Prop where
  ex : ∃ r, H p = some (.lst [.str e.k, .int e.v, .bl e.l, .ref r]) ∧ H r = some (.lst (e.rs.map V.int))
section
variable {K : PySem.W.Frag} {H H0 H1 H2 : Hp} {Q : VK} {C p a e : Addr} {en : En} {L : List En} {ps bs : List Addr} {mg : Str → Option Value}
instance (priority := low) entStep [r : Chg [] H1 H] [h : EntC H1 p en] : EntC H p en := ⟨by
  obtain ⟨q, h1, h2⟩ := h.ex
  exact ⟨q, r.keep _ _ (by simp) h1, r.keep _ _ (by simp) h2⟩⟩
theorem EntC.sq (h : EntC H p en) : ∃ r, SqC K H p [.str en.k, .int en.v, .bl en.l, .ref r] ∧ At H r (.lst (en.rs.map V.int)) := by
  obtain ⟨q, h1, h2⟩ := h.ex
  have h1 : At H p _ := ⟨h1⟩
  exact ⟨q, inferInstance, ⟨h2⟩⟩
theorem g_e0 [h : EntC H p en] (q : Q (.str en.k) H) : rIx K (.ref p) (.int 0) H Q := by
  obtain ⟨r, h1, h2⟩ := h.sq (K := K)
  exact Gx.g_ixN (n := 0) rfl q
theorem g_e1 [h : EntC H p en] (q : Q (.int en.v) H) : rIx K (.ref p) (.int 1) H Q := by
  obtain ⟨r, h1, h2⟩ := h.sq (K := K)
  exact Gx.g_ixN (n := 1) rfl q
theorem g_e2 [h : EntC H p en] (q : Q (.bl en.l) H) : rIx K (.ref p) (.int 2) H Q := by
  obtain ⟨r, h1, h2⟩ := h.sq (K := K)
  exact Gx.g_ixN (n := 2) rfl q
theorem g_e3 [h : EntC H p en] (q : ∀ r, At H r (.lst (en.rs.map V.int)) → Q (.ref r) H) : rIx K (.ref p) (.int 3) H Q := by
  obtain ⟨r, h1, h2⟩ := h.sq (K := K)
  exact Gx.g_ixN (n := 3) rfl (q r h2)
/-- the list at e has these records -/
class RowsC (H : Hp) (e : Addr) (ps : outParam (List Addr)) (L : outParam (List En)) : Prop where
  lst : H e = some (.lst (ps.map V.ref))
  len : ps.length = L.length
  ent : ∀ (i : Nat) p, ps[i]? = some p → ∃ en, L[i]? = some en ∧ EntC H p en
instance (priority := low) rowsStep [r : Chg [] H1 H] [h : RowsC H1 e ps L] : RowsC H e ps L := ⟨r.keep _ _ (by simp) h.lst, h.len, fun i p hp => by
  obtain ⟨en, h1, h2⟩ := h.ent i p hp
  exact ⟨en, h1, inferInstance⟩⟩
instance rowsAt [h : RowsC H e ps L] : At H e (.lst (ps.map V.ref)) := ⟨h.lst⟩
theorem RowsC.get (h : RowsC H e ps L) {i : Nat} {en : En} (hi : L[i]? = some en) : ∃ p, ps[i]? = some p ∧ EntC H p en := by
  have hl := (List.getElem?_eq_some_iff.mp hi).1
  have hp : ps[i]? = some (ps[i]'(by rw [h.len]; exact hl)) := List.getElem?_eq_getElem _
  obtain ⟨en2, h1, h2⟩ := h.ent i _ hp
  rw [hi] at h1
  cases h1
  exact ⟨_, hp, h2⟩
/-- the log at a has these records -/
class LogC (C : outParam Addr) (H : Hp) (a : Addr) (L : outParam (List En)) : Prop where
  ex : ∃ e ps, InC C [(("entries" : Str), .ref e)] H a ∧ RowsC H e ps L
instance (priority := low) logStep [r : Chg [] H1 H] [h : LogC C H1 a L] : LogC C H a L := ⟨by
  obtain ⟨e, ps, h1, h2⟩ := h.ex
  exact ⟨e, ps, inferInstance, inferInstance⟩⟩
/-- .. and nothing of it was there at H0 -/
class LogF (C : outParam Addr) (H0 : outParam Hp) (H : Hp) (a : Addr) (L : outParam (List En)) : Prop where
  grow : Chg [] H0 H
  ex : ∃ e ps, InC C [(("entries" : Str), .ref e)] H a ∧ RowsC H e ps L ∧ H0 a = none ∧ H0 e = none ∧ (∀ p ∈ ps, H0 p = none) ∧ ps.Nodup
instance (priority := low) logfStep [r : Chg [] H1 H] [h : LogF C H0 H1 a L] : LogF C H0 H a L := ⟨Chg.trans h.grow r, by
  obtain ⟨e, ps, h1, h2, h3⟩ := h.ex
  exact ⟨e, ps, inferInstance, inferInstance, h3⟩⟩
instance (priority := low) logOfF [h : LogF C H0 H a L] : LogC C H a L := ⟨by
  obtain ⟨e, ps, h1, h2, h3⟩ := h.ex
  exact ⟨e, ps, h1, h2⟩⟩
/-- what is new since H0 may change -/
theorem exNew (h : Chg [] H0 H) (n : ∀ b ∈ bs, H0 b = none) (r : Chg bs H H2) : Chg [] H0 H2 :=
  ⟨fun a o _ e => r.keep a o (fun hb => by rw [n a hb] at e; cases e) (h.keep a o (by simp) e), fun a e => h.live a (r.live a e), fun a o i e => r.imm a o i (h.imm a o i e)⟩
end
local macro_rules | `(tactic| walk_at "call") => `(tactic| first
  | ((with_reducible show L2.rIx _ _ _ _ _); refine g_e0 ?_)
  | ((with_reducible show L2.rIx _ _ _ _ _); refine g_e1 ?_)
  | ((with_reducible show L2.rIx _ _ _ _ _); refine g_e2 ?_)
  | ((with_reducible show L2.rIx _ _ _ _ _); refine g_e3 ?_; intro r_ hr_))
theorem strNe : ("entries" : Str) ≠ "_budgets" := by decide +kernel
theorem nbE {e : Addr} : ∀ t, [(("entries" : Str), V.ref e)] ≠ [(("_budgets" : Str), V.ref t)] := fun t z => strNe (Prod.mk.inj (List.cons.inj z).1).1
theorem nbN : ∀ t, ([] : List (Str × V)) ≠ [(("_budgets" : Str), V.ref t)] := fun t z => nomatch z
def spNdd : Sp := fun vs H Q _ => ∃ (p : Addr) (en : En), vs = [.ref p] ∧ EntC H p en ∧ Q (.bl en.need) H
abbrev s_is_needed : Stmt := (top 20)
abbrev N_is_needed : List Str := ["entry"]
theorem sc_is_needed : FnScope N_is_needed ["entry"] (defScope s_is_needed) := ⟨rfl, rfl, rfl, by decide +kernel, rfl, by decide +kernel, by decide +kernel⟩
theorem cl_is_needed (T : Bl mg) (R : RdF K mg c_Round) (W_RingLog : Gx.ClsF K mg c_RingLog "RingLog" ["entries"]) (W_Ring : Gx.ClsF K mg c_Ring "Ring" ["_places", "_limit", "_budgets", "_late", "_readers", "_log", "_done", "_phase", "_carried", "_last_wait", "_opened", "_open"]) (N_KEY : Gx.GlI mg "KEY" 0) (N_VALUE : Gx.GlI mg "VALUE" 1) (N_LIVING : Gx.GlI mg "LIVING" 2) (N_READERS : Gx.GlI mg "READERS" 3) (D : DfG K mg "is_needed" s_is_needed [] [])  : ClG CX0 P w K mg base 3 "is_needed" s_is_needed ["entry"] [] [] spNdd := by
  have nd := sc_is_needed.nd
  refine D.okP sc_is_needed (fun vs H Q E h => ?_) (fun f cdv A outer s H vs Q E hr h => ?_)
  · obtain ⟨p, en, rfl, _⟩ := h
    rfl
  · obtain ⟨p, en, rfl, hp, k⟩ := h
    have hu := hu64 hr
    refine ⟨_, (pss_one (ps_ret (pe_or (pe_ix (ixSeqK (K := K) (by rfl)) (pv 0) (pe_gI N_LIVING) (fun _ _ => rfl)) (pe_one (pe_cmpR opGt (pe_callB (callLenK (K := K) (by rfl)) (by rfl) T.len (by decide +kernel) (pa_cons (pe_ix (ixSeqK (K := K) (by rfl)) (pv 0) (pe_gI N_READERS) (fun _ _ => rfl)) pa_nil)) pe_int (nomark _)))))), ?_⟩
    try dsimp only [L2.cxOf, L2.Cx.nox]
    simp only [L2.start, N_is_needed, List.map_cons, List.map_nil, List.length_cons, List.length_nil, Nat.reduceAdd, Nat.reduceSub, List.replicate_succ, List.replicate_zero, List.cons_append, List.nil_append]

    unfold En.need at k
    have e0 : decide ((0 : Int) < ((en.rs.length : Nat) : Int)) = decide (0 < en.rs.length) := by
      rw [decide_eq_decide]
      omega
    walk_at "gos"
    · rename_i hI
      rw [hI] at k
      exact k
    · rename_i hI _ _
      rw [show en.l = false from by simpa using hI, Bool.false_or] at k
      rw [e0]
      exact k
local macro_rules | `(tactic| walk_at "call") => `(tactic| first
  | ((with_reducible show spNdd _ _ _ _); refine ⟨_, _, rfl, by infer_instance, ?_⟩)
  | ((with_reducible show Gx.rFldS _ _ _ _ _ _ _); refine Gx.g_fldSI (Gx.ClsF.c (by assumption)) (Gx.ClsF.nf (by assumption) _ (by simp)) (by first | decide | simp) (by first | exact nbE | exact nbN | simp) ?_; intro H_ e_ hx_)
  | ((with_reducible show Gx.rMeth _ _ _ _ _ _ _ _ _ _); refine Gx.g_rmethI (by first | rfl | decide) ?_)
  | ((with_reducible show Gx.rFld _ _ _ _ _); refine Gx.g_fldI (Gx.ClsF.c (by assumption)) (Gx.ClsF.nf (by assumption) _ (by simp)) rfl ?_))
theorem trimL_drop {L : List En} {d : Nat} (hd : d ≤ L.length) (h : ∀ j en, j < d → L[j]? = some en → en.need = false) (he : ∀ en, L[d]? = some en → en.need = true) : trimL L = L.drop d := by
  induction L generalizing d with
  | nil => simp [trimL]
  | cons x r ih =>
    cases d with
    | zero =>
      have hx := he x rfl
      simp [trimL, List.dropWhile_cons, hx]
    | succ d =>
      have hx := h 0 x (Nat.succ_pos _) rfl
      have e : trimL (x :: r) = trimL r := by simp [trimL, List.dropWhile_cons, hx]
      rw [e, List.drop_succ_cons]
      exact ih (by simpa using hd) (fun j en hj hg => h (j + 1) en (by omega) (by simpa using hg)) fun en hg => he en (by simpa using hg)
section
variable {H H0 H1 H2 : Hp} {C p a e e' : Addr} {en : En} {L : List En} {ps bs : List Addr} {o : HO}
theorem entKeep (h : EntC H p en) (r : Chg [a] H H2) (hp : ∀ xs, H a ≠ some (.lst xs)) : EntC H2 p en := by
  obtain ⟨q, h1, h2⟩ := h.ex
  exact ⟨q, r.keep _ _ (by simp; rintro rfl; exact hp _ h1) h1, r.keep _ _ (by simp; rintro rfl; exact hp _ h2) h2⟩
theorem rowsKeep (h : RowsC H e ps L) (r : Chg [a] H H2) (hp : ∀ xs, H a ≠ some (.lst xs)) : RowsC H2 e ps L := ⟨r.keep _ _ (by simp; rintro rfl; exact hp _ h.lst) h.lst, h.len, fun i p hi => by
  obtain ⟨en, h1, h2⟩ := h.ent i p hi
  exact ⟨en, h1, entKeep h2 r hp⟩⟩
theorem rowsDrop (h : RowsC H e ps L) {d : Nat} (he : H e' = some (.lst ((ps.drop d).map V.ref))) : RowsC H e' (ps.drop d) (L.drop d) := ⟨he, by rw [List.length_drop, List.length_drop, h.len], fun i p hi => by
  rw [List.getElem?_drop] at hi ⊢
  exact h.ent _ p hi⟩
theorem cutV_from {xs : List V} {d : Nat} : cutV xs (some (d : Int)) none = xs.drop d := by
  unfold cutV
  rw [HT.sIx_nat, HT.sIx_none]
  by_cases h : d ≤ xs.length
  · rw [Nat.min_eq_left h, List.take_of_length_le (by simp)]
  · rw [List.drop_eq_nil_of_le (by omega), List.drop_eq_nil_of_le (by omega)]
    simp
end
theorem exTrm {C a e e' dx : Addr} {H0 H H1 H2 H3 : Hp} {L : List En} {ps : List Addr} {d : Nat} {Q : VK} (hF : LogF C H0 H a L) (h1 : InC C [(("entries" : Str), .ref e)] H a) (h2 : RowsC H e ps L) (n1 : H0 a = none) (n3 : ∀ p ∈ ps, H0 p = none) (hnd : ps.Nodup)
    (e1 : Chg [] H H1) (nq : Nw H1 e') (e2 : Chg [] H1 H2) (hq : At H2 e' (.lst ((ps.drop d).map V.ref))) (e3 : Chg [a] H2 H3) (hx : At H3 a (.ins C dx (putF "entries" (.ref e') [(("entries" : Str), .ref e)]))) (hd : trimL L = L.drop d)
    (k : ∀ H', Ex H0 H' → LogF C H0 H' a (trimL L) → Q .non H') : Q .non H3 := by
  obtain ⟨dx2, h1⟩ := h1.ex
  have g2 : Chg [] H0 H2 := (hF.grow.trans e1).trans e2
  have ha2 : H2 a = some (.ins C dx2 [(("entries" : Str), .ref e)]) := e2.keep _ _ (by simp) (e1.keep _ _ (by simp) h1)
  have hno : ∀ xs, H2 a ≠ some (.lst xs) := fun xs z => by rw [ha2] at z; cases z
  have g3 : Chg [] H0 H3 := exNew g2 (fun b hb => by rw [List.mem_singleton.mp hb]; exact n1) e3
  have hr : RowsC H2 e ps L := rowsStep (r := e2) (h := rowsStep (r := e1) (h := h2))
  refine k H3 g3 ⟨g3, e', ps.drop d, ?_, ?_, n1, ?_, fun p hp => n3 p (List.mem_of_mem_drop hp), hnd.sublist (List.drop_sublist _ _)⟩
  · have hx := hx.eq
    rw [show putF ("entries" : Str) (V.ref e') [(("entries" : Str), V.ref e)] = [(("entries" : Str), V.ref e')] from by simp [putF]] at hx
    exact ⟨⟨_, hx⟩⟩
  · rw [hd]
    exact rowsKeep (rowsDrop hr hq.eq) e3 hno
  · exact (hF.grow.trans e1).live _ nq.eq
/-- the log at a, new since H0, is trimmed -/
def spTrm (C : Addr) : Sp := fun vs H Q _ => ∃ (a : Addr) (H0 : Hp) (L : List En), vs = [.ref a] ∧ (LogF C H0 H a L ∧ L.length ≤ 1000) ∧ ∀ H', Ex H0 H' → LogF C H0 H' a (trimL L) → Q .non H'
abbrev s_RingLog_trim : Stmt := (inClass (top 21) 1)
abbrev N_RingLog_trim : List Str := ["self", "dead"]
theorem sc_RingLog_trim : FnScope N_RingLog_trim ["self"] (defScope s_RingLog_trim) := ⟨rfl, rfl, rfl, by decide +kernel, rfl, by decide +kernel, by decide +kernel⟩
theorem cl_RingLog_trim (T : Bl mg) (R : RdF K mg c_Round) (W_RingLog : Gx.ClsF K mg c_RingLog "RingLog" ["entries"]) (W_Ring : Gx.ClsF K mg c_Ring "Ring" ["_places", "_limit", "_budgets", "_late", "_readers", "_log", "_done", "_phase", "_carried", "_last_wait", "_opened", "_open"]) (N_KEY : Gx.GlI mg "KEY" 0) (N_VALUE : Gx.GlI mg "VALUE" 1) (N_LIVING : Gx.GlI mg "LIVING" 2) (N_READERS : Gx.GlI mg "READERS" 3) (D : DfM K c_RingLog "trim" "RingLog.trim" s_RingLog_trim [] []) (C_is_needed : ClG CX0 P w K mg base 3 "is_needed" s_is_needed ["entry"] [] [] spNdd) : ClM CX0 P w K mg base 5 c_RingLog "trim" "RingLog.trim" s_RingLog_trim ["self"] [] [] (spTrm c_RingLog) := by
  have nd := sc_RingLog_trim.nd
  refine D.okP sc_RingLog_trim (fun vs H Q E h => ?_) (fun f cdv A outer s H vs Q E hr h => ?_)
  · obtain ⟨a, H0, L, rfl, _⟩ := h
    rfl
  · obtain ⟨a, H0, L, rfl, ⟨hF, hl⟩, k⟩ := h
    have hu := hu64 hr
    refine ⟨_, (pss_cons (ps_set (i := 1) nd rfl (Or.inl rfl) pe_int)
    (pss_cons (ps_while PassesOwn.never (PW.pt (pw_and (pt_cmpR opLt (pv 1) (pe_callB (callLenK (K := K) (by rfl)) (by rfl) T.len (by decide +kernel) (pa_cons (pe_fld (pv 0) rfl) pa_nil)) (nomark _)) (pw_and1 (pt_not (pt_val (pe_g C_is_needed (by exact hr.mono (by decide)) (E := fun _ => E0) (fun σ => passC0 σ) (fun _ _ _ _ _ _ us hl => match us, hl with | [_], _ => rfl) (pa_cons (pe_ix (ixSeqK (K := K) (by rfl)) (pe_fld (pv 0) rfl) (pv 1) (fun _ _ => rfl)) pa_nil)))))))
      (pss_one (ps_set (i := 1) nd rfl (Or.inl rfl) (pe_op (opAddK (K := K) (by rfl)) (pv 1) pe_int))))
    (pss_one (ps_fld (pv 0) (pe_slice (slAnyK (K := K) (by rfl)) (pe_fld (pv 0) rfl) (po_some (pv 1)) po_none) rfl)))), ?_⟩
    try dsimp only [L2.cxOf, L2.Cx.nox]
    simp only [L2.start, N_RingLog_trim, List.map_cons, List.map_nil, List.length_cons, List.length_nil, Nat.reduceAdd, Nat.reduceSub, List.replicate_succ, List.replicate_zero, List.cons_append, List.nil_append]

    obtain ⟨e, ps, h1, h2, n1, n2, n3, hnd⟩ := hF.ex
    have hg := hF.grow
    have hpl := h2.len
    obtain ⟨dx, hdx⟩ := h1.ex
    have ha : At H a _ := ⟨hdx⟩
    walk_at "go"
    refine Gx.whileX [] (fun m σ' H' => ∃ d : Nat, σ' = [some (.ref a), some (.int (d : Nat))] ∧ d ≤ L.length ∧ m = L.length - d ∧ ∀ j en, j < d → L[j]? = some en → en.need = false) _ ⟨0, rfl, Nat.zero_le _, rfl, fun j en hj => absurd hj (Nat.not_lt_zero _)⟩ ?_
    rintro m σ' H' e1 ⟨d, rfl, hd, rfl, hA⟩
    walk_at "go"
    refine Gx.g_ite (fun hI => ?_) (fun hI => ?_)
    · have hlt : d < ps.length := by simpa using hI
      have hp : ps[d]? = some ps[d] := List.getElem?_eq_getElem hlt
      generalize ps[d] = p at hp
      obtain ⟨en, hen, hE⟩ := h2.ent d p hp
      walk_at "go"
      refine Gx.g_ixN (n := d) (by rw [List.getElem?_map, hp]; rfl) ?_
      walk_at "gos"
      · rename_i hN
        refine ⟨_, ?_, Gx.li ⟨d + 1, rfl, by omega, rfl, fun j en2 hj hg2 => ?_⟩⟩
        · omega
        · rcases Nat.lt_succ_iff_lt_or_eq.mp hj with hj | rfl
          · exact hA j en2 hj hg2
          · rw [hen] at hg2
            cases hg2
            simpa using hN
      · rename_i hN q H2 nq e2 hq H3 e3 hx3
        rw [cutV_from, ← List.map_drop] at hq
        exact exTrm hF h1 h2 n1 n3 hnd e1 nq e2 hq e3 hx3 (trimL_drop hd hA fun en2 hg2 => by rw [hen] at hg2; cases hg2; simpa using hN) k
    · walk_at "go"
      rename_i q H2 nq e2 hq H3 e3 hx3
      rw [cutV_from, ← List.map_drop] at hq
      exact exTrm hF h1 h2 n1 n3 hnd e1 nq e2 hq e3 hx3 (trimL_drop hd hA fun en2 hg2 => by
        have := (List.getElem?_eq_some_iff.mp hg2).1
        exfalso
        omega) k

def findL (z : Str) (L : List En) : Option Nat := L.findIdx? fun e => e.l && decide (e.k = z)
theorem findL_some {z : Str} {L : List En} {i : Nat} {en : En} (h : L[i]? = some en) (hp : (en.l && decide (en.k = z)) = true) (hb : ∀ j e, j < i → L[j]? = some e → (e.l && decide (e.k = z)) = false) : findL z L = some i := by
  obtain ⟨hi, he⟩ := List.getElem?_eq_some_iff.mp h
  refine List.findIdx?_eq_some_iff_getElem.mpr ⟨hi, by rw [he]; exact hp, fun j hj => ?_⟩
  have := hb j _ hj (List.getElem?_eq_getElem (by omega))
  simpa using this
def oV : Option Nat → V
  | some i => .int (i : Nat)
  | none => .non
def spFnl (C : Addr) : Sp := fun vs H Q _ => ∃ (a : Addr) (L : List En) (z : Str), vs = [.ref a, .str z] ∧ (LogC C H a L ∧ L.length ≤ 1000) ∧ ∀ H', Ex H H' → Q (oV (findL z L)) H'
abbrev s_RingLog_find_living : Stmt := (inClass (top 21) 4)
abbrev N_RingLog_find_living : List Str := ["self", "key", "index", "entry"]
theorem sc_RingLog_find_living : FnScope N_RingLog_find_living ["self", "key"] (defScope s_RingLog_find_living) := ⟨rfl, rfl, rfl, by decide +kernel, rfl, by decide +kernel, by decide +kernel⟩
theorem cl_RingLog_find_living (T : Bl mg) (R : RdF K mg c_Round) (W_RingLog : Gx.ClsF K mg c_RingLog "RingLog" ["entries"]) (W_Ring : Gx.ClsF K mg c_Ring "Ring" ["_places", "_limit", "_budgets", "_late", "_readers", "_log", "_done", "_phase", "_carried", "_last_wait", "_opened", "_open"]) (N_KEY : Gx.GlI mg "KEY" 0) (N_VALUE : Gx.GlI mg "VALUE" 1) (N_LIVING : Gx.GlI mg "LIVING" 2) (N_READERS : Gx.GlI mg "READERS" 3) (D : DfM K c_RingLog "find_living" "RingLog.find_living" s_RingLog_find_living [] [])  : ClM CX0 P w K mg base 3 c_RingLog "find_living" "RingLog.find_living" s_RingLog_find_living ["self", "key"] [] [] (spFnl c_RingLog) := by
  have nd := sc_RingLog_find_living.nd
  refine D.okP sc_RingLog_find_living (fun vs H Q E h => ?_) (fun f cdv A outer s H vs Q E hr h => ?_)
  · obtain ⟨a, L, z, rfl, _⟩ := h
    rfl
  · obtain ⟨a, L, z, rfl, ⟨hL, hl⟩, k⟩ := h
    have hu := hu64 hr
    refine ⟨_, (pss_cons (ps_for PassesOwn.never rfl (pi_enumK (K := K) (by rfl) (by rfl) T.enumerate (pa_cons (pe_fld (pv 0) rfl) pa_nil)) (pg_tup rfl (pgs_cons (pg_name (i := 2) nd rfl (Or.inl rfl)) (pgs_cons (pg_name (i := 3) nd rfl (Or.inl rfl)) pgs_nil)))
      (pss_one (ps_if (PW.pt (pw_and (pt_val (pe_ix (ixSeqK (K := K) (by rfl)) (pv 3) (pe_gI N_LIVING) (fun _ _ => rfl))) (pw_and1 (pt_cmpR (opEqK (K := K) (by rfl) (by exact hu)) (pe_ix (ixSeqK (K := K) (by rfl)) (pv 3) (pe_gI N_KEY) (fun _ _ => rfl)) (pv 1) (nomark _)))))
      (pss_one (ps_ret (pv 2)))
      pss_nil)))
    (pss_one (ps_ret pe_non))), ?_⟩
    try dsimp only [L2.cxOf, L2.Cx.nox]
    simp only [L2.start, N_RingLog_find_living, List.map_cons, List.map_nil, List.length_cons, List.length_nil, Nat.reduceAdd, Nat.reduceSub, List.replicate_succ, List.replicate_zero, List.cons_append, List.nil_append]

    obtain ⟨e, ps, h1, h2⟩ := hL.ex
    walk_at "go"
    refine Gx.forEL [] (fun i σ' H' => ∃ (s2 s3 : Option V), σ' = [some (.ref a), some (.str z), s2, s3] ∧ ∀ j en, j < i → L[j]? = some en → (en.l && decide (en.k = z)) = false) ⟨_, _, rfl, fun j en hj => absurd hj (Nat.not_lt_zero _)⟩ ?_ ?_
    · rintro i v x σ' H' H'' hv e1 ⟨s2, s3, rfl, hA⟩ hp
      rw [List.getElem?_map] at hv
      cases hpi : ps[i]? with
      | none => rw [hpi] at hv; cases hv
      | some p =>
        rw [hpi] at hv
        cases hv
        obtain ⟨en, hen, hE⟩ := h2.ent i p hpi
        walk_at "gos"
        · rename_i i1 i2
          have hf : findL z L = some i := findL_some hen (by rw [i1, i2]; simp) hA
          rw [show V.int ((i : Nat) : Int) = oV (findL z L) from by rw [hf]; rfl]
          exact k _ Gx.rel
        all_goals
          refine Gx.li ⟨_, _, rfl, fun j en2 hj hg2 => ?_⟩
          rcases Nat.lt_succ_iff_lt_or_eq.mp hj with hj | rfl
          · exact hA j en2 hj hg2
          · rw [hen] at hg2
            cases hg2
            simp [*]
    · rintro σ' H' e1 ⟨s2, s3, rfl, hA⟩
      walk_at "gos"
      have hn : findL z L = none := List.findIdx?_eq_none_iff.mpr fun en hen => by
        obtain ⟨j, hj, rfl⟩ := List.getElem_of_mem hen
        exact hA j _ (by rw [List.length_map, h2.len]; exact hj) (List.getElem?_eq_getElem hj)
      rw [show V.non = oV (findL z L) from by rw [hn]; rfl]
      exact k _ Gx.rel
def spNdc (C : Addr) : Sp := fun vs H Q _ => ∃ (a : Addr) (L : List En), vs = [.ref a] ∧ (LogC C H a L ∧ L.length ≤ 1000) ∧ ∀ H', Ex H H' → Q (.int (L.countP En.need : Nat)) H'
abbrev s_RingLog_needed_count : Stmt := (inClass (top 21) 6)
abbrev N_RingLog_needed_count : List Str := ["self", "entry"]
theorem sc_RingLog_needed_count : FnScope N_RingLog_needed_count ["self"] (defScope s_RingLog_needed_count) := ⟨rfl, rfl, rfl, by decide +kernel, rfl, by decide +kernel, by decide +kernel⟩
theorem cl_RingLog_needed_count (T : Bl mg) (R : RdF K mg c_Round) (W_RingLog : Gx.ClsF K mg c_RingLog "RingLog" ["entries"]) (W_Ring : Gx.ClsF K mg c_Ring "Ring" ["_places", "_limit", "_budgets", "_late", "_readers", "_log", "_done", "_phase", "_carried", "_last_wait", "_opened", "_open"]) (N_KEY : Gx.GlI mg "KEY" 0) (N_VALUE : Gx.GlI mg "VALUE" 1) (N_LIVING : Gx.GlI mg "LIVING" 2) (N_READERS : Gx.GlI mg "READERS" 3) (D : DfM K c_RingLog "needed_count" "RingLog.needed_count" s_RingLog_needed_count [] []) (C_is_needed : ClG CX0 P w K mg base 3 "is_needed" s_is_needed ["entry"] [] [] spNdd) : ClM CX0 P w K mg base 5 c_RingLog "needed_count" "RingLog.needed_count" s_RingLog_needed_count ["self"] [] [] (spNdc c_RingLog) := by
  have nd := sc_RingLog_needed_count.nd
  refine D.okP sc_RingLog_needed_count (fun vs H Q E h => ?_) (fun f cdv A outer s H vs Q E hr h => ?_)
  · obtain ⟨a, L, rfl, _⟩ := h
    rfl
  · obtain ⟨a, L, rfl, ⟨hL, hl⟩, k⟩ := h
    have hu := hu64 hr
    refine ⟨_, (pss_one (ps_ret (pe_callB (callLenK (K := K) (by rfl)) (by rfl) T.len (by decide +kernel) (pa_cons (pe_lc (own := [("entry", 1)]) (g := gName 1) rfl nd (pi_listK (K := K) (by rfl) (pe_fld (pv 0) rfl)) (blkOk_by (own := [("entry", 1)]) (N := N_RingLog_needed_count) (sc := defScope s_RingLog_needed_count) (by decide +kernel)) (fun _ _ _ _ _ => (pg_name (i := 1) nd rfl (Or.inl rfl))) (fun _ _ _ _ _ => (pts_one (pt_val (pe_g C_is_needed (by exact hr.mono (by decide)) (E := fun _ => E0) (fun σ => passC0 σ) (fun _ _ _ _ _ _ us hl => match us, hl with | [_], _ => rfl) (pa_cons (pv 1) pa_nil))))) (fun _ _ _ _ _ => (pv 1))) pa_nil)))), ?_⟩
    try dsimp only [L2.cxOf, L2.Cx.nox]
    simp only [L2.start, N_RingLog_needed_count, List.map_cons, List.map_nil, List.length_cons, List.length_nil, Nat.reduceAdd, Nat.reduceSub, List.replicate_succ, List.replicate_zero, List.cons_append, List.nil_append]

    obtain ⟨e, ps, h1, h2⟩ := hL.ex
    walk_at "go"
    refine Gx.lcL_P (fun D i acc H' => acc.length = (L.take i).countP En.need) (fun D H1 _ _ _ => by simp) (fun D i v acc H' hv hD e1 hp hA => ?_) (fun D acc H' hD e1 hp hA => ?_)
    · rw [List.getElem?_map] at hv
      cases hpi : ps[i]? with
      | none => rw [hpi] at hv; cases hv
      | some p =>
        rw [hpi] at hv
        cases hv
        obtain ⟨en, hen, hE⟩ := h2.ent i p hpi
        have hca := List.countP_le_length (p := En.need) (l := L.take i)
        have hct := List.length_take_le i L
        have hpl := (List.getElem?_eq_some_iff.mp hpi).1
        have hpn := h2.len
        walk_at "gos"
        · exact ⟨Gx.rel, by rw [List.length_append, hA, List.take_succ, hen, List.countP_append]; simp [*]⟩
        · exact ⟨Gx.rel, by rw [hA, List.take_succ, hen, List.countP_append]; simp [*]⟩
    · rw [List.length_map, h2.len, List.take_of_length_le (Nat.le_refl _)] at hA
      walk_at "gos"
      rw [hA]
      exact k _ Gx.rel
theorem flat_need (L : List En) : (L.map fun (x : En) => [x.need]).flatten = L.map En.need := by
  induction L with
  | nil => rfl
  | cons x r ih => rw [List.map_cons, List.flatten_cons, ih]; rfl
def spWrd (C : Addr) : Sp := fun vs H Q _ => ∃ (a : Addr) (L : List En), vs = [.ref a] ∧ (LogC C H a L ∧ L.length ≤ 1000) ∧ ∀ H', Ex H H' → Q (.str (Gx.tx (L.map En.need))) H'
/-! changes of a log that is new since H0 -/
theorem exSet {C a e e' dx : Addr} {H0 H2 H3 : Hp} {L : List En} {ps : List Addr} (g2 : Chg [] H0 H2) (ha2 : H2 a = some (.ins C dx [(("entries" : Str), .ref e)])) (n1 : H0 a = none) (hr : RowsC H2 e' ps L) (ne : H0 e' = none) (n3 : ∀ p ∈ ps, H0 p = none) (hnd : ps.Nodup)
    (e3 : Chg [a] H2 H3) (hx : At H3 a (.ins C dx (putF "entries" (.ref e') [(("entries" : Str), .ref e)]))) : LogF C H0 H3 a L := by
  have hno : ∀ xs, H2 a ≠ some (.lst xs) := fun xs z => by rw [ha2] at z; cases z
  refine ⟨exNew g2 (fun b hb => by rw [List.mem_singleton.mp hb]; exact n1) e3, e', ps, ?_, rowsKeep hr e3 hno, n1, ne, n3, hnd⟩
  have hx := hx.eq
  rw [show putF ("entries" : Str) (V.ref e') [(("entries" : Str), V.ref e)] = [(("entries" : Str), V.ref e')] from by simp [putF]] at hx
  exact ⟨⟨_, hx⟩⟩
local macro_rules | `(tactic| walk_at "call") => `(tactic| ((with_reducible show spTrm _ _ _ _ _); refine ⟨_, _, _, rfl, ⟨by infer_instance, by first | omega | (simp; omega)⟩, ?_⟩; intro H_ e_ hF_))
theorem rowsTurn {H : Hp} {e e' p : Addr} {qs : List Addr} {x : En} {r : List En} (h : RowsC H e (p :: qs) (x :: r)) (he : H e' = some (.lst ((qs ++ [p]).map V.ref))) : RowsC H e' (qs ++ [p]) (r ++ [x]) := by
  have hl : qs.length = r.length := by simpa using h.len
  refine ⟨he, by simp [hl], fun i q hq => ?_⟩
  by_cases hi : i < qs.length
  · rw [List.getElem?_append_left hi] at hq
    obtain ⟨en, h1, h2⟩ := h.ent (i + 1) q (by simpa using hq)
    exact ⟨en, by rw [List.getElem?_append_left (by omega)]; simpa using h1, h2⟩
  · rw [List.getElem?_append_right (by omega)] at hq
    have hz : i - qs.length = 0 := by
      have := (List.getElem?_eq_some_iff.mp hq).1
      simp at this
      omega
    rw [hz] at hq
    obtain ⟨en, h1, h2⟩ := h.ent 0 q (by simpa using hq)
    exact ⟨en, by rw [List.getElem?_append_right (by omega), ← hl, hz]; simpa using h1, h2⟩
/-- the oldest record is carried -/
def spCar (C : Addr) : Sp := fun vs H Q _ => ∃ (a : Addr) (H0 : Hp) (x : En) (r : List En), vs = [.ref a] ∧ (LogF C H0 H a (x :: r) ∧ r.length < 1000) ∧ ∀ H', Ex H0 H' → LogF C H0 H' a (trimL (r ++ [x])) → Q .non H'
abbrev s_RingLog_carry_tail : Stmt := (inClass (top 21) 9)
abbrev N_RingLog_carry_tail : List Str := ["self"]
theorem sc_RingLog_carry_tail : FnScope N_RingLog_carry_tail ["self"] (defScope s_RingLog_carry_tail) := ⟨rfl, rfl, rfl, by decide +kernel, rfl, by decide +kernel, by decide +kernel⟩
theorem cl_RingLog_carry_tail (T : Bl mg) (R : RdF K mg c_Round) (W_RingLog : Gx.ClsF K mg c_RingLog "RingLog" ["entries"]) (W_Ring : Gx.ClsF K mg c_Ring "Ring" ["_places", "_limit", "_budgets", "_late", "_readers", "_log", "_done", "_phase", "_carried", "_last_wait", "_opened", "_open"]) (N_KEY : Gx.GlI mg "KEY" 0) (N_VALUE : Gx.GlI mg "VALUE" 1) (N_LIVING : Gx.GlI mg "LIVING" 2) (N_READERS : Gx.GlI mg "READERS" 3) (D : DfM K c_RingLog "carry_tail" "RingLog.carry_tail" s_RingLog_carry_tail [] []) (C_RingLog_trim : ClM CX0 P w K mg base 5 c_RingLog "trim" "RingLog.trim" s_RingLog_trim ["self"] [] [] (spTrm c_RingLog)) : ClM CX0 P w K mg base 7 c_RingLog "carry_tail" "RingLog.carry_tail" s_RingLog_carry_tail ["self"] [] [] (spCar c_RingLog) := by
  have nd := sc_RingLog_carry_tail.nd
  refine D.okP sc_RingLog_carry_tail (fun vs H Q E h => ?_) (fun f cdv A outer s H vs Q E hr h => ?_)
  · obtain ⟨a, H0, x, r, rfl, _⟩ := h
    rfl
  · obtain ⟨a, H0, x, r, rfl, ⟨hF, hl⟩, k⟩ := h
    have hu := hu64 hr
    refine ⟨_, (pss_cons (ps_fld (pv 0) (pe_op (opAddK (K := K) (by rfl)) (pe_slice (slAnyK (K := K) (by rfl)) (pe_fld (pv 0) rfl) (po_some pe_int) po_none) (pe_lst (pa_cons (pe_ix (ixSeqK (K := K) (by rfl)) (pe_fld (pv 0) rfl) pe_int (fun _ _ => rfl)) pa_nil))) rfl)
    (pss_one (ps_expr (pe_m0 C_RingLog_trim W_RingLog.c (by exact hr.mono (by decide)) pass0 (fun _ _ _ _ _ _ us hl => match us, hl with | [_], _ => rfl) (pv 0))))), ?_⟩
    try dsimp only [L2.cxOf, L2.Cx.nox]
    simp only [L2.start, N_RingLog_carry_tail, List.map_cons, List.map_nil, List.length_cons, List.length_nil, Nat.reduceAdd, Nat.reduceSub, List.replicate_succ, List.replicate_zero, List.cons_append, List.nil_append]

    obtain ⟨e, ps, h1, h2, n1, n2, n3, hnd⟩ := hF.ex
    have hg := hF.grow
    have hpl := h2.len
    obtain ⟨dx, hdx⟩ := h1.ex
    have ha : At H a _ := ⟨hdx⟩
    match ps, h2, n3, hnd, hpl with
    | [], _, _, _, hpl => simp at hpl
    | p :: qs, h2, n3, hnd, hpl =>
      walk_at "go"
      refine Gx.g_ixN (n := 0) rfl ?_
      walk_at "go"
      rename_i s1 G1 m1 f1 hs1 s2 G2 m2 f2 hs2
      have hs1 : At G1 s1 (.lst (qs.map V.ref)) := by
        rw [show (1 : Int) = ((1 : Nat) : Int) from rfl, cutV_from] at hs1
        exact hs1
      refine Gx.g_cat (xs := qs.map V.ref) (by simp at hpl ⊢; omega) fun s3 G3 m3 f3 hs3 => ?_
      walk_at "go"
      rename_i G4 f4 hx4
      have hs3 : At G3 s3 (.lst ((qs ++ [p]).map V.ref)) := by rw [List.map_append]; exact hs3
      have hr2 : RowsC G3 e (p :: qs) (x :: r) := inferInstance
      have hr3 : RowsC G3 s3 (qs ++ [p]) (r ++ [x]) := rowsTurn hr2 hs3.eq
      have g3 : Chg [] H0 G3 := ((hg.trans f1).trans f2).trans f3
      have hF4 : LogF c_RingLog H0 G4 a (r ++ [x]) := exSet g3 (f3.keep _ _ (by simp) (f2.keep _ _ (by simp) (f1.keep _ _ (by simp) hdx))) n1 hr3 (((hg.trans f1).trans f2).live _ m3.eq) (fun b hb => n3 b (by simp at hb ⊢; exact hb.symm)) (by
        rw [List.nodup_append]
        rw [List.nodup_cons] at hnd
        exact ⟨hnd.2, by simp, fun u hu v hv z => by rw [List.mem_singleton.mp hv] at z; exact hnd.1 (z ▸ hu)⟩) f4 hx4
      walk_at "go"
      exact k _ (by assumption) (by assumption)

section
variable {H H0 H1 H2 : Hp} {C p a e e' : Addr} {en : En} {L : List En} {ps bs : List Addr} {o : HO}
/-- a list of references is no record, and no list of readers of one -/
theorem rows_ne (h : RowsC H e ps L) {i : Nat} (hp : ps[i]? = some p) : p ≠ e ∧ ∃ en r, L[i]? = some en ∧ H p = some (.lst [.str en.k, .int en.v, .bl en.l, .ref r]) ∧ H r = some (.lst (en.rs.map V.int)) ∧ r ≠ e := by
  obtain ⟨en, h1, ⟨r, h2, h3⟩⟩ := h.ent i p hp
  refine ⟨?_, en, r, h1, h2, h3, ?_⟩
  · rintro rfl
    rw [h.lst] at h2
    have h2 := HO.lst.inj (Option.some.inj h2)
    match ps, hp with
    | q :: qs, _ => cases h2
  · rintro rfl
    rw [h.lst] at h3
    have h3 := HO.lst.inj (Option.some.inj h3)
    match ps, hp with
    | q :: qs, _ =>
      cases hr : en.rs with
      | nil => rw [hr] at h3; cases h3
      | cons u v => rw [hr] at h3; cases h3
end
theorem exApn {C a e p r1 dx : Addr} {H0 H G1 G2 G3 : Hp} {L : List En} {ps : List Addr} {z : Str} {v : Int} {l : Bool} (g1 : Chg [] H0 G1) (ha : H a = some (.ins C dx [(("entries" : Str), .ref e)])) (f1 : Chg [] H G1) (f2 : Chg [] G1 G2) (f3 : Chg [e] G2 G3) (n1 : H0 a = none) (n2 : H0 e = none) (n3 : ∀ p ∈ ps, H0 p = none) (hnd : ps.Nodup)
    (hrH : RowsC H e ps L) (hr : RowsC G2 e ps L) (m1 : Nw H r1) (m2 : Nw G1 p) (hp : At G2 p (.lst [.str z, .int v, .bl l, .ref r1])) (hr1 : At G1 r1 (.lst [])) (h3 : At G3 e (.lst ((ps ++ [p]).map V.ref))) : LogF C H0 G3 a (L ++ [⟨z, v, l, []⟩]) := by
  have g2 := g1.trans f2
  have g3 : Chg [] H0 G3 := exNew g2 (fun b hb => by rw [List.mem_singleton.mp hb]; exact n2) f3
  have ha2 : G2 a = some (.ins C dx [(("entries" : Str), .ref e)]) := f2.keep _ _ (by simp) (f1.keep _ _ (by simp) ha)
  have hae : a ≠ e := by
    rintro rfl
    rw [hr.lst] at ha2
    cases ha2
  have hpe : p ≠ e := by
    rintro rfl
    have := hr.lst
    rw [hp.eq] at this
    have := HO.lst.inj (Option.some.inj this)
    cases ps with
    | nil => cases this
    | cons q qs => cases this
  have hre : r1 ≠ e := by
    rintro rfl
    have := hrH.lst
    rw [m1.eq] at this
    cases this
  refine ⟨g3, e, ps ++ [p], ⟨⟨dx, f3.keep _ _ (by simpa using hae) ha2⟩⟩, ⟨h3.eq, by simp [hr.len], fun i q hq => ?_⟩, n1, n2, fun q hq => ?_, ?_⟩
  · by_cases hi : i < ps.length
    · rw [List.getElem?_append_left hi] at hq
      obtain ⟨hqe, en, r, g1, g2, g3, hr⟩ := rows_ne hr hq
      exact ⟨en, by rw [List.getElem?_append_left (by have := (List.getElem?_eq_some_iff.mp g1).1; omega)]; exact g1, ⟨r, f3.keep _ _ (by simpa using hqe) g2, f3.keep _ _ (by simpa using hr) g3⟩⟩
    · rw [List.getElem?_append_right (by omega)] at hq
      have hz : i - ps.length = 0 := by
        have := (List.getElem?_eq_some_iff.mp hq).1
        simp at this
        omega
      rw [hz] at hq
      obtain rfl : p = q := by simpa using hq
      refine ⟨⟨z, v, l, []⟩, by rw [List.getElem?_append_right (by have := hr.len; omega), ← hr.len, hz]; rfl, ⟨r1, f3.keep _ _ (by simpa using hpe) hp.eq, f3.keep _ _ (by simpa using hre) (f2.keep _ _ (by simp) hr1.eq)⟩⟩
  · rcases List.mem_append.mp hq with hq | hq
    · exact n3 q hq
    · rw [List.mem_singleton.mp hq]
      exact g1.live _ m2.eq
  · rw [List.nodup_append]
    refine ⟨hnd, by simp, fun u hu v hv z => ?_⟩
    rw [List.mem_singleton.mp hv] at z
    subst z
    obtain ⟨i, hi, hu⟩ := List.getElem_of_mem hu
    obtain ⟨_, en, r, _, g2, _⟩ := rows_ne hrH (i := i) (by rw [List.getElem?_eq_getElem hi, hu])
    have g3 := f1.keep _ _ (by simp) g2
    rw [m2.eq] at g3
    cases g3
/-- a record is written -/
def spApn (C : Addr) : Sp := fun vs H Q _ => ∃ (a : Addr) (H0 : Hp) (L : List En) (z : Str) (v : Int) (l : Bool), vs = [.ref a, .str z, .int v, .bl l] ∧ (LogF C H0 H a L ∧ L.length < 1000) ∧ ∀ H', Ex H0 H' → LogF C H0 H' a (trimL (L ++ [⟨z, v, l, []⟩])) → Q .non H'
abbrev s_RingLog_append_entry : Stmt := (inClass (top 21) 7)
abbrev N_RingLog_append_entry : List Str := ["self", "key", "value", "is_living"]
theorem sc_RingLog_append_entry : FnScope N_RingLog_append_entry ["self", "key", "value", "is_living"] (defScope s_RingLog_append_entry) := ⟨rfl, rfl, rfl, by decide +kernel, rfl, by decide +kernel, by decide +kernel⟩
theorem cl_RingLog_append_entry (T : Bl mg) (R : RdF K mg c_Round) (W_RingLog : Gx.ClsF K mg c_RingLog "RingLog" ["entries"]) (W_Ring : Gx.ClsF K mg c_Ring "Ring" ["_places", "_limit", "_budgets", "_late", "_readers", "_log", "_done", "_phase", "_carried", "_last_wait", "_opened", "_open"]) (N_KEY : Gx.GlI mg "KEY" 0) (N_VALUE : Gx.GlI mg "VALUE" 1) (N_LIVING : Gx.GlI mg "LIVING" 2) (N_READERS : Gx.GlI mg "READERS" 3) (D : DfM K c_RingLog "append_entry" "RingLog.append_entry" s_RingLog_append_entry [] []) (C_RingLog_trim : ClM CX0 P w K mg base 5 c_RingLog "trim" "RingLog.trim" s_RingLog_trim ["self"] [] [] (spTrm c_RingLog)) : ClM CX0 P w K mg base 7 c_RingLog "append_entry" "RingLog.append_entry" s_RingLog_append_entry ["self", "key", "value", "is_living"] [] [] (spApn c_RingLog) := by
  have nd := sc_RingLog_append_entry.nd
  refine D.okP sc_RingLog_append_entry (fun vs H Q E h => ?_) (fun f cdv A outer s H vs Q E hr h => ?_)
  · obtain ⟨a, H0, L, z, v, l, rfl, _⟩ := h
    rfl
  · obtain ⟨a, H0, L, z, v, l, rfl, ⟨hF, hl⟩, k⟩ := h
    have hu := hu64 hr
    refine ⟨_, (pss_cons (ps_expr (pe_bmK (K := K) (by rfl) PySem.F.plainAttrs_list PySem.F.slot_list_append PySem.F.type_list_append mt_append (pe_fld (pv 0) rfl) (pa_cons (pe_lst (pa_cons (pv 1) (pa_cons (pv 2) (pa_cons (pv 3) (pa_cons (pe_lst pa_nil) pa_nil))))) pa_nil)))
    (pss_one (ps_expr (pe_m0 C_RingLog_trim W_RingLog.c (by exact hr.mono (by decide)) pass0 (fun _ _ _ _ _ _ us hl => match us, hl with | [_], _ => rfl) (pv 0))))), ?_⟩
    try dsimp only [L2.cxOf, L2.Cx.nox]
    simp only [L2.start, N_RingLog_append_entry, List.map_cons, List.map_nil, List.length_cons, List.length_nil, Nat.reduceAdd, Nat.reduceSub, List.replicate_succ, List.replicate_zero, List.cons_append, List.nil_append]

    obtain ⟨e, ps, h1, h2, n1, n2, n3, hnd⟩ := hF.ex
    have hg := hF.grow
    have hpl := h2.len
    obtain ⟨dx, hdx⟩ := h1.ex
    have ha : At H a _ := ⟨hdx⟩
    walk_at "go"
    rename_i r1 G1 m1 f1 hr1 p G2 m2 f2 hp G3 f3 h3
    have hr2 : RowsC G2 e ps L := inferInstance
    have h3 : At G3 e (.lst ((ps ++ [p]).map V.ref)) := by rw [List.map_append]; exact h3
    have hF3 : LogF c_RingLog H0 G3 a (L ++ [⟨z, v, l, []⟩]) := exApn (hg.trans f1) hdx f1 f2 f3 n1 n2 n3 hnd h2 hr2 m1 m2 hp hr1 h3
    obtain ⟨e9, ps9, hI9, _⟩ := hF3.ex
    walk_at "go"
    rename_i H9 e9 h9
    exact k H9 e9 h9
/-- the record with this index lives no more -/
def kill (L : List En) (i : Nat) : List En := L.modify i fun e => { e with l := false }
theorem kill_at {L : List En} {i j : Nat} {en : En} (h : L[j]? = some en) : (kill L i)[j]? = some (if i = j then { en with l := false } else en) := by
  unfold kill
  rw [List.getElem?_modify, h]
  rfl
theorem exKill {C a e p r dx : Addr} {H0 H G1 : Hp} {L : List En} {ps : List Addr} {i : Nat} {en : En} (g1 : Chg [] H0 H) (ha : H a = some (.ins C dx [(("entries" : Str), .ref e)])) (f1 : Chg [p] H G1) (n1 : H0 a = none) (n2 : H0 e = none) (n3 : ∀ p ∈ ps, H0 p = none) (hnd : ps.Nodup)
    (hr : RowsC H e ps L) (hp : ps[i]? = some p) (hen : L[i]? = some en) (hpl : H p = some (.lst [.str en.k, .int en.v, .bl en.l, .ref r])) (hrs : H r = some (.lst (en.rs.map V.int))) (hp1 : At G1 p (.lst [.str en.k, .int en.v, .bl false, .ref r])) : LogF C H0 G1 a (kill L i) := by
  have hap : a ≠ p := by
    rintro rfl
    rw [ha] at hpl
    cases hpl
  have hep : e ≠ p := (rows_ne hr hp).1.symm
  have notp : ∀ r2 (ns : List Int), H r2 = some (.lst (ns.map V.int)) → r2 ≠ p := by
    rintro r2 ns h z
    rw [z, hpl] at h
    have h := HO.lst.inj (Option.some.inj h)
    cases ns with
    | nil => cases h
    | cons u v => cases h
  refine ⟨exNew g1 (fun b hb => by rw [List.mem_singleton.mp hb]; exact n3 p (List.mem_of_getElem? hp)) f1, e, ps, ⟨⟨dx, f1.keep _ _ (by simpa using hap) ha⟩⟩, ⟨f1.keep _ _ (by simpa using hep) hr.lst, by unfold kill; rw [List.length_modify]; exact hr.len, fun j q hq => ?_⟩, n1, n2, n3, hnd⟩
  obtain ⟨en2, h1, ⟨r2, h2, h3⟩⟩ := hr.ent j q hq
  refine ⟨_, kill_at h1, ?_⟩
  by_cases hij : i = j
  · subst hij
    rw [if_pos rfl]
    rw [hp] at hq
    cases hq
    rw [hen] at h1
    cases h1
    exact ⟨r, hp1.eq, f1.keep _ _ (by simpa using notp r _ hrs) hrs⟩
  · rw [if_neg hij]
    have hqp : q ≠ p := by
      rintro rfl
      have a1 := (List.getElem?_eq_some_iff.mp hp)
      have a2 := (List.getElem?_eq_some_iff.mp hq)
      obtain ⟨b1, b2⟩ := a1
      obtain ⟨c1, c2⟩ := a2
      exact hij ((List.getElem_inj hnd).mp (b2.trans c2.symm))
    exact ⟨r2, f1.keep _ _ (by simpa using hqp) h2, f1.keep _ _ (by simpa using notp r2 _ h3) h3⟩
def spRls (C : Addr) : Sp := fun vs H Q _ => ∃ (a : Addr) (H0 : Hp) (L : List En) (i : Nat), vs = [.ref a, .int (i : Nat)] ∧ (LogF C H0 H a L ∧ L.length ≤ 1000 ∧ i < L.length) ∧ ∀ H', Ex H0 H' → LogF C H0 H' a (trimL (kill L i)) → Q .non H'
abbrev s_RingLog_release_at : Stmt := (inClass (top 21) 8)
abbrev N_RingLog_release_at : List Str := ["self", "index"]
theorem sc_RingLog_release_at : FnScope N_RingLog_release_at ["self", "index"] (defScope s_RingLog_release_at) := ⟨rfl, rfl, rfl, by decide +kernel, rfl, by decide +kernel, by decide +kernel⟩
theorem cl_RingLog_release_at (T : Bl mg) (R : RdF K mg c_Round) (W_RingLog : Gx.ClsF K mg c_RingLog "RingLog" ["entries"]) (W_Ring : Gx.ClsF K mg c_Ring "Ring" ["_places", "_limit", "_budgets", "_late", "_readers", "_log", "_done", "_phase", "_carried", "_last_wait", "_opened", "_open"]) (N_KEY : Gx.GlI mg "KEY" 0) (N_VALUE : Gx.GlI mg "VALUE" 1) (N_LIVING : Gx.GlI mg "LIVING" 2) (N_READERS : Gx.GlI mg "READERS" 3) (D : DfM K c_RingLog "release_at" "RingLog.release_at" s_RingLog_release_at [] []) (C_RingLog_trim : ClM CX0 P w K mg base 5 c_RingLog "trim" "RingLog.trim" s_RingLog_trim ["self"] [] [] (spTrm c_RingLog)) : ClM CX0 P w K mg base 7 c_RingLog "release_at" "RingLog.release_at" s_RingLog_release_at ["self", "index"] [] [] (spRls c_RingLog) := by
  have nd := sc_RingLog_release_at.nd
  refine D.okP sc_RingLog_release_at (fun vs H Q E h => ?_) (fun f cdv A outer s H vs Q E hr h => ?_)
  · obtain ⟨a, H0, L, i, rfl, _⟩ := h
    rfl
  · obtain ⟨a, H0, L, i, rfl, ⟨hF, hl, hi⟩, k⟩ := h
    have hu := hu64 hr
    refine ⟨_, (pss_cons (ps_asg pe_bl (pg_sub (pe_ix (ixSeqK (K := K) (by rfl)) (pe_fld (pv 0) rfl) (pv 1) (fun _ _ => rfl)) (pe_gI N_LIVING) set_list))
    (pss_one (ps_expr (pe_m0 C_RingLog_trim W_RingLog.c (by exact hr.mono (by decide)) pass0 (fun _ _ _ _ _ _ us hl => match us, hl with | [_], _ => rfl) (pv 0))))), ?_⟩
    try dsimp only [L2.cxOf, L2.Cx.nox]
    simp only [L2.start, N_RingLog_release_at, List.map_cons, List.map_nil, List.length_cons, List.length_nil, Nat.reduceAdd, Nat.reduceSub, List.replicate_succ, List.replicate_zero, List.cons_append, List.nil_append]

    obtain ⟨e, ps, h1, h2, n1, n2, n3, hnd⟩ := hF.ex
    have hg := hF.grow
    have hpl := h2.len
    obtain ⟨dx, hdx⟩ := h1.ex
    have ha : At H a _ := ⟨hdx⟩
    have hlt : i < ps.length := by omega
    have hp : ps[i]? = some ps[i] := List.getElem?_eq_getElem hlt
    generalize ps[i] = p at hp
    obtain ⟨hpe, en, r, g1, g2, g3, hre⟩ := rows_ne h2 hp
    have hpa : At H p _ := ⟨g2⟩
    walk_at "go"
    refine Gx.g_ixN (n := i) (by rw [List.getElem?_map, hp]; rfl) ?_
    walk_at "go"
    rename_i G1 f1 hp1
    have hF1 : LogF c_RingLog H0 G1 a (kill L i) := exKill hg hdx f1 n1 n2 n3 hnd h2 hp g1 g2 g3 hp1
    have hkl : (kill L i).length ≤ 1000 := by unfold kill; rw [List.length_modify]; exact hl
    obtain ⟨e9, ps9, hI9, _⟩ := hF1.ex
    walk_at "go"
    rename_i H9 e9 h9
    exact k H9 e9 h9

def spRl0 (C : Addr) : Sp := fun vs H Q _ => ∃ (x dx : Addr), vs = [.ref x] ∧ At H x (.ins C dx []) ∧ ∀ e H', H e = none → ExB x H H' → At H' x (.ins C dx [(("entries" : Str), .ref e)]) → At H' e (.lst []) → Q .non H'
abbrev s_RingLog___init__ : Stmt := (inClass (top 21) 0)
abbrev N_RingLog___init__ : List Str := ["self"]
theorem sc_RingLog___init__ : FnScope N_RingLog___init__ ["self"] (defScope s_RingLog___init__) := ⟨rfl, rfl, rfl, by decide +kernel, rfl, by decide +kernel, by decide +kernel⟩
theorem cl_RingLog___init__ (T : Bl mg) (R : RdF K mg c_Round) (W_RingLog : Gx.ClsF K mg c_RingLog "RingLog" ["entries"]) (W_Ring : Gx.ClsF K mg c_Ring "Ring" ["_places", "_limit", "_budgets", "_late", "_readers", "_log", "_done", "_phase", "_carried", "_last_wait", "_opened", "_open"]) (N_KEY : Gx.GlI mg "KEY" 0) (N_VALUE : Gx.GlI mg "VALUE" 1) (N_LIVING : Gx.GlI mg "LIVING" 2) (N_READERS : Gx.GlI mg "READERS" 3) (D : Gx.DfC K c_RingLog "RingLog.__init__" s_RingLog___init__ [] [])  : Gx.ClC CX0 P w K mg base 3 c_RingLog "RingLog.__init__" s_RingLog___init__ ["self"] [] [] (spRl0 c_RingLog) := by
  have nd := sc_RingLog___init__.nd
  refine D.okP sc_RingLog___init__ (fun vs H Q E h => ?_) (fun f cdv A outer s H vs Q E hr h => ?_)
  · obtain ⟨x, dx, rfl, _⟩ := h
    rfl
  · obtain ⟨x, dx, rfl, hx, k⟩ := h
    have hu := hu64 hr
    refine ⟨_, (pss_one (ps_fld (pv 0) (pe_lst pa_nil) rfl)), ?_⟩
    try dsimp only [L2.cxOf, L2.Cx.nox]
    simp only [L2.start, N_RingLog___init__, List.map_cons, List.map_nil, List.length_cons, List.length_nil, Nat.reduceAdd, Nat.reduceSub, List.replicate_succ, List.replicate_zero, List.cons_append, List.nil_append]

    walk_at "go"
    rename_i e H1 n1 f1 h1 H2 f2 h2
    exact k e _ n1.eq Gx.rel h2 (by infer_instance)
local macro_rules | `(tactic| walk_at "call") => `(tactic| first
  | ((with_reducible show spRl0 _ _ _ _ _); refine ⟨_, _, rfl, by infer_instance, ?_⟩; intro e_ H_ n_ f_ h_ g_)
  | ((with_reducible show Gx.rMkC _ _ _ _ _ _ _); refine Gx.g_mkC ?_; intro x_ dx_ H_ nx_ e_ hx_))
/-- a record at q, with no part at D -/
def EntX (H : Hp) (D q : Addr) (en : En) : Prop := ∃ r, H q = some (.lst [.str en.k, .int en.v, .bl en.l, .ref r]) ∧ H r = some (.lst (en.rs.map V.int)) ∧ q ≠ D ∧ r ≠ D
theorem EntX.keep {H H2 : Hp} {D q : Addr} {en : En} (h : EntX H D q en) (r : Chg [D] H H2) : EntX H2 D q en := by
  obtain ⟨p, h1, h2, h3, h4⟩ := h
  exact ⟨p, r.keep _ _ (by simpa using h3) h1, r.keep _ _ (by simpa using h4) h2, h3, h4⟩
theorem EntX.grow {H H2 : Hp} {D q : Addr} {en : En} (h : EntX H D q en) (r : Chg [] H H2) : EntX H2 D q en := by
  obtain ⟨p, h1, h2, h3, h4⟩ := h
  exact ⟨p, r.keep _ _ (by simp) h1, r.keep _ _ (by simp) h2, h3, h4⟩
/-- a copy of a log: all of it is new -/
def spCpy (C : Addr) : Sp := fun vs H Q _ => ∃ (a : Addr) (L : List En), vs = [.ref a] ∧ (LogC C H a L ∧ L.length ≤ 1000) ∧ ∀ d H', LogF C H H' d L → Q (.ref d) H'
abbrev s_RingLog_copied : Stmt := (inClass (top 21) 3)
abbrev N_RingLog_copied : List Str := ["self", "other", "key", "value", "is_living", "seen_by"]
theorem sc_RingLog_copied : FnScope N_RingLog_copied ["self"] (defScope s_RingLog_copied) := ⟨rfl, rfl, rfl, by decide +kernel, rfl, by decide +kernel, by decide +kernel⟩
theorem cl_RingLog_copied (T : Bl mg) (R : RdF K mg c_Round) (W_RingLog : Gx.ClsF K mg c_RingLog "RingLog" ["entries"]) (W_Ring : Gx.ClsF K mg c_Ring "Ring" ["_places", "_limit", "_budgets", "_late", "_readers", "_log", "_done", "_phase", "_carried", "_last_wait", "_opened", "_open"]) (N_KEY : Gx.GlI mg "KEY" 0) (N_VALUE : Gx.GlI mg "VALUE" 1) (N_LIVING : Gx.GlI mg "LIVING" 2) (N_READERS : Gx.GlI mg "READERS" 3) (D : DfM K c_RingLog "copied" "RingLog.copied" s_RingLog_copied [] []) (C_RingLog___init__ : Gx.ClC CX0 P w K mg base 3 c_RingLog "RingLog.__init__" s_RingLog___init__ ["self"] [] [] (spRl0 c_RingLog)) : ClM CX0 P w K mg base 5 c_RingLog "copied" "RingLog.copied" s_RingLog_copied ["self"] [] [] (spCpy c_RingLog) := by
  have nd := sc_RingLog_copied.nd
  refine D.okP sc_RingLog_copied (fun vs H Q E h => ?_) (fun f cdv A outer s H vs Q E hr h => ?_)
  · obtain ⟨a, L, rfl, _⟩ := h
    rfl
  · obtain ⟨a, L, rfl, ⟨hL, hl⟩, k⟩ := h
    have hu := hu64 hr
    refine ⟨_, (pss_cons (ps_set (i := 1) nd rfl (Or.inl rfl) (pe_mk0 C_RingLog___init__ (by exact hr.mono (by decide)) (by rfl) W_RingLog.g pass0 (fun _ _ _ _ _ _ us hl => match us, hl with | [_], _ => rfl)))
    (pss_cons (ps_fld (pv 1) (pe_lc (own := [("key", 2), ("value", 3), ("is_living", 4), ("seen_by", 5)]) (g := gLst K 4 (gCons (gName 2) (gCons (gName 3) (gCons (gName 4) (gCons (gName 5) gNil))))) rfl nd (pi_listK (K := K) (by rfl) (pe_fld (pv 0) rfl)) (blkOk_by (own := [("key", 2), ("value", 3), ("is_living", 4), ("seen_by", 5)]) (N := N_RingLog_copied) (sc := defScope s_RingLog_copied) (by decide +kernel)) (fun _ _ _ _ _ => (pg_lst rfl (pgs_cons (pg_name (i := 2) nd rfl (Or.inl rfl)) (pgs_cons (pg_name (i := 3) nd rfl (Or.inl rfl)) (pgs_cons (pg_name (i := 4) nd rfl (Or.inl rfl)) (pgs_cons (pg_name (i := 5) nd rfl (Or.inl rfl)) pgs_nil)))))) (fun _ _ _ _ _ => pts_nil) (fun _ _ _ _ _ => (pe_lst (pa_cons (pv 2) (pa_cons (pv 3) (pa_cons (pv 4) (pa_cons (pe_callTy (callListOfK (K := K) (by rfl)) (by rfl) T.list (by decide +kernel) (pa_cons (pv 5) pa_nil)) pa_nil))))))) rfl)
    (pss_one (ps_ret (pv 1))))), ?_⟩
    try dsimp only [L2.cxOf, L2.Cx.nox]
    simp only [L2.start, N_RingLog_copied, List.map_cons, List.map_nil, List.length_cons, List.length_nil, Nat.reduceAdd, Nat.reduceSub, List.replicate_succ, List.replicate_zero, List.cons_append, List.nil_append]

    obtain ⟨e, ps, h1, h2⟩ := hL.ex
    walk_at "go"
    rename_i x dx G1 m1 f1 h1x e0 G m2 f2 hx he0
    have fG : Chg [] H G := exNew f1 (fun b hb => by rw [List.mem_singleton.mp hb]; exact m1.eq) f2
    have h2G : RowsC G e ps L := rowsStep (r := fG) (h := h2)
    refine Gx.lcL_P (fun D i acc H' => ∃ qs : List Addr, acc = qs.map V.ref ∧ qs.length = i ∧ qs.Nodup ∧ (∀ q ∈ qs, G q = none) ∧ ∀ (j : Nat) q, qs[j]? = some q → ∃ en : En, L[j]? = some en ∧ EntX H' D q en)
      (fun D H1 _ _ _ => ⟨[], rfl, rfl, List.nodup_nil, fun q hq => absurd hq List.not_mem_nil, fun j q hj => by simp at hj⟩) (fun D i v acc H' hv hD e1 hp hA => ?_) (fun D acc H' hD e1 hp hA => ?_)
    · obtain ⟨qs, rfl, hql, hqn, hq0, hqe⟩ := hA
      rw [List.getElem?_map] at hv
      cases hpi : ps[i]? with
      | none => rw [hpi] at hv; cases hv
      | some p =>
        rw [hpi] at hv
        cases hv
        obtain ⟨en, hen, hE⟩ := h2G.ent i p hpi
        have hE : EntC H' p en := entStep (r := e1) (h := hE)
        obtain ⟨r, hr1, hr2⟩ := hE.ex
        have hr1 : At H' p _ := ⟨hr1⟩
        have hr2 : At H' r _ := ⟨hr2⟩
        have hil := (List.getElem?_eq_some_iff.mp hpi).1
        have hpn := h2G.len
        refine Gx.g_glst (xs := [.str en.k, .int en.v, .bl en.l, .ref r]) rfl ?_
        walk_at "go"
        rename_i r9 J1 m3 f3 hr9 q J2 m4 f4 hq J3 f5 h5
        have hDJ : J1 D = some _ := f3.keep _ _ (by simp) hp.eq
        have hqD : q ≠ D := by
          rintro rfl
          rw [m4.eq] at hDJ
          cases hDJ
        have hrD : r9 ≠ D := by
          rintro rfl
          have := hp.eq
          rw [m3.eq] at this
          cases this
        refine ⟨Gx.rel, qs ++ [q], by rw [List.map_append]; rfl, by rw [List.length_append, hql]; rfl, ?_, fun y hy => ?_, fun j y hj => ?_⟩
        · rw [List.nodup_append]
          refine ⟨hqn, by simp, fun u hu w hw z => ?_⟩
          rw [List.mem_singleton.mp hw] at z
          subst z
          obtain ⟨j, hj, hu⟩ := List.getElem_of_mem hu
          obtain ⟨en2, _, ⟨r2, g1, _⟩⟩ := hqe j u (by rw [List.getElem?_eq_getElem hj, hu])
          have g2 := f3.keep _ _ (by simp) g1
          rw [m4.eq] at g2
          cases g2
        · rcases List.mem_append.mp hy with hy | hy
          · exact hq0 y hy
          · rw [List.mem_singleton.mp hy]
            exact e1.live _ (f3.live _ m4.eq)
        · by_cases hji : j < qs.length
          · rw [List.getElem?_append_left hji] at hj
            obtain ⟨en2, g1, g2⟩ := hqe j y hj
            exact ⟨en2, g1, (g2.grow (f3.trans f4)).keep f5⟩
          · rw [List.getElem?_append_right (by omega)] at hj
            have hz : j - qs.length = 0 := by
              have := (List.getElem?_eq_some_iff.mp hj).1
              simp at this
              omega
            rw [hz] at hj
            obtain rfl : q = y := by simpa using hj
            refine ⟨en, by rw [show j = i from by omega]; exact hen, r9, f5.keep _ _ (by simpa using hqD) hq.eq, f5.keep _ _ (by simpa using hrD) (f4.keep _ _ (by simp) hr9.eq), hqD, hrD⟩
    · obtain ⟨qs, rfl, hql, hqn, hq0, hqe⟩ := hA
      walk_at "go"
      rename_i J1 f3 hx3
      have hpn := h2G.len
      refine k x J1 (exSet (fG.trans e1) (e1.keep _ _ (by simp) hx.eq) m1.eq ⟨hp.eq, by rw [List.length_map] at hql; omega, fun j q hj => ?_⟩ ((fG).live _ hD.eq) (fun q hq => fG.live _ (hq0 q hq)) hqn f3 hx3)
      obtain ⟨en, g1, ⟨r, g2, g3, _⟩⟩ := hqe j q hj
      exact ⟨en, g1, r, g2, g3⟩

/-- what a ring is -/
structure RS where
  p : Int
  lim : Int
  bs : List Int
  lt : Bool
  rd : Int
  L : List En
  dn : Int
  ph : Int
  ca : Int
  lw : Int
  op : Int
  os : List Int
abbrev RS.flds (S : RS) (b d o : Addr) : List (Str × V) := [(("_places" : Str), .int S.p), (("_limit" : Str), .int S.lim), (("_budgets" : Str), .ref b), (("_late" : Str), .bl S.lt), (("_readers" : Str), .int S.rd), (("_log" : Str), .ref d), (("_done" : Str), .int S.dn), (("_phase" : Str), .int S.ph), (("_carried" : Str), .int S.ca), (("_last_wait" : Str), .int S.lw), (("_opened" : Str), .int S.op), (("_open" : Str), .ref o)]
class RgC (C CL CR : outParam Addr) (H : Hp) (a : Addr) (S : outParam RS) : Prop where
  ex : ∃ b d o, InC C (S.flds b d o) H a ∧ RdC CR H b S.bs ∧ LogC CL H d S.L ∧ At H o (.lst (S.os.map V.int))
section
variable {K : PySem.W.Frag} {σ : L2.St} {H H0 H1 H2 : Hp} {Q : VK} {C CL CR a : Addr} {S : RS} {bs : List Addr} {m : Str} {sp : Sp} {dvs : List V} {E : XK} {t : TA}
instance (priority := low) rgStep [r : Chg [] H1 H] [h : RgC C CL CR H1 a S] : RgC C CL CR H a S := ⟨by
  obtain ⟨b, d, o, h1, h2, h3, h4⟩ := h.ex
  exact ⟨b, d, o, inferInstance, inferInstance, inferInstance, inferInstance⟩⟩
instance rgLive [h : RgC C CL CR H a S] : Live H a := ⟨by
  obtain ⟨b, d, o, h1, _⟩ := h.ex
  obtain ⟨dx, h1⟩ := h1.ex
  exact ⟨_, h1⟩⟩
theorem g_propR [h : RgC C CL CR H a S] (q : sp (.ref a :: dvs) H Q E) : rProp C sp dvs E (.ref a) H Q := by
  obtain ⟨b, d, o, h1, _⟩ := h.ex
  obtain ⟨dx, h1⟩ := h1.ex
  exact ⟨a, dx, _, rfl, h1, q⟩
theorem g_methR [h : RgC C CL CR H a S] (hm : (["_places", "_limit", "_budgets", "_late", "_readers", "_log", "_done", "_phase", "_carried", "_last_wait", "_opened", "_open"] : List Str).contains m = false) (q : t σ H fun vs H2 => sp (.ref a :: (vs ++ dvs)) H2 Q E) : rMeth C m sp dvs E t σ (.ref a) H Q := by
  obtain ⟨b, d, o, h1, _⟩ := h.ex
  refine @Gx.g_rmethI σ H Q C a m sp dvs E t _ h1 ?_ q
  refine List.lookup_eq_none_iff.mpr fun x hx => ?_
  simp only [List.contains_eq_mem, decide_eq_false_iff_not] at hm
  rw [bne_iff_ne]
  rintro rfl
  apply hm
  simp only [RS.flds, List.mem_cons, List.mem_nil_iff, or_false] at hx
  rcases hx with rfl | rfl | rfl | rfl | rfl | rfl | rfl | rfl | rfl | rfl | rfl | rfl <;> simp
end
local macro_rules | `(tactic| walk_at "call") => `(tactic| first
  | ((with_reducible show rProp _ _ _ _ _ _ _); refine g_propR ?_)
  | ((with_reducible show Gx.rMeth _ _ _ _ _ _ _ _ _ _); refine g_methR (by decide +kernel) ?_)
  | ((with_reducible show spWrd _ _ _ _ _); refine ⟨_, _, rfl, ⟨by infer_instance, by omega⟩, ?_⟩; intro H_ e_)
  | ((with_reducible show spNdc _ _ _ _ _); refine ⟨_, _, rfl, ⟨by infer_instance, by omega⟩, ?_⟩; intro H_ e_)
  | ((with_reducible show spFnl _ _ _ _ _); refine ⟨_, _, _, rfl, ⟨by infer_instance, by omega⟩, ?_⟩; intro H_ e_))
def spRgI (C CL CR : Addr) (f : RS → Int) : Sp := fun vs H Q _ => ∃ (a : Addr) (S : RS), vs = [.ref a] ∧ RgC C CL CR H a S ∧ Q (.int (f S)) H
abbrev s_Ring_places : Stmt := (inClass (top 23) 1)
abbrev N_Ring_places : List Str := ["self"]
theorem sc_Ring_places : FnScope N_Ring_places ["self"] (defScope s_Ring_places) := ⟨rfl, rfl, rfl, by decide +kernel, rfl, by decide +kernel, by decide +kernel⟩
theorem cl_Ring_places (T : Bl mg) (R : RdF K mg c_Round) (W_RingLog : Gx.ClsF K mg c_RingLog "RingLog" ["entries"]) (W_Ring : Gx.ClsF K mg c_Ring "Ring" ["_places", "_limit", "_budgets", "_late", "_readers", "_log", "_done", "_phase", "_carried", "_last_wait", "_opened", "_open"]) (N_KEY : Gx.GlI mg "KEY" 0) (N_VALUE : Gx.GlI mg "VALUE" 1) (N_LIVING : Gx.GlI mg "LIVING" 2) (N_READERS : Gx.GlI mg "READERS" 3) (D : DfP K c_Ring "places" "Ring.places" s_Ring_places)  : ClP CX0 P w K mg base 3 c_Ring "places" "Ring.places" s_Ring_places (spRgI c_Ring c_RingLog c_Round RS.p) := by
  have nd := sc_Ring_places.nd
  refine D.okP sc_Ring_places (fun vs H Q E h => ?_) (fun f cdv A outer s H vs Q E hr h => ?_)
  · obtain ⟨a, S, rfl, _⟩ := h
    rfl
  · obtain ⟨a, S, rfl, hR, k⟩ := h
    have hu := hu64 hr
    refine ⟨_, (pss_one (ps_ret (pe_fld (pv 0) rfl))), ?_⟩
    try dsimp only [L2.cxOf, L2.Cx.nox]
    simp only [L2.start, N_Ring_places, List.map_cons, List.map_nil, List.length_cons, List.length_nil, Nat.reduceAdd, Nat.reduceSub, List.replicate_succ, List.replicate_zero, List.cons_append, List.nil_append]

    obtain ⟨b, d, o, hI, hb, hd, ho⟩ := hR.ex
    walk_at "go"
    exact k
abbrev s_Ring_limit : Stmt := (inClass (top 23) 2)
abbrev N_Ring_limit : List Str := ["self"]
theorem sc_Ring_limit : FnScope N_Ring_limit ["self"] (defScope s_Ring_limit) := ⟨rfl, rfl, rfl, by decide +kernel, rfl, by decide +kernel, by decide +kernel⟩
theorem cl_Ring_limit (T : Bl mg) (R : RdF K mg c_Round) (W_RingLog : Gx.ClsF K mg c_RingLog "RingLog" ["entries"]) (W_Ring : Gx.ClsF K mg c_Ring "Ring" ["_places", "_limit", "_budgets", "_late", "_readers", "_log", "_done", "_phase", "_carried", "_last_wait", "_opened", "_open"]) (N_KEY : Gx.GlI mg "KEY" 0) (N_VALUE : Gx.GlI mg "VALUE" 1) (N_LIVING : Gx.GlI mg "LIVING" 2) (N_READERS : Gx.GlI mg "READERS" 3) (D : DfP K c_Ring "limit" "Ring.limit" s_Ring_limit)  : ClP CX0 P w K mg base 3 c_Ring "limit" "Ring.limit" s_Ring_limit (spRgI c_Ring c_RingLog c_Round RS.lim) := by
  have nd := sc_Ring_limit.nd
  refine D.okP sc_Ring_limit (fun vs H Q E h => ?_) (fun f cdv A outer s H vs Q E hr h => ?_)
  · obtain ⟨a, S, rfl, _⟩ := h
    rfl
  · obtain ⟨a, S, rfl, hR, k⟩ := h
    have hu := hu64 hr
    refine ⟨_, (pss_one (ps_ret (pe_fld (pv 0) rfl))), ?_⟩
    try dsimp only [L2.cxOf, L2.Cx.nox]
    simp only [L2.start, N_Ring_limit, List.map_cons, List.map_nil, List.length_cons, List.length_nil, Nat.reduceAdd, Nat.reduceSub, List.replicate_succ, List.replicate_zero, List.cons_append, List.nil_append]

    obtain ⟨b, d, o, hI, hb, hd, ho⟩ := hR.ex
    walk_at "go"
    exact k
abbrev s_Ring_readers : Stmt := (inClass (top 23) 5)
abbrev N_Ring_readers : List Str := ["self"]
theorem sc_Ring_readers : FnScope N_Ring_readers ["self"] (defScope s_Ring_readers) := ⟨rfl, rfl, rfl, by decide +kernel, rfl, by decide +kernel, by decide +kernel⟩
theorem cl_Ring_readers (T : Bl mg) (R : RdF K mg c_Round) (W_RingLog : Gx.ClsF K mg c_RingLog "RingLog" ["entries"]) (W_Ring : Gx.ClsF K mg c_Ring "Ring" ["_places", "_limit", "_budgets", "_late", "_readers", "_log", "_done", "_phase", "_carried", "_last_wait", "_opened", "_open"]) (N_KEY : Gx.GlI mg "KEY" 0) (N_VALUE : Gx.GlI mg "VALUE" 1) (N_LIVING : Gx.GlI mg "LIVING" 2) (N_READERS : Gx.GlI mg "READERS" 3) (D : DfP K c_Ring "readers" "Ring.readers" s_Ring_readers)  : ClP CX0 P w K mg base 3 c_Ring "readers" "Ring.readers" s_Ring_readers (spRgI c_Ring c_RingLog c_Round RS.rd) := by
  have nd := sc_Ring_readers.nd
  refine D.okP sc_Ring_readers (fun vs H Q E h => ?_) (fun f cdv A outer s H vs Q E hr h => ?_)
  · obtain ⟨a, S, rfl, _⟩ := h
    rfl
  · obtain ⟨a, S, rfl, hR, k⟩ := h
    have hu := hu64 hr
    refine ⟨_, (pss_one (ps_ret (pe_fld (pv 0) rfl))), ?_⟩
    try dsimp only [L2.cxOf, L2.Cx.nox]
    simp only [L2.start, N_Ring_readers, List.map_cons, List.map_nil, List.length_cons, List.length_nil, Nat.reduceAdd, Nat.reduceSub, List.replicate_succ, List.replicate_zero, List.cons_append, List.nil_append]

    obtain ⟨b, d, o, hI, hb, hd, ho⟩ := hR.ex
    walk_at "go"
    exact k
abbrev s_Ring_done : Stmt := (inClass (top 23) 8)
abbrev N_Ring_done : List Str := ["self"]
theorem sc_Ring_done : FnScope N_Ring_done ["self"] (defScope s_Ring_done) := ⟨rfl, rfl, rfl, by decide +kernel, rfl, by decide +kernel, by decide +kernel⟩
theorem cl_Ring_done (T : Bl mg) (R : RdF K mg c_Round) (W_RingLog : Gx.ClsF K mg c_RingLog "RingLog" ["entries"]) (W_Ring : Gx.ClsF K mg c_Ring "Ring" ["_places", "_limit", "_budgets", "_late", "_readers", "_log", "_done", "_phase", "_carried", "_last_wait", "_opened", "_open"]) (N_KEY : Gx.GlI mg "KEY" 0) (N_VALUE : Gx.GlI mg "VALUE" 1) (N_LIVING : Gx.GlI mg "LIVING" 2) (N_READERS : Gx.GlI mg "READERS" 3) (D : DfP K c_Ring "done" "Ring.done" s_Ring_done)  : ClP CX0 P w K mg base 3 c_Ring "done" "Ring.done" s_Ring_done (spRgI c_Ring c_RingLog c_Round RS.dn) := by
  have nd := sc_Ring_done.nd
  refine D.okP sc_Ring_done (fun vs H Q E h => ?_) (fun f cdv A outer s H vs Q E hr h => ?_)
  · obtain ⟨a, S, rfl, _⟩ := h
    rfl
  · obtain ⟨a, S, rfl, hR, k⟩ := h
    have hu := hu64 hr
    refine ⟨_, (pss_one (ps_ret (pe_fld (pv 0) rfl))), ?_⟩
    try dsimp only [L2.cxOf, L2.Cx.nox]
    simp only [L2.start, N_Ring_done, List.map_cons, List.map_nil, List.length_cons, List.length_nil, Nat.reduceAdd, Nat.reduceSub, List.replicate_succ, List.replicate_zero, List.cons_append, List.nil_append]

    obtain ⟨b, d, o, hI, hb, hd, ho⟩ := hR.ex
    walk_at "go"
    exact k
def spRgL (C CL CR : Addr) : Sp := fun vs H Q _ => ∃ (a : Addr) (S : RS), vs = [.ref a] ∧ RgC C CL CR H a S ∧ Q (.bl S.lt) H
abbrev s_Ring_late : Stmt := (inClass (top 23) 4)
abbrev N_Ring_late : List Str := ["self"]
theorem sc_Ring_late : FnScope N_Ring_late ["self"] (defScope s_Ring_late) := ⟨rfl, rfl, rfl, by decide +kernel, rfl, by decide +kernel, by decide +kernel⟩
theorem cl_Ring_late (T : Bl mg) (R : RdF K mg c_Round) (W_RingLog : Gx.ClsF K mg c_RingLog "RingLog" ["entries"]) (W_Ring : Gx.ClsF K mg c_Ring "Ring" ["_places", "_limit", "_budgets", "_late", "_readers", "_log", "_done", "_phase", "_carried", "_last_wait", "_opened", "_open"]) (N_KEY : Gx.GlI mg "KEY" 0) (N_VALUE : Gx.GlI mg "VALUE" 1) (N_LIVING : Gx.GlI mg "LIVING" 2) (N_READERS : Gx.GlI mg "READERS" 3) (D : DfP K c_Ring "late" "Ring.late" s_Ring_late)  : ClP CX0 P w K mg base 3 c_Ring "late" "Ring.late" s_Ring_late (spRgL c_Ring c_RingLog c_Round) := by
  have nd := sc_Ring_late.nd
  refine D.okP sc_Ring_late (fun vs H Q E h => ?_) (fun f cdv A outer s H vs Q E hr h => ?_)
  · obtain ⟨a, S, rfl, _⟩ := h
    rfl
  · obtain ⟨a, S, rfl, hR, k⟩ := h
    have hu := hu64 hr
    refine ⟨_, (pss_one (ps_ret (pe_fld (pv 0) rfl))), ?_⟩
    try dsimp only [L2.cxOf, L2.Cx.nox]
    simp only [L2.start, N_Ring_late, List.map_cons, List.map_nil, List.length_cons, List.length_nil, Nat.reduceAdd, Nat.reduceSub, List.replicate_succ, List.replicate_zero, List.cons_append, List.nil_append]

    obtain ⟨b, d, o, hI, hb, hd, ho⟩ := hR.ex
    walk_at "go"
    exact k
def spRgB (C CL CR : Addr) : Sp := fun vs H Q _ => ∃ (a : Addr) (S : RS), vs = [.ref a] ∧ RgC C CL CR H a S ∧ ∀ b, RdC CR H b S.bs → Q (.ref b) H
abbrev s_Ring_budgets : Stmt := (inClass (top 23) 3)
abbrev N_Ring_budgets : List Str := ["self"]
theorem sc_Ring_budgets : FnScope N_Ring_budgets ["self"] (defScope s_Ring_budgets) := ⟨rfl, rfl, rfl, by decide +kernel, rfl, by decide +kernel, by decide +kernel⟩
theorem cl_Ring_budgets (T : Bl mg) (R : RdF K mg c_Round) (W_RingLog : Gx.ClsF K mg c_RingLog "RingLog" ["entries"]) (W_Ring : Gx.ClsF K mg c_Ring "Ring" ["_places", "_limit", "_budgets", "_late", "_readers", "_log", "_done", "_phase", "_carried", "_last_wait", "_opened", "_open"]) (N_KEY : Gx.GlI mg "KEY" 0) (N_VALUE : Gx.GlI mg "VALUE" 1) (N_LIVING : Gx.GlI mg "LIVING" 2) (N_READERS : Gx.GlI mg "READERS" 3) (D : DfP K c_Ring "budgets" "Ring.budgets" s_Ring_budgets)  : ClP CX0 P w K mg base 3 c_Ring "budgets" "Ring.budgets" s_Ring_budgets (spRgB c_Ring c_RingLog c_Round) := by
  have nd := sc_Ring_budgets.nd
  refine D.okP sc_Ring_budgets (fun vs H Q E h => ?_) (fun f cdv A outer s H vs Q E hr h => ?_)
  · obtain ⟨a, S, rfl, _⟩ := h
    rfl
  · obtain ⟨a, S, rfl, hR, k⟩ := h
    have hu := hu64 hr
    refine ⟨_, (pss_one (ps_ret (pe_fld (pv 0) rfl))), ?_⟩
    try dsimp only [L2.cxOf, L2.Cx.nox]
    simp only [L2.start, N_Ring_budgets, List.map_cons, List.map_nil, List.length_cons, List.length_nil, Nat.reduceAdd, Nat.reduceSub, List.replicate_succ, List.replicate_zero, List.cons_append, List.nil_append]

    obtain ⟨b, d, o, hI, hb, hd, ho⟩ := hR.ex
    walk_at "go"
    exact k _ hb
def spRgW (C CL CR : Addr) : Sp := fun vs H Q _ => ∃ (a : Addr) (S : RS), vs = [.ref a] ∧ (RgC C CL CR H a S ∧ S.L.length ≤ 1000) ∧ ∀ H', Ex H H' → Q (.str (Gx.tx (S.L.map En.need))) H'
def spRgF (C CL CR : Addr) : Sp := fun vs H Q _ => ∃ (a : Addr) (S : RS), vs = [.ref a] ∧ (RgC C CL CR H a S ∧ S.L.length ≤ 1000) ∧ Q (.int (S.p - (S.L.length : Nat))) H
abbrev s_Ring_free : Stmt := (inClass (top 23) 7)
abbrev N_Ring_free : List Str := ["self"]
theorem sc_Ring_free : FnScope N_Ring_free ["self"] (defScope s_Ring_free) := ⟨rfl, rfl, rfl, by decide +kernel, rfl, by decide +kernel, by decide +kernel⟩
theorem cl_Ring_free (T : Bl mg) (R : RdF K mg c_Round) (W_RingLog : Gx.ClsF K mg c_RingLog "RingLog" ["entries"]) (W_Ring : Gx.ClsF K mg c_Ring "Ring" ["_places", "_limit", "_budgets", "_late", "_readers", "_log", "_done", "_phase", "_carried", "_last_wait", "_opened", "_open"]) (N_KEY : Gx.GlI mg "KEY" 0) (N_VALUE : Gx.GlI mg "VALUE" 1) (N_LIVING : Gx.GlI mg "LIVING" 2) (N_READERS : Gx.GlI mg "READERS" 3) (D : DfP K c_Ring "free" "Ring.free" s_Ring_free)  : ClP CX0 P w K mg base 3 c_Ring "free" "Ring.free" s_Ring_free (spRgF c_Ring c_RingLog c_Round) := by
  have nd := sc_Ring_free.nd
  refine D.okP sc_Ring_free (fun vs H Q E h => ?_) (fun f cdv A outer s H vs Q E hr h => ?_)
  · obtain ⟨a, S, rfl, _⟩ := h
    rfl
  · obtain ⟨a, S, rfl, ⟨hR, hl⟩, k⟩ := h
    have hu := hu64 hr
    refine ⟨_, (pss_one (ps_ret (pe_op opSub (pe_fld (pv 0) rfl) (pe_callB (callLenK (K := K) (by rfl)) (by rfl) T.len (by decide +kernel) (pa_cons (pe_fld (pe_fld (pv 0) rfl) rfl) pa_nil))))), ?_⟩
    try dsimp only [L2.cxOf, L2.Cx.nox]
    simp only [L2.start, N_Ring_free, List.map_cons, List.map_nil, List.length_cons, List.length_nil, Nat.reduceAdd, Nat.reduceSub, List.replicate_succ, List.replicate_zero, List.cons_append, List.nil_append]

    obtain ⟨b, d, o, hI, hb, hd, ho⟩ := hR.ex
    obtain ⟨e, ps, h1, h2⟩ := hd.ex
    walk_at "go"
    rw [h2.len]
    exact k
def spRgN (C CL CR : Addr) : Sp := fun vs H Q _ => ∃ (a : Addr) (S : RS), vs = [.ref a] ∧ (RgC C CL CR H a S ∧ S.L.length ≤ 1000) ∧ ∀ H', Ex H H' → Q (.int (S.L.countP En.l : Nat)) H'
abbrev s_Ring___len__ : Stmt := (inClass (top 23) 12)
abbrev N_Ring___len__ : List Str := ["self", "entry"]
theorem sc_Ring___len__ : FnScope N_Ring___len__ ["self"] (defScope s_Ring___len__) := ⟨rfl, rfl, rfl, by decide +kernel, rfl, by decide +kernel, by decide +kernel⟩
theorem cl_Ring___len__ (T : Bl mg) (R : RdF K mg c_Round) (W_RingLog : Gx.ClsF K mg c_RingLog "RingLog" ["entries"]) (W_Ring : Gx.ClsF K mg c_Ring "Ring" ["_places", "_limit", "_budgets", "_late", "_readers", "_log", "_done", "_phase", "_carried", "_last_wait", "_opened", "_open"]) (N_KEY : Gx.GlI mg "KEY" 0) (N_VALUE : Gx.GlI mg "VALUE" 1) (N_LIVING : Gx.GlI mg "LIVING" 2) (N_READERS : Gx.GlI mg "READERS" 3) (D : DfM K c_Ring "__len__" "Ring.__len__" s_Ring___len__ [] [])  : ClM CX0 P w K mg base 3 c_Ring "__len__" "Ring.__len__" s_Ring___len__ ["self"] [] [] (spRgN c_Ring c_RingLog c_Round) := by
  have nd := sc_Ring___len__.nd
  refine D.okP sc_Ring___len__ (fun vs H Q E h => ?_) (fun f cdv A outer s H vs Q E hr h => ?_)
  · obtain ⟨a, S, rfl, _⟩ := h
    rfl
  · obtain ⟨a, S, rfl, ⟨hR, hl⟩, k⟩ := h
    have hu := hu64 hr
    refine ⟨_, (pss_one (ps_ret (pe_callB (callLenK (K := K) (by rfl)) (by rfl) T.len (by decide +kernel) (pa_cons (pe_lc (own := [("entry", 1)]) (g := gName 1) rfl nd (pi_listK (K := K) (by rfl) (pe_fld (pe_fld (pv 0) rfl) rfl)) (blkOk_by (own := [("entry", 1)]) (N := N_Ring___len__) (sc := defScope s_Ring___len__) (by decide +kernel)) (fun _ _ _ _ _ => (pg_name (i := 1) nd rfl (Or.inl rfl))) (fun _ _ _ _ _ => (pts_one (pt_val (pe_ix (ixSeqK (K := K) (by rfl)) (pv 1) (pe_gI N_LIVING) (fun _ _ => rfl))))) (fun _ _ _ _ _ => (pv 1))) pa_nil)))), ?_⟩
    try dsimp only [L2.cxOf, L2.Cx.nox]
    simp only [L2.start, N_Ring___len__, List.map_cons, List.map_nil, List.length_cons, List.length_nil, Nat.reduceAdd, Nat.reduceSub, List.replicate_succ, List.replicate_zero, List.cons_append, List.nil_append]

    obtain ⟨b, d, o, hI, hb, hd, ho⟩ := hR.ex
    obtain ⟨e, ps, h1, h2⟩ := hd.ex
    walk_at "go"
    refine Gx.lcL_P (fun D i acc H' => acc.length = (S.L.take i).countP En.l) (fun D H1 _ _ _ => by simp) (fun D i v acc H' hv hD e1 hp hA => ?_) (fun D acc H' hD e1 hp hA => ?_)
    · rw [List.getElem?_map] at hv
      cases hpi : ps[i]? with
      | none => rw [hpi] at hv; cases hv
      | some p =>
        rw [hpi] at hv
        cases hv
        obtain ⟨en, hen, hE⟩ := h2.ent i p hpi
        have hca := List.countP_le_length (p := En.l) (l := S.L.take i)
        have hct := List.length_take_le i S.L
        have hpl := (List.getElem?_eq_some_iff.mp hpi).1
        have hpn := h2.len
        walk_at "gos"
        · exact ⟨Gx.rel, by rw [List.length_append, hA, List.take_succ, hen, List.countP_append]; simp [*]⟩
        · exact ⟨Gx.rel, by rw [hA, List.take_succ, hen, List.countP_append]; simp [*]⟩
    · rw [List.length_map, h2.len, List.take_of_length_le (Nat.le_refl _)] at hA
      walk_at "gos"
      rw [hA]
      exact k _ Gx.rel
theorem use_rgn {C CL CR a : Addr} {S : RS} {H : Hp} {Q : VK} {E : XK} [h : RgC C CL CR H a S] (hl : S.L.length ≤ 1000) (q : ∀ H', Ex H H' → Q (.int (S.L.countP En.l : Nat)) H') : spRgN C CL CR [.ref a] H (fun v H' => (∃ n : Nat, v = .int n ∧ n < 2 ^ 60) ∧ Q v H') E :=
  ⟨a, S, rfl, ⟨h, hl⟩, fun H' e => ⟨⟨_, rfl, by have := List.countP_le_length (p := En.l) (l := S.L); omega⟩, q H' e⟩⟩
def spRgC (C CL CR : Addr) : Sp := fun vs H Q _ => ∃ (a : Addr) (S : RS) (z : Str), vs = [.ref a, .str z] ∧ (RgC C CL CR H a S ∧ S.L.length ≤ 1000) ∧ ∀ H', Ex H H' → Q (.bl (findL z S.L).isSome) H'
abbrev s_Ring___contains__ : Stmt := (inClass (top 23) 13)
abbrev N_Ring___contains__ : List Str := ["self", "key"]
theorem sc_Ring___contains__ : FnScope N_Ring___contains__ ["self", "key"] (defScope s_Ring___contains__) := ⟨rfl, rfl, rfl, by decide +kernel, rfl, by decide +kernel, by decide +kernel⟩
theorem cl_Ring___contains__ (T : Bl mg) (R : RdF K mg c_Round) (W_RingLog : Gx.ClsF K mg c_RingLog "RingLog" ["entries"]) (W_Ring : Gx.ClsF K mg c_Ring "Ring" ["_places", "_limit", "_budgets", "_late", "_readers", "_log", "_done", "_phase", "_carried", "_last_wait", "_opened", "_open"]) (N_KEY : Gx.GlI mg "KEY" 0) (N_VALUE : Gx.GlI mg "VALUE" 1) (N_LIVING : Gx.GlI mg "LIVING" 2) (N_READERS : Gx.GlI mg "READERS" 3) (D : DfM K c_Ring "__contains__" "Ring.__contains__" s_Ring___contains__ [] []) (C_RingLog_find_living : ClM CX0 P w K mg base 3 c_RingLog "find_living" "RingLog.find_living" s_RingLog_find_living ["self", "key"] [] [] (spFnl c_RingLog)) : ClM CX0 P w K mg base 5 c_Ring "__contains__" "Ring.__contains__" s_Ring___contains__ ["self", "key"] [] [] (spRgC c_Ring c_RingLog c_Round) := by
  have nd := sc_Ring___contains__.nd
  refine D.okP sc_Ring___contains__ (fun vs H Q E h => ?_) (fun f cdv A outer s H vs Q E hr h => ?_)
  · obtain ⟨a, S, z, rfl, _⟩ := h
    rfl
  · obtain ⟨a, S, z, rfl, ⟨hR, hl⟩, k⟩ := h
    have hu := hu64 hr
    refine ⟨_, (pss_one (ps_ret (pe_cmpR opNotN (pe_m C_RingLog_find_living W_RingLog.c (by exact hr.mono (by decide)) pass0 (fun _ _ _ _ _ _ us hl => match us, hl with | [_, _], _ => rfl) (pe_fld (pv 0) rfl) (pa_cons (pv 1) pa_nil)) pe_non (nomark _)))), ?_⟩
    try dsimp only [L2.cxOf, L2.Cx.nox]
    simp only [L2.start, N_Ring___contains__, List.map_cons, List.map_nil, List.length_cons, List.length_nil, Nat.reduceAdd, Nat.reduceSub, List.replicate_succ, List.replicate_zero, List.cons_append, List.nil_append]

    obtain ⟨b, d, o, hI, hb, hd, ho⟩ := hR.ex
    obtain ⟨e, ps, h1, h2⟩ := hd.ex
    walk_at "go"
    cases hf : findL z S.L with
    | none =>
      rw [hf] at k
      dsimp only [oV]
      walk_at "go"
      exact k _ Gx.rel
    | some i =>
      rw [hf] at k
      dsimp only [oV]
      walk_at "go"
      exact k _ Gx.rel
theorem use_rgc {C CL CR a : Addr} {S : RS} {z : Str} {H : Hp} {R : V → Hp → Prop} {E : XK} [h : RgC C CL CR H a S] (hl : S.L.length ≤ 1000) (q : ∀ H', Ex H H' → R (.bl (findL z S.L).isSome) H') : spRgC C CL CR [.ref a, .str z] H R E :=
  ⟨a, S, z, rfl, ⟨h, hl⟩, q⟩
def logV (e : En) (v : V) (H : Hp) : Prop := (e.need = false ∧ v = .non) ∨ (e.need = true ∧ ∃ t, v = .ref t ∧ H t = some (.tup [.str e.k, .int e.v]))
theorem logV.step {e : En} {v : V} {bs : List Addr} {H1 H : Hp} (h : logV e v H1) (r : Chg bs H1 H) : logV e v H := by
  rcases h with h | ⟨h1, t, h2, h3⟩
  · exact .inl h
  · exact .inr ⟨h1, t, h2, r.imm _ _ (.inl ⟨_, rfl⟩) h3⟩
/-- the list that log tells: a pair or None for each record -/
def LogsAt (H : Hp) (p : Addr) (L : List En) : Prop := ∃ vs, H p = some (.lst vs) ∧ vs.length = L.length ∧ ∀ (i : Nat) v, vs[i]? = some v → ∃ e, L[i]? = some e ∧ logV e v H
def spRgG (C CL CR : Addr) : Sp := fun vs H Q _ => ∃ (a : Addr) (S : RS), vs = [.ref a] ∧ (RgC C CL CR H a S ∧ S.L.length ≤ 1000) ∧ ∀ p H', Nw H p → Ex H H' → LogsAt H' p S.L → Q (.ref p) H'
abbrev s_Ring_log : Stmt := (inClass (top 23) 16)
abbrev N_Ring_log : List Str := ["self", "entry"]
theorem sc_Ring_log : FnScope N_Ring_log ["self"] (defScope s_Ring_log) := ⟨rfl, rfl, rfl, by decide +kernel, rfl, by decide +kernel, by decide +kernel⟩
theorem cl_Ring_log (T : Bl mg) (R : RdF K mg c_Round) (W_RingLog : Gx.ClsF K mg c_RingLog "RingLog" ["entries"]) (W_Ring : Gx.ClsF K mg c_Ring "Ring" ["_places", "_limit", "_budgets", "_late", "_readers", "_log", "_done", "_phase", "_carried", "_last_wait", "_opened", "_open"]) (N_KEY : Gx.GlI mg "KEY" 0) (N_VALUE : Gx.GlI mg "VALUE" 1) (N_LIVING : Gx.GlI mg "LIVING" 2) (N_READERS : Gx.GlI mg "READERS" 3) (D : DfM K c_Ring "log" "Ring.log" s_Ring_log [] []) (C_is_needed : ClG CX0 P w K mg base 3 "is_needed" s_is_needed ["entry"] [] [] spNdd) : ClM CX0 P w K mg base 5 c_Ring "log" "Ring.log" s_Ring_log ["self"] [] [] (spRgG c_Ring c_RingLog c_Round) := by
  have nd := sc_Ring_log.nd
  refine D.okP sc_Ring_log (fun vs H Q E h => ?_) (fun f cdv A outer s H vs Q E hr h => ?_)
  · obtain ⟨a, S, rfl, _⟩ := h
    rfl
  · obtain ⟨a, S, rfl, ⟨hR, hl⟩, k⟩ := h
    have hu := hu64 hr
    refine ⟨_, (pss_one (ps_ret (pe_lc (own := [("entry", 1)]) (g := gName 1) rfl nd (pi_listK (K := K) (by rfl) (pe_fld (pe_fld (pv 0) rfl) rfl)) (blkOk_by (own := [("entry", 1)]) (N := N_Ring_log) (sc := defScope s_Ring_log) (by decide +kernel)) (fun _ _ _ _ _ => (pg_name (i := 1) nd rfl (Or.inl rfl))) (fun _ _ _ _ _ => pts_nil) (fun _ _ _ _ _ => (pe_ifExp (pt_val (pe_g C_is_needed (by exact hr.mono (by decide)) (E := fun _ => E0) (fun σ => passC0 σ) (fun _ _ _ _ _ _ us hl => match us, hl with | [_], _ => rfl) (pa_cons (pv 1) pa_nil))) (pe_tup (pa_cons (pe_ix (ixSeqK (K := K) (by rfl)) (pv 1) (pe_gI N_KEY) (fun _ _ => rfl)) (pa_cons (pe_ix (ixSeqK (K := K) (by rfl)) (pv 1) (pe_gI N_VALUE) (fun _ _ => rfl)) pa_nil))) pe_non))))), ?_⟩
    try dsimp only [L2.cxOf, L2.Cx.nox]
    simp only [L2.start, N_Ring_log, List.map_cons, List.map_nil, List.length_cons, List.length_nil, Nat.reduceAdd, Nat.reduceSub, List.replicate_succ, List.replicate_zero, List.cons_append, List.nil_append]

    obtain ⟨b, d, o, hI, hb, hd, ho⟩ := hR.ex
    obtain ⟨e, ps, h1, h2⟩ := hd.ex
    walk_at "go"
    refine Gx.lcL_P (fun D i acc H' => acc.length = i ∧ ∀ (j : Nat) v, acc[j]? = some v → ∃ e, S.L[j]? = some e ∧ logV e v H') (fun D H1 _ _ _ => ⟨rfl, fun j v hj => by simp at hj⟩) (fun D i v acc H' hv hD e1 hp hA => ?_) (fun D acc H' hD e1 hp hA => ?_)
    · rw [List.getElem?_map] at hv
      cases hpi : ps[i]? with
      | none => rw [hpi] at hv; cases hv
      | some p =>
        rw [hpi] at hv
        cases hv
        obtain ⟨en, hen, hE⟩ := h2.ent i p hpi
        obtain ⟨hal, hA⟩ := hA
        have hpl := (List.getElem?_eq_some_iff.mp hpi).1
        have hpn := h2.len
        have fin : ∀ (u : V) (H5 : Hp), Chg [D] H' H5 → logV en u H5 → ∀ (j : Nat) v, (acc ++ [u])[j]? = some v → ∃ e, S.L[j]? = some e ∧ logV e v H5 := fun u H5 r hu j v hj => by
          by_cases hji : j < acc.length
          · rw [List.getElem?_append_left hji] at hj
            obtain ⟨e2, g1, g2⟩ := hA j v hj
            exact ⟨e2, g1, g2.step r⟩
          · rw [List.getElem?_append_right (by omega)] at hj
            have hz : j - acc.length = 0 := by
              have := (List.getElem?_eq_some_iff.mp hj).1
              simp at this
              omega
            rw [hz] at hj
            obtain rfl : u = v := by simpa using hj
            exact ⟨en, by rw [show j = i from by omega]; exact hen, hu⟩
        walk_at "gos"
        · rename_i hN t J1 m3 f3 ht J2 f4 h4
          refine ⟨Gx.rel, by simp [hal], fin _ _ ?_ (.inr ⟨hN, t, rfl, f4.imm _ _ (.inl ⟨_, rfl⟩) ht.eq⟩)⟩
          exact ⟨fun x o n h => f4.keep x o n (f3.keep x o (by simp) h), fun x h => f3.live x (f4.live x h), fun x o i h => f4.imm x o i (f3.imm x o i h)⟩
        · rename_i hN J2 f4 h4
          exact ⟨Gx.rel, by simp [hal], fin _ _ f4 (.inl ⟨hN, rfl⟩)⟩
    · obtain ⟨hal, hA⟩ := hA
      walk_at "gos"
      exact k D H' Gx.new Gx.rel ⟨acc, hp.eq, by rw [hal, List.length_map, h2.len], hA⟩

/-- one more budget -/
theorem twice_at {bs : List Int} {s : Int} {r : Nat} (h : RB bs) (hr : r ≤ bs.length) : ((bs ++ bs).drop (s % (bs.length : Int)).toNat)[r]? = some (bs.getD ((s + r) % (bs.length : Int)).toNat 0) := by
  have l1 := h.l1
  obtain ⟨h0, h1⟩ := modb (s := s) (n := bs.length) (by omega)
  have e : (s + r) % (bs.length : Int) = (s % (bs.length : Int) + r) % (bs.length : Int) := by rw [Int.emod_add_emod]
  rw [e]
  obtain ⟨j, hj⟩ : ∃ j : Nat, s % (bs.length : Int) = j := ⟨(s % (bs.length : Int)).toNat, by omega⟩
  rw [hj] at h0 h1 ⊢
  rw [List.getElem?_drop, Int.toNat_natCast, show ((j : Int) + (r : Nat)) % ((bs.length : Nat) : Int) = (((j + r) % bs.length : Nat) : Int) from rfl, Int.toNat_natCast]
  have hm : (j + r) % bs.length < bs.length := Nat.mod_lt _ l1
  rw [List.getD_eq_getElem?_getD, List.getElem?_eq_getElem hm, Option.getD_some]
  by_cases z : j + r < bs.length
  · rw [List.getElem?_append_left z, List.getElem?_eq_getElem z]
    congr 2
    rw [Nat.mod_eq_of_lt z]
  · rw [List.getElem?_append_right (by omega), List.getElem?_eq_getElem (by omega)]
    congr 2
    rw [Nat.mod_eq_sub_mod (by omega), Nat.mod_eq_of_lt (by omega)]
/-- the sum of the first r budgets from s on -/
def part (bs : List Int) (s : Int) (r : Nat) : Int := (((bs ++ bs).drop (s % (bs.length : Int)).toNat).take r).sum
theorem part_succ {bs : List Int} {s : Int} {r : Nat} (h : RB bs) (hr : r ≤ bs.length) : part bs s (r + 1) = part bs s r + bs.getD ((s + r) % (bs.length : Int)).toNat 0 := by
  unfold part
  rw [List.take_succ, twice_at h hr, sum_app]
  simp

/-! windows grow by one -/
theorem part_full {bs : List Int} {s : Int} (h : RB bs) : part bs s bs.length = bs.sum := by
  have l1 := h.l1
  obtain ⟨h0, h1⟩ := modb (s := s) (n := bs.length) (by omega)
  unfold part
  have hj : (s % (bs.length : Int)).toNat < bs.length := by omega
  generalize (s % (bs.length : Int)).toNat = j at hj ⊢
  rw [List.drop_append_of_le_length (by omega), List.take_append, List.take_of_length_le (by rw [List.length_drop]; omega), List.length_drop, show bs.length - (bs.length - j) = j from by omega, sum_app]
  have e := congrArg List.sum (List.take_append_drop j bs)
  rw [sum_app] at e
  omega
theorem win_nat {bs : List Int} {s : Int} {c : Nat} : win bs s (c : Nat) = ((c / bs.length : Nat) : Int) * bs.sum + part bs s (c % bs.length) := rfl
theorem win_succ {bs : List Int} {s : Int} (h : RB bs) (c : Nat) : win bs s ((c + 1 : Nat) : Int) = win bs s (c : Nat) + nth bs (s + (c : Nat)) := by
  have l1 := h.l1
  have hr : c % bs.length < bs.length := Nat.mod_lt _ l1
  have hc := Nat.div_add_mod c bs.length
  have hn : nth bs (s + (c : Nat)) = bs.getD ((s + ((c % bs.length : Nat) : Int)) % (bs.length : Int)).toNat 0 := by
    unfold nth
    rw [show ((c % bs.length : Nat) : Int) = (c : Int) % (bs.length : Int) from rfl, Int.add_emod_emod]
  have hp := part_succ h (s := s) (r := c % bs.length) (Nat.le_of_lt hr)
  rw [win_nat, win_nat, hn]
  by_cases z : c % bs.length + 1 < bs.length
  · have e : c + 1 = bs.length * (c / bs.length) + (c % bs.length + 1) := by omega
    have e1 : (c + 1) / bs.length = c / bs.length := by
      rw [e, Nat.mul_add_div l1, Nat.div_eq_of_lt z, Nat.add_zero]
    have e2 : (c + 1) % bs.length = c % bs.length + 1 := by
      rw [e, Nat.mul_add_mod, Nat.mod_eq_of_lt z]
    rw [e1, e2, hp]
    omega
  · have y : c % bs.length + 1 = bs.length := by omega
    have e : c + 1 = bs.length * (c / bs.length) + bs.length := by omega
    have e1 : (c + 1) / bs.length = c / bs.length + 1 := by
      rw [e, Nat.mul_add_div l1, Nat.div_self l1]
    have e2 : (c + 1) % bs.length = 0 := by
      rw [e, Nat.mul_add_mod, Nat.mod_self]
    rw [y, part_full h] at hp
    rw [e1, e2, show part bs s 0 = 0 from by simp [part], Int.natCast_add, Int.add_mul]
    omega
theorem nth_b {bs : List Int} {t : Int} (h : RB bs) : 0 ≤ nth bs t := by
  have l1 := h.l1
  obtain ⟨h0, h1⟩ := modb (s := t) (n := bs.length) (by omega)
  unfold nth
  rw [List.getD_eq_getElem?_getD, List.getElem?_eq_getElem (by omega), Option.getD_some]
  exact h.h0 _ (List.getElem_mem _)
theorem win_mod {bs : List Int} {s c : Int} : win bs s c = win bs (s % (bs.length : Int)) c := by
  unfold win
  rw [Int.emod_emod_of_dvd _ (Int.dvd_refl _)]
theorem least_le {bs : List Int} {s c : Int} (h : RB bs) : least bs c ≤ win bs s c := by
  have l1 := h.l1
  obtain ⟨h0, h1⟩ := modb (s := s) (n := bs.length) (by omega)
  rw [win_mod]
  refine (least_is h).2 _ (List.mem_map.mpr ⟨(s % (bs.length : Int)).toNat, List.mem_range.mpr (by omega), ?_⟩)
  rw [Int.toNat_of_nonneg h0]

abbrev s_InvalidInput___init__ : Stmt := (inClass (top 3) 0)
abbrev s_KeyLimit___init__ : Stmt := (inClass (top 4) 0)
abbrev s_UnknownKey___init__ : Stmt := (inClass (top 5) 0)
abbrev s_BadChoice___init__ : Stmt := (inClass (top 6) 0)
abbrev s_Stalled___init__ : Stmt := (inClass (top 7) 0)
structure EcF (P : Program) (K : PySem.W.Frag) (mg : Str → Option Value) (c_StoreError c_InvalidInput c_KeyLimit c_UnknownKey c_BadChoice c_Stalled : Addr) : Prop where
  g_StoreError : mg "StoreError" = some (.ref c_StoreError)
  g_InvalidInput : mg "InvalidInput" = some (.ref c_InvalidInput)
  g_KeyLimit : mg "KeyLimit" = some (.ref c_KeyLimit)
  g_UnknownKey : mg "UnknownKey" = some (.ref c_UnknownKey)
  g_BadChoice : mg "BadChoice" = some (.ref c_BadChoice)
  g_Stalled : mg "Stalled" = some (.ref c_Stalled)
  d_InvalidInput : ExD P K mg "InvalidInput" "InvalidInput.__init__" s_InvalidInput___init__ ["self", "field"] c_InvalidInput
  xf_InvalidInput : XfC K c_InvalidInput
  xc_InvalidInput : ExcC K c_InvalidInput
  em_InvalidInput_StoreError : PySem.W.exmOne K (.ref c_InvalidInput) (.ref c_StoreError) = some true
  kt_InvalidInput_StoreError : PySem.W.kitOne K (.ref c_InvalidInput) (.ref c_StoreError) = some true
  em_InvalidInput_InvalidInput : PySem.W.exmOne K (.ref c_InvalidInput) (.ref c_InvalidInput) = some true
  kt_InvalidInput_InvalidInput : PySem.W.kitOne K (.ref c_InvalidInput) (.ref c_InvalidInput) = some true
  em_InvalidInput_KeyLimit : PySem.W.exmOne K (.ref c_InvalidInput) (.ref c_KeyLimit) = some false
  kt_InvalidInput_KeyLimit : PySem.W.kitOne K (.ref c_InvalidInput) (.ref c_KeyLimit) = some false
  em_InvalidInput_UnknownKey : PySem.W.exmOne K (.ref c_InvalidInput) (.ref c_UnknownKey) = some false
  kt_InvalidInput_UnknownKey : PySem.W.kitOne K (.ref c_InvalidInput) (.ref c_UnknownKey) = some false
  em_InvalidInput_BadChoice : PySem.W.exmOne K (.ref c_InvalidInput) (.ref c_BadChoice) = some false
  kt_InvalidInput_BadChoice : PySem.W.kitOne K (.ref c_InvalidInput) (.ref c_BadChoice) = some false
  em_InvalidInput_Stalled : PySem.W.exmOne K (.ref c_InvalidInput) (.ref c_Stalled) = some false
  kt_InvalidInput_Stalled : PySem.W.kitOne K (.ref c_InvalidInput) (.ref c_Stalled) = some false
  em_InvalidInput_ValueError : PySem.W.exmOne K (.ref c_InvalidInput) (.type "ValueError") = some true
  kt_InvalidInput_ValueError : PySem.W.kitOne K (.ref c_InvalidInput) (.type "ValueError") = some true
  ns_InvalidInput : PySem.W.subIn K (.ref c_InvalidInput) (.type "StopIteration") = some false
  d_KeyLimit : ExD P K mg "KeyLimit" "KeyLimit.__init__" s_KeyLimit___init__ ["self", "most"] c_KeyLimit
  xf_KeyLimit : XfC K c_KeyLimit
  xc_KeyLimit : ExcC K c_KeyLimit
  em_KeyLimit_StoreError : PySem.W.exmOne K (.ref c_KeyLimit) (.ref c_StoreError) = some true
  kt_KeyLimit_StoreError : PySem.W.kitOne K (.ref c_KeyLimit) (.ref c_StoreError) = some true
  em_KeyLimit_InvalidInput : PySem.W.exmOne K (.ref c_KeyLimit) (.ref c_InvalidInput) = some false
  kt_KeyLimit_InvalidInput : PySem.W.kitOne K (.ref c_KeyLimit) (.ref c_InvalidInput) = some false
  em_KeyLimit_KeyLimit : PySem.W.exmOne K (.ref c_KeyLimit) (.ref c_KeyLimit) = some true
  kt_KeyLimit_KeyLimit : PySem.W.kitOne K (.ref c_KeyLimit) (.ref c_KeyLimit) = some true
  em_KeyLimit_UnknownKey : PySem.W.exmOne K (.ref c_KeyLimit) (.ref c_UnknownKey) = some false
  kt_KeyLimit_UnknownKey : PySem.W.kitOne K (.ref c_KeyLimit) (.ref c_UnknownKey) = some false
  em_KeyLimit_BadChoice : PySem.W.exmOne K (.ref c_KeyLimit) (.ref c_BadChoice) = some false
  kt_KeyLimit_BadChoice : PySem.W.kitOne K (.ref c_KeyLimit) (.ref c_BadChoice) = some false
  em_KeyLimit_Stalled : PySem.W.exmOne K (.ref c_KeyLimit) (.ref c_Stalled) = some false
  kt_KeyLimit_Stalled : PySem.W.kitOne K (.ref c_KeyLimit) (.ref c_Stalled) = some false
  em_KeyLimit_ValueError : PySem.W.exmOne K (.ref c_KeyLimit) (.type "ValueError") = some true
  kt_KeyLimit_ValueError : PySem.W.kitOne K (.ref c_KeyLimit) (.type "ValueError") = some true
  ns_KeyLimit : PySem.W.subIn K (.ref c_KeyLimit) (.type "StopIteration") = some false
  d_UnknownKey : ExD P K mg "UnknownKey" "UnknownKey.__init__" s_UnknownKey___init__ ["self", "key"] c_UnknownKey
  xf_UnknownKey : XfC K c_UnknownKey
  xc_UnknownKey : ExcC K c_UnknownKey
  em_UnknownKey_StoreError : PySem.W.exmOne K (.ref c_UnknownKey) (.ref c_StoreError) = some true
  kt_UnknownKey_StoreError : PySem.W.kitOne K (.ref c_UnknownKey) (.ref c_StoreError) = some true
  em_UnknownKey_InvalidInput : PySem.W.exmOne K (.ref c_UnknownKey) (.ref c_InvalidInput) = some false
  kt_UnknownKey_InvalidInput : PySem.W.kitOne K (.ref c_UnknownKey) (.ref c_InvalidInput) = some false
  em_UnknownKey_KeyLimit : PySem.W.exmOne K (.ref c_UnknownKey) (.ref c_KeyLimit) = some false
  kt_UnknownKey_KeyLimit : PySem.W.kitOne K (.ref c_UnknownKey) (.ref c_KeyLimit) = some false
  em_UnknownKey_UnknownKey : PySem.W.exmOne K (.ref c_UnknownKey) (.ref c_UnknownKey) = some true
  kt_UnknownKey_UnknownKey : PySem.W.kitOne K (.ref c_UnknownKey) (.ref c_UnknownKey) = some true
  em_UnknownKey_BadChoice : PySem.W.exmOne K (.ref c_UnknownKey) (.ref c_BadChoice) = some false
  kt_UnknownKey_BadChoice : PySem.W.kitOne K (.ref c_UnknownKey) (.ref c_BadChoice) = some false
  em_UnknownKey_Stalled : PySem.W.exmOne K (.ref c_UnknownKey) (.ref c_Stalled) = some false
  kt_UnknownKey_Stalled : PySem.W.kitOne K (.ref c_UnknownKey) (.ref c_Stalled) = some false
  em_UnknownKey_ValueError : PySem.W.exmOne K (.ref c_UnknownKey) (.type "ValueError") = some true
  kt_UnknownKey_ValueError : PySem.W.kitOne K (.ref c_UnknownKey) (.type "ValueError") = some true
  ns_UnknownKey : PySem.W.subIn K (.ref c_UnknownKey) (.type "StopIteration") = some false
  d_BadChoice : ExD P K mg "BadChoice" "BadChoice.__init__" s_BadChoice___init__ ["self", "choice"] c_BadChoice
  xf_BadChoice : XfC K c_BadChoice
  xc_BadChoice : ExcC K c_BadChoice
  em_BadChoice_StoreError : PySem.W.exmOne K (.ref c_BadChoice) (.ref c_StoreError) = some true
  kt_BadChoice_StoreError : PySem.W.kitOne K (.ref c_BadChoice) (.ref c_StoreError) = some true
  em_BadChoice_InvalidInput : PySem.W.exmOne K (.ref c_BadChoice) (.ref c_InvalidInput) = some false
  kt_BadChoice_InvalidInput : PySem.W.kitOne K (.ref c_BadChoice) (.ref c_InvalidInput) = some false
  em_BadChoice_KeyLimit : PySem.W.exmOne K (.ref c_BadChoice) (.ref c_KeyLimit) = some false
  kt_BadChoice_KeyLimit : PySem.W.kitOne K (.ref c_BadChoice) (.ref c_KeyLimit) = some false
  em_BadChoice_UnknownKey : PySem.W.exmOne K (.ref c_BadChoice) (.ref c_UnknownKey) = some false
  kt_BadChoice_UnknownKey : PySem.W.kitOne K (.ref c_BadChoice) (.ref c_UnknownKey) = some false
  em_BadChoice_BadChoice : PySem.W.exmOne K (.ref c_BadChoice) (.ref c_BadChoice) = some true
  kt_BadChoice_BadChoice : PySem.W.kitOne K (.ref c_BadChoice) (.ref c_BadChoice) = some true
  em_BadChoice_Stalled : PySem.W.exmOne K (.ref c_BadChoice) (.ref c_Stalled) = some false
  kt_BadChoice_Stalled : PySem.W.kitOne K (.ref c_BadChoice) (.ref c_Stalled) = some false
  em_BadChoice_ValueError : PySem.W.exmOne K (.ref c_BadChoice) (.type "ValueError") = some true
  kt_BadChoice_ValueError : PySem.W.kitOne K (.ref c_BadChoice) (.type "ValueError") = some true
  ns_BadChoice : PySem.W.subIn K (.ref c_BadChoice) (.type "StopIteration") = some false
  d_Stalled : ExD P K mg "Stalled" "Stalled.__init__" s_Stalled___init__ ["self", "deeds"] c_Stalled
  xf_Stalled : XfC K c_Stalled
  xc_Stalled : ExcC K c_Stalled
  em_Stalled_StoreError : PySem.W.exmOne K (.ref c_Stalled) (.ref c_StoreError) = some true
  kt_Stalled_StoreError : PySem.W.kitOne K (.ref c_Stalled) (.ref c_StoreError) = some true
  em_Stalled_InvalidInput : PySem.W.exmOne K (.ref c_Stalled) (.ref c_InvalidInput) = some false
  kt_Stalled_InvalidInput : PySem.W.kitOne K (.ref c_Stalled) (.ref c_InvalidInput) = some false
  em_Stalled_KeyLimit : PySem.W.exmOne K (.ref c_Stalled) (.ref c_KeyLimit) = some false
  kt_Stalled_KeyLimit : PySem.W.kitOne K (.ref c_Stalled) (.ref c_KeyLimit) = some false
  em_Stalled_UnknownKey : PySem.W.exmOne K (.ref c_Stalled) (.ref c_UnknownKey) = some false
  kt_Stalled_UnknownKey : PySem.W.kitOne K (.ref c_Stalled) (.ref c_UnknownKey) = some false
  em_Stalled_BadChoice : PySem.W.exmOne K (.ref c_Stalled) (.ref c_BadChoice) = some false
  kt_Stalled_BadChoice : PySem.W.kitOne K (.ref c_Stalled) (.ref c_BadChoice) = some false
  em_Stalled_Stalled : PySem.W.exmOne K (.ref c_Stalled) (.ref c_Stalled) = some true
  kt_Stalled_Stalled : PySem.W.kitOne K (.ref c_Stalled) (.ref c_Stalled) = some true
  em_Stalled_ValueError : PySem.W.exmOne K (.ref c_Stalled) (.type "ValueError") = some true
  kt_Stalled_ValueError : PySem.W.kitOne K (.ref c_Stalled) (.type "ValueError") = some true
  ns_Stalled : PySem.W.subIn K (.ref c_Stalled) (.type "StopIteration") = some false
variable {c_StoreError c_InvalidInput c_KeyLimit c_UnknownKey c_BadChoice c_Stalled : Addr}
local macro_rules | `(tactic| walk_at "exm") => `(tactic| first | exact EcF.em_InvalidInput_StoreError (by assumption) | exact EcF.em_InvalidInput_InvalidInput (by assumption) | exact EcF.em_InvalidInput_KeyLimit (by assumption) | exact EcF.em_InvalidInput_UnknownKey (by assumption) | exact EcF.em_InvalidInput_BadChoice (by assumption) | exact EcF.em_InvalidInput_Stalled (by assumption) | exact EcF.em_InvalidInput_ValueError (by assumption) | exact EcF.em_KeyLimit_StoreError (by assumption) | exact EcF.em_KeyLimit_InvalidInput (by assumption) | exact EcF.em_KeyLimit_KeyLimit (by assumption) | exact EcF.em_KeyLimit_UnknownKey (by assumption) | exact EcF.em_KeyLimit_BadChoice (by assumption) | exact EcF.em_KeyLimit_Stalled (by assumption) | exact EcF.em_KeyLimit_ValueError (by assumption) | exact EcF.em_UnknownKey_StoreError (by assumption) | exact EcF.em_UnknownKey_InvalidInput (by assumption) | exact EcF.em_UnknownKey_KeyLimit (by assumption) | exact EcF.em_UnknownKey_UnknownKey (by assumption) | exact EcF.em_UnknownKey_BadChoice (by assumption) | exact EcF.em_UnknownKey_Stalled (by assumption) | exact EcF.em_UnknownKey_ValueError (by assumption) | exact EcF.em_BadChoice_StoreError (by assumption) | exact EcF.em_BadChoice_InvalidInput (by assumption) | exact EcF.em_BadChoice_KeyLimit (by assumption) | exact EcF.em_BadChoice_UnknownKey (by assumption) | exact EcF.em_BadChoice_BadChoice (by assumption) | exact EcF.em_BadChoice_Stalled (by assumption) | exact EcF.em_BadChoice_ValueError (by assumption) | exact EcF.em_Stalled_StoreError (by assumption) | exact EcF.em_Stalled_InvalidInput (by assumption) | exact EcF.em_Stalled_KeyLimit (by assumption) | exact EcF.em_Stalled_UnknownKey (by assumption) | exact EcF.em_Stalled_BadChoice (by assumption) | exact EcF.em_Stalled_Stalled (by assumption) | exact EcF.em_Stalled_ValueError (by assumption))
local macro_rules | `(tactic| walk_at "kit") => `(tactic| first | exact EcF.kt_InvalidInput_StoreError (by assumption) | exact EcF.kt_InvalidInput_InvalidInput (by assumption) | exact EcF.kt_InvalidInput_KeyLimit (by assumption) | exact EcF.kt_InvalidInput_UnknownKey (by assumption) | exact EcF.kt_InvalidInput_BadChoice (by assumption) | exact EcF.kt_InvalidInput_Stalled (by assumption) | exact EcF.kt_InvalidInput_ValueError (by assumption) | exact EcF.kt_KeyLimit_StoreError (by assumption) | exact EcF.kt_KeyLimit_InvalidInput (by assumption) | exact EcF.kt_KeyLimit_KeyLimit (by assumption) | exact EcF.kt_KeyLimit_UnknownKey (by assumption) | exact EcF.kt_KeyLimit_BadChoice (by assumption) | exact EcF.kt_KeyLimit_Stalled (by assumption) | exact EcF.kt_KeyLimit_ValueError (by assumption) | exact EcF.kt_UnknownKey_StoreError (by assumption) | exact EcF.kt_UnknownKey_InvalidInput (by assumption) | exact EcF.kt_UnknownKey_KeyLimit (by assumption) | exact EcF.kt_UnknownKey_UnknownKey (by assumption) | exact EcF.kt_UnknownKey_BadChoice (by assumption) | exact EcF.kt_UnknownKey_Stalled (by assumption) | exact EcF.kt_UnknownKey_ValueError (by assumption) | exact EcF.kt_BadChoice_StoreError (by assumption) | exact EcF.kt_BadChoice_InvalidInput (by assumption) | exact EcF.kt_BadChoice_KeyLimit (by assumption) | exact EcF.kt_BadChoice_UnknownKey (by assumption) | exact EcF.kt_BadChoice_BadChoice (by assumption) | exact EcF.kt_BadChoice_Stalled (by assumption) | exact EcF.kt_BadChoice_ValueError (by assumption) | exact EcF.kt_Stalled_StoreError (by assumption) | exact EcF.kt_Stalled_InvalidInput (by assumption) | exact EcF.kt_Stalled_KeyLimit (by assumption) | exact EcF.kt_Stalled_UnknownKey (by assumption) | exact EcF.kt_Stalled_BadChoice (by assumption) | exact EcF.kt_Stalled_Stalled (by assumption) | exact EcF.kt_Stalled_ValueError (by assumption))
local macro_rules | `(tactic| walk_at "xcc") => `(tactic| first | exact EcF.xc_InvalidInput (by assumption) | exact EcF.xc_KeyLimit (by assumption) | exact EcF.xc_UnknownKey (by assumption) | exact EcF.xc_BadChoice (by assumption) | exact EcF.xc_Stalled (by assumption))
local macro_rules | `(tactic| walk_at "xfc") => `(tactic| first | exact EcF.xf_InvalidInput (by assumption) | exact EcF.xf_KeyLimit (by assumption) | exact EcF.xf_UnknownKey (by assumption) | exact EcF.xf_BadChoice (by assumption) | exact EcF.xf_Stalled (by assumption))
local macro_rules | `(tactic| walk_at "xfd") => `(tactic| first | exact (EcF.d_InvalidInput (by assumption)).fld _ rfl | exact (EcF.d_KeyLimit (by assumption)).fld _ rfl | exact (EcF.d_UnknownKey (by assumption)).fld _ rfl | exact (EcF.d_BadChoice (by assumption)).fld _ rfl | exact (EcF.d_Stalled (by assumption)).fld _ rfl)
theorem ns_InvalidInput___init__ : NdefX.NScope ["self", "field", "__class__"] ["self", "field"] ["__class__"] (defScope s_InvalidInput___init__) := NdefX.nscope_by (by decide +kernel)
theorem ex_InvalidInput {C : Addr} (D : ExD P K mg "InvalidInput" "InvalidInput.__init__" s_InvalidInput___init__ ["self", "field"] C) : ExK P w K mg base 1 "InvalidInput" C "field" := by
  obtain ⟨f, fd, i1, i2, F⟩ := D.ini
  have hb : ∀ (c cc : Addr) (doc pm ct : Value) (us : List Value), us.length = ["self", "field"].length → bindArgs (PySem.W.fnX "__init__" "InvalidInput.__init__" (defArgs s_InvalidInput___init__) (defBody s_InvalidInput___init__) (defScope s_InvalidInput___init__) [("__class__", cc)] .none .none doc pm none (.ref c) ct) ⟨us, []⟩ = pure ((["self", "field"] : List Str).zip us) := fun c cc doc pm ct us hl => match us, hl with | [_, _], _ => rfl
  refine ⟨D.mgC, D.sup.oex, f, fd, i1, i2, sup_ok (k := 0) (sp := spEx1 C "field") F ns_InvalidInput___init__ rfl rfl rfl rfl rfl hb (fun _ _ _ _ => rfl) (fun _ _ _ _ => rfl) (fun _ _ _ _ => ⟨_, rfl⟩) (fun _ _ _ _ => rfl) (fun vs H Q E h => by obtain ⟨a, v, rfl, _⟩ := h; rfl) ?_, Binds.all fun us hl => by
    obtain ⟨c, cc, oc, doc, pm, ct, _, _, _, _, _, _, _, _, _, _, _, _, e, _⟩ := F.ex
    rw [e]
    exact hb c cc doc pm ct us hl⟩
  intro c cc A outer s H vs Q E hr h
  obtain ⟨a, v, rfl, ⟨ha, hv, hvk⟩, k⟩ := h
  refine ⟨_, _, a, C, [v], (pa_cons (pe_joined (PJ.cons pe_str (PJ.cons (pe_fmt (pv 1)) PJ.nil))) pa_nil), (pss_one (ps_ost (pv 0) (pv 1))), rfl, D.sup, ha, ?_⟩
  refine Gx.Step.run ?_
  refine js_any (fun out => ?_) _ _ (List.forall_mem_cons.mpr ⟨shorty_c (by decide +kernel), List.forall_mem_cons.mpr ⟨shorty_f rfl hv, fun t ht => by cases ht⟩⟩) (by decide +kernel)
  refine Gx.Step.run ?_
  exact ⟨by simp, ha, g_ost ha D.sup.oex (D.fld _ rfl) rfl rfl k⟩
theorem ns_KeyLimit___init__ : NdefX.NScope ["self", "most", "__class__"] ["self", "most"] ["__class__"] (defScope s_KeyLimit___init__) := NdefX.nscope_by (by decide +kernel)
theorem ex_KeyLimit {C : Addr} (D : ExD P K mg "KeyLimit" "KeyLimit.__init__" s_KeyLimit___init__ ["self", "most"] C) : ExK P w K mg base 1 "KeyLimit" C "most" := by
  obtain ⟨f, fd, i1, i2, F⟩ := D.ini
  have hb : ∀ (c cc : Addr) (doc pm ct : Value) (us : List Value), us.length = ["self", "most"].length → bindArgs (PySem.W.fnX "__init__" "KeyLimit.__init__" (defArgs s_KeyLimit___init__) (defBody s_KeyLimit___init__) (defScope s_KeyLimit___init__) [("__class__", cc)] .none .none doc pm none (.ref c) ct) ⟨us, []⟩ = pure ((["self", "most"] : List Str).zip us) := fun c cc doc pm ct us hl => match us, hl with | [_, _], _ => rfl
  refine ⟨D.mgC, D.sup.oex, f, fd, i1, i2, sup_ok (k := 0) (sp := spEx1 C "most") F ns_KeyLimit___init__ rfl rfl rfl rfl rfl hb (fun _ _ _ _ => rfl) (fun _ _ _ _ => rfl) (fun _ _ _ _ => ⟨_, rfl⟩) (fun _ _ _ _ => rfl) (fun vs H Q E h => by obtain ⟨a, v, rfl, _⟩ := h; rfl) ?_, Binds.all fun us hl => by
    obtain ⟨c, cc, oc, doc, pm, ct, _, _, _, _, _, _, _, _, _, _, _, _, e, _⟩ := F.ex
    rw [e]
    exact hb c cc doc pm ct us hl⟩
  intro c cc A outer s H vs Q E hr h
  obtain ⟨a, v, rfl, ⟨ha, hv, hvk⟩, k⟩ := h
  refine ⟨_, _, a, C, [v], (pa_cons (pe_joined (PJ.cons pe_str (PJ.cons (pe_fmt (pv 1)) (PJ.cons pe_str PJ.nil)))) pa_nil), (pss_one (ps_ost (pv 0) (pv 1))), rfl, D.sup, ha, ?_⟩
  refine Gx.Step.run ?_
  refine js_any (fun out => ?_) _ _ (List.forall_mem_cons.mpr ⟨shorty_c (by decide +kernel), List.forall_mem_cons.mpr ⟨shorty_f rfl hv, List.forall_mem_cons.mpr ⟨shorty_c (by decide +kernel), fun t ht => by cases ht⟩⟩⟩) (by decide +kernel)
  refine Gx.Step.run ?_
  exact ⟨by simp, ha, g_ost ha D.sup.oex (D.fld _ rfl) rfl rfl k⟩
theorem ns_UnknownKey___init__ : NdefX.NScope ["self", "key", "__class__"] ["self", "key"] ["__class__"] (defScope s_UnknownKey___init__) := NdefX.nscope_by (by decide +kernel)
theorem ex_UnknownKey {C : Addr} (D : ExD P K mg "UnknownKey" "UnknownKey.__init__" s_UnknownKey___init__ ["self", "key"] C) : ExK P w K mg base 1 "UnknownKey" C "key" := by
  obtain ⟨f, fd, i1, i2, F⟩ := D.ini
  have hb : ∀ (c cc : Addr) (doc pm ct : Value) (us : List Value), us.length = ["self", "key"].length → bindArgs (PySem.W.fnX "__init__" "UnknownKey.__init__" (defArgs s_UnknownKey___init__) (defBody s_UnknownKey___init__) (defScope s_UnknownKey___init__) [("__class__", cc)] .none .none doc pm none (.ref c) ct) ⟨us, []⟩ = pure ((["self", "key"] : List Str).zip us) := fun c cc doc pm ct us hl => match us, hl with | [_, _], _ => rfl
  refine ⟨D.mgC, D.sup.oex, f, fd, i1, i2, sup_ok (k := 0) (sp := spEx1 C "key") F ns_UnknownKey___init__ rfl rfl rfl rfl rfl hb (fun _ _ _ _ => rfl) (fun _ _ _ _ => rfl) (fun _ _ _ _ => ⟨_, rfl⟩) (fun _ _ _ _ => rfl) (fun vs H Q E h => by obtain ⟨a, v, rfl, _⟩ := h; rfl) ?_, Binds.all fun us hl => by
    obtain ⟨c, cc, oc, doc, pm, ct, _, _, _, _, _, _, _, _, _, _, _, _, e, _⟩ := F.ex
    rw [e]
    exact hb c cc doc pm ct us hl⟩
  intro c cc A outer s H vs Q E hr h
  obtain ⟨a, v, rfl, ⟨ha, hv, hvk⟩, k⟩ := h
  refine ⟨_, _, a, C, [v], (pa_cons (pe_joined (PJ.cons pe_str (PJ.cons (pe_fmtR (pv 1)) PJ.nil))) pa_nil), (pss_one (ps_ost (pv 0) (pv 1))), rfl, D.sup, ha, ?_⟩
  refine Gx.Step.run ?_
  refine js_any (fun out => ?_) _ _ (List.forall_mem_cons.mpr ⟨shorty_c (by decide +kernel), List.forall_mem_cons.mpr ⟨shorty_r rfl hv (hvk rfl), fun t ht => by cases ht⟩⟩) (by decide +kernel)
  refine Gx.Step.run ?_
  exact ⟨by simp, ha, g_ost ha D.sup.oex (D.fld _ rfl) rfl rfl k⟩
theorem ns_BadChoice___init__ : NdefX.NScope ["self", "choice", "__class__"] ["self", "choice"] ["__class__"] (defScope s_BadChoice___init__) := NdefX.nscope_by (by decide +kernel)
theorem ex_BadChoice {C : Addr} (D : ExD P K mg "BadChoice" "BadChoice.__init__" s_BadChoice___init__ ["self", "choice"] C) : ExK P w K mg base 1 "BadChoice" C "choice" := by
  obtain ⟨f, fd, i1, i2, F⟩ := D.ini
  have hb : ∀ (c cc : Addr) (doc pm ct : Value) (us : List Value), us.length = ["self", "choice"].length → bindArgs (PySem.W.fnX "__init__" "BadChoice.__init__" (defArgs s_BadChoice___init__) (defBody s_BadChoice___init__) (defScope s_BadChoice___init__) [("__class__", cc)] .none .none doc pm none (.ref c) ct) ⟨us, []⟩ = pure ((["self", "choice"] : List Str).zip us) := fun c cc doc pm ct us hl => match us, hl with | [_, _], _ => rfl
  refine ⟨D.mgC, D.sup.oex, f, fd, i1, i2, sup_ok (k := 0) (sp := spEx1 C "choice") F ns_BadChoice___init__ rfl rfl rfl rfl rfl hb (fun _ _ _ _ => rfl) (fun _ _ _ _ => rfl) (fun _ _ _ _ => ⟨_, rfl⟩) (fun _ _ _ _ => rfl) (fun vs H Q E h => by obtain ⟨a, v, rfl, _⟩ := h; rfl) ?_, Binds.all fun us hl => by
    obtain ⟨c, cc, oc, doc, pm, ct, _, _, _, _, _, _, _, _, _, _, _, _, e, _⟩ := F.ex
    rw [e]
    exact hb c cc doc pm ct us hl⟩
  intro c cc A outer s H vs Q E hr h
  obtain ⟨a, v, rfl, ⟨ha, hv, hvk⟩, k⟩ := h
  refine ⟨_, _, a, C, [v], (pa_cons pe_str pa_nil), (pss_one (ps_ost (pv 0) (pv 1))), rfl, D.sup, ha, ?_⟩
  refine Gx.Step.run ?_
  refine Gx.Step.run ?_
  refine Gx.Step.run ?_
  exact ⟨by simp, ha, g_ost ha D.sup.oex (D.fld _ rfl) rfl rfl k⟩
theorem ns_Stalled___init__ : NdefX.NScope ["self", "deeds", "__class__"] ["self", "deeds"] ["__class__"] (defScope s_Stalled___init__) := NdefX.nscope_by (by decide +kernel)
theorem ex_Stalled {C : Addr} (D : ExD P K mg "Stalled" "Stalled.__init__" s_Stalled___init__ ["self", "deeds"] C) : ExK P w K mg base 1 "Stalled" C "deeds" := by
  obtain ⟨f, fd, i1, i2, F⟩ := D.ini
  have hb : ∀ (c cc : Addr) (doc pm ct : Value) (us : List Value), us.length = ["self", "deeds"].length → bindArgs (PySem.W.fnX "__init__" "Stalled.__init__" (defArgs s_Stalled___init__) (defBody s_Stalled___init__) (defScope s_Stalled___init__) [("__class__", cc)] .none .none doc pm none (.ref c) ct) ⟨us, []⟩ = pure ((["self", "deeds"] : List Str).zip us) := fun c cc doc pm ct us hl => match us, hl with | [_, _], _ => rfl
  refine ⟨D.mgC, D.sup.oex, f, fd, i1, i2, sup_ok (k := 0) (sp := spEx1 C "deeds") F ns_Stalled___init__ rfl rfl rfl rfl rfl hb (fun _ _ _ _ => rfl) (fun _ _ _ _ => rfl) (fun _ _ _ _ => ⟨_, rfl⟩) (fun _ _ _ _ => rfl) (fun vs H Q E h => by obtain ⟨a, v, rfl, _⟩ := h; rfl) ?_, Binds.all fun us hl => by
    obtain ⟨c, cc, oc, doc, pm, ct, _, _, _, _, _, _, _, _, _, _, _, _, e, _⟩ := F.ex
    rw [e]
    exact hb c cc doc pm ct us hl⟩
  intro c cc A outer s H vs Q E hr h
  obtain ⟨a, v, rfl, ⟨ha, hv, hvk⟩, k⟩ := h
  refine ⟨_, _, a, C, [v], (pa_cons (pe_joined (PJ.cons pe_str (PJ.cons (pe_fmt (pv 1)) (PJ.cons pe_str PJ.nil)))) pa_nil), (pss_one (ps_ost (pv 0) (pv 1))), rfl, D.sup, ha, ?_⟩
  refine Gx.Step.run ?_
  refine js_any (fun out => ?_) _ _ (List.forall_mem_cons.mpr ⟨shorty_c (by decide +kernel), List.forall_mem_cons.mpr ⟨shorty_f rfl hv, List.forall_mem_cons.mpr ⟨shorty_c (by decide +kernel), fun t ht => by cases ht⟩⟩⟩) (by decide +kernel)
  refine Gx.Step.run ?_
  exact ⟨by simp, ha, g_ost ha D.sup.oex (D.fld _ rfl) rfl rfl k⟩

local macro_rules | `(tactic| walk_at "fmt") => `(tactic| first | assumption | exact .inr ⟨_, rfl, by omega, by omega⟩ | exact .inl ⟨_, rfl, by decide +kernel⟩ | exact .inl ⟨_, rfl, by assumption⟩)
local macro_rules | `(tactic| walk_at "call") => `(tactic| ((with_reducible show Gx.rMk1 _ _ _ _ _); refine Gx.g_mk1 (by walk_at "fmt") ?_; intro d_ H_ np_ e_ hp_))
local macro_rules | `(tactic| walk_at "call") => `(tactic| first
  | ((with_reducible show L2.wAs _ _ _ _ _ _ _ _ _ _); first | (refine Gx.g_wasT (by walk_at "exm") ?_; intro a_ na_) | refine Gx.g_wasF (by walk_at "exm") ?_)
  | ((with_reducible show L2.wOnly _ _ _ _ _ _ _ _ _); first | (refine Gx.g_wonT (by walk_at "exm") ?_; intro a_ na_) | refine Gx.g_wonF (by walk_at "exm") ?_)
  | ((with_reducible show Gx.rIsS _ _ _ _ _ _ _); refine Gx.g_isS (by walk_at "xcc") (fun u h => h) (by walk_at "kit") ?_)
  | ((with_reducible show Gx.rXs _ _ _ _ _ _ _ _); refine Gx.g_xs (by walk_at "xfc") (by walk_at "xfd") (by exact rfl) ?_))

local macro_rules | `(tactic| walk_at "call") => `(tactic| ((with_reducible show Gx.rMk1 _ _ _ _ _); refine Gx.g_mk1K (by assumption) (by assumption) ?_; intro d_ H_ np_ e_ hp_))
/-- .. is raised: a new object of this class with this field -/
abbrev RaiF (cE : Addr) (f : Str) (v : V) (H : Hp) (E : XK) : Prop := ∀ d H', Nw H d → Ex H H' → At H' d (.xd [(f, v)]) → E (.ref cE) (some d) H'
local macro_rules | `(tactic| walk_at "call") => `(tactic| first
  | ((with_reducible show spApn _ _ _ _ _); refine ⟨_, _, _, _, _, _, rfl, ⟨by infer_instance, by omega⟩, ?_⟩; intro H_ e_ hF_)
  | ((with_reducible show spCar _ _ _ _ _); refine ⟨_, _, _, _, rfl, ⟨by infer_instance, by omega⟩, ?_⟩; intro H_ e_ hF_))
/-- a record is written to a draft, or there is no place -/
def spApt (C CL CR cS : Addr) : Sp := fun vs H Q E => ∃ (a d : Addr) (S : RS) (H0 : Hp) (L : List En) (z : Str) (v : Int) (l : Bool), vs = [.ref a, .ref d, .str z, .int v, .bl l] ∧ (RgC C CL CR H0 a S ∧ LogF CL H0 H d L ∧ L.length < 1000 ∧ 0 ≤ S.dn ∧ S.dn < 2 ^ 60) ∧
  (S.p ≤ (L.length : Nat) → RaiF cS "deeds" (.int S.dn) H0 E) ∧ ((L.length : Nat) < S.p → ∀ H', Ex H0 H' → LogF CL H0 H' d (trimL (L ++ [⟨z, v, l, []⟩])) → Q .non H')
abbrev s_Ring__append_to : Stmt := (inClass (top 23) 22)
abbrev N_Ring__append_to : List Str := ["self", "draft", "key", "value", "is_living"]
theorem sc_Ring__append_to : FnScope N_Ring__append_to ["self", "draft", "key", "value", "is_living"] (defScope s_Ring__append_to) := ⟨rfl, rfl, rfl, by decide +kernel, rfl, by decide +kernel, by decide +kernel⟩
theorem cl_Ring__append_to (T : Bl mg) (Z : EcF P K mg c_StoreError c_InvalidInput c_KeyLimit c_UnknownKey c_BadChoice c_Stalled) (R : RdF K mg c_Round) (W_RingLog : Gx.ClsF K mg c_RingLog "RingLog" ["entries"]) (W_Ring : Gx.ClsF K mg c_Ring "Ring" ["_places", "_limit", "_budgets", "_late", "_readers", "_log", "_done", "_phase", "_carried", "_last_wait", "_opened", "_open"]) (N_KEY : Gx.GlI mg "KEY" 0) (N_VALUE : Gx.GlI mg "VALUE" 1) (N_LIVING : Gx.GlI mg "LIVING" 2) (N_READERS : Gx.GlI mg "READERS" 3) (D : DfM K c_Ring "_append_to" "Ring._append_to" s_Ring__append_to [] []) (C_RingLog_append_entry : ClM CX0 P w K mg base 7 c_RingLog "append_entry" "RingLog.append_entry" s_RingLog_append_entry ["self", "key", "value", "is_living"] [] [] (spApn c_RingLog)) : ClM (L2.CX P w) P w K mg base 9 c_Ring "_append_to" "Ring._append_to" s_Ring__append_to ["self", "draft", "key", "value", "is_living"] [] [] (spApt c_Ring c_RingLog c_Round c_Stalled) := by
  have nd := sc_Ring__append_to.nd
  refine D.ok sc_Ring__append_to (fun vs H Q E h => ?_) (fun f cdv A outer s H vs Q E hr h => ?_)
  · obtain ⟨a, d, S, H0, L, z, v, l, rfl, _⟩ := h
    rfl
  · obtain ⟨a, d, S, H0, L, z, v, l, rfl, ⟨hR0, hF, hl, d0, d1⟩, k1, k2⟩ := h
    have hu := hu64 hr
    refine ⟨_, (pss_cons (ps_if (pt_cmpR opGe (pe_callB (callLenK (K := K) (by rfl)) (by rfl) T.len (by decide +kernel) (pa_cons (pe_fld (pv 1) rfl) pa_nil)) (pe_fld (pv 0) rfl) (nomark _))
      (pss_one (ps_raise rfl takesX (pmk1 (ex_Stalled Z.d_Stalled) (by exact hr.mono (by decide)) rfl (pa_cons (pe_fld (pv 0) rfl) pa_nil))))
      pss_nil)
    (pss_one (ps_expr (pe_m C_RingLog_append_entry W_RingLog.c (by exact hr.mono (by decide)) pass0 (fun _ _ _ _ _ _ us hl => match us, hl with | [_, _, _, _], _ => rfl) (pv 1) (pa_cons (pv 2) (pa_cons (pv 3) (pa_cons (pv 4) pa_nil))))))), ?_⟩
    try dsimp only [L2.cxOf, L2.Cx.nox]
    simp only [L2.start, N_Ring__append_to, List.map_cons, List.map_nil, List.length_cons, List.length_nil, Nat.reduceAdd, Nat.reduceSub, List.replicate_succ, List.replicate_zero, List.cons_append, List.nil_append]

    have hg := hF.grow
    have hR : RgC c_Ring c_RingLog c_Round H a S := inferInstance
    obtain ⟨b, dd, o, hI, hb, hd, ho⟩ := hR.ex
    obtain ⟨e, ps, h1, h2, _⟩ := hF.ex
    have hpn := h2.len
    walk_at "gos"
    · rename_i hI9 x H1 n1 e1 h1
      exact k1 (by omega) x H1 ⟨hg.live _ n1.eq⟩ (hg.trans e1) h1
    · rename_i hI9 H1 e1 h1
      exact k2 (by omega) H1 e1 h1
/-- at most n carries while a place is free: how many, and the log behind -/
def carryL (p : Int) : Nat → List En → Nat × List En
  | 0, L => (0, L)
  | n + 1, L => match L with
    | [] => (0, [])
    | x :: r => if ((r.length + 1 : Nat) : Int) < p then ((carryL p n (trimL (r ++ [x]))).1 + 1, (carryL p n (trimL (r ++ [x]))).2) else (0, x :: r)
theorem trim_count (L : List En) : (trimL L).countP En.need = L.countP En.need := by
  induction L with
  | nil => rfl
  | cons x r ih =>
    unfold trimL at ih ⊢
    rw [List.dropWhile_cons]
    by_cases h : x.need = true
    · rw [if_neg (by simp [h])]
    · rw [if_pos (by simpa using h), ih, List.countP_cons]
      simp [h]
theorem turn_count (x : En) (r : List En) : (trimL (r ++ [x])).countP En.need = (x :: r).countP En.need := by
  rw [trim_count, List.countP_append, List.countP_cons, List.countP_cons, List.countP_nil]
  omega
theorem trim_len (L : List En) : (trimL L).length ≤ L.length := by
  unfold trimL
  exact (List.dropWhile_sublist _).length_le
def cV : Option Int → V
  | some i => .int i
  | none => .non
instance {c : Option Int} {H : Hp} {Q : VK} : Step (rNotN (cV c) .non H Q) (Q (.bl c.isSome) H) := ⟨fun q => by
  cases c with
  | none => exact ⟨rfl, q⟩
  | some i => exact ⟨rfl, q⟩⟩
theorem ite_join {c : Prop} [Decidable c] {A B : Ends → L2.St → Hp → Prop} {D : Ends} {σ : L2.St} {H : Hp} (P : L2.St → Hp → Prop) (h : ∀ N : L2.St → Hp → Prop, (∀ σ' H', P σ' H' → N σ' H') → if c then A { D with nx := N } σ H else B { D with nx := N } σ H) (hk : ∀ σ' H', P σ' H' → D.nx σ' H') : if c then A D σ H else B D σ H := h D.nx hk
theorem carry_zero {p : Int} {L : List En} : carryL p 0 L = (0, L) := rfl
theorem carry_nil {p : Int} {n : Nat} : carryL p n [] = (0, []) := by cases n <;> rfl
theorem carry_step {p : Int} {n : Nat} {x : En} {r : List En} (h : ((r.length + 1 : Nat) : Int) < p) : carryL p (n + 1) (x :: r) = ((carryL p n (trimL (r ++ [x]))).1 + 1, (carryL p n (trimL (r ++ [x]))).2) := by
  show (if ((r.length + 1 : Nat) : Int) < p then _ else _) = _
  rw [if_pos h]
theorem carry_le {p : Int} : ∀ {n : Nat} {L : List En}, (carryL p n L).1 ≤ n
  | 0, _ => Nat.le_refl _
  | n + 1, [] => Nat.zero_le _
  | n + 1, x :: r => by
    show (if ((r.length + 1 : Nat) : Int) < p then _ else _ : Nat × List En).1 ≤ n + 1
    split
    · exact Nat.succ_le_succ carry_le
    · exact Nat.zero_le _
theorem carry_full {p : Int} {n : Nat} {L : List En} (h : p ≤ (L.length : Nat)) : carryL p n L = (0, L) := by
  cases n with
  | zero => rfl
  | succ n =>
    cases L with
    | nil => rfl
    | cons x r =>
      show (if ((r.length + 1 : Nat) : Int) < p then _ else _) = _
      rw [if_neg (by rw [List.length_cons] at h; omega)]
/-- the most that may be carried -/
def mstL (bs : List Int) (ph : Int) (ot : Nat) : Int := if ((ot : Nat) : Int) < nth bs ph then (ot : Nat) else nth bs ph
/-- the count that is asked -/
def askd (c : Option Int) (M : Int) : Int := c.getD M
/-- a while loop whose heaps are told from an older one; Pe: what holds behind it -/
theorem whileG {tt : TT} {tb : TS} {D : Ends} {σ : L2.St} {H H0 : Hp} (Pv : Nat → L2.St → Hp → Prop) (Pe : L2.St → Hp → Prop) (m : Nat) (g : Chg [] H0 H) (h0 : Pv m σ H)
    (hs : ∀ (N : L2.St → Hp → Prop), (∀ σ' H', Pe σ' H' → N σ' H') → ∀ (m : Nat) σ' H', Chg [] H0 H' → Pv m σ' H' → tt σ' H' fun b H1 => if b = true then Gx.rTurn (fun k σ2 H2 => Chg [] H0 H2 ∧ Pv k σ2 H2) m tb { D with nx := N } σ' H1 else N σ' H1) (hd : ∀ σ' H', Pe σ' H' → D.nx σ' H') : tWhile tt tb D σ H :=
  ⟨fun k σ' H' => Chg [] H0 H' ∧ Pv k σ' H', ⟨m, g, h0⟩, fun k σ' H' z => hs D.nx hd k σ' H' z.1 z.2⟩
def spCry (C CL CR cB : Addr) : Sp := fun vs H Q E => ∃ (a d : Addr) (S : RS) (H0 : Hp) (L : List En) (c : Option Int) (ot : Nat), vs = [.ref a, .ref d, cV c, .int (ot : Nat)] ∧
  (RgC C CL CR H0 a S ∧ LogF CL H0 H d L ∧ L.length < 1000 ∧ RB S.bs ∧ 0 ≤ S.ph ∧ ot ≤ L.countP En.need ∧ (∀ i, c = some i → -(2 ^ 100) < i ∧ i < 2 ^ 100)) ∧
  (∀ i, c = some i → (i < 0 ∨ mstL S.bs S.ph ot < i ∨ ((carryL S.p i.toNat L).1 : Int) < i) → RaiF cB "choice" (.int i) H0 E) ∧
  ((∀ i, c = some i → 0 ≤ i ∧ i ≤ mstL S.bs S.ph ot ∧ ((carryL S.p i.toNat L).1 : Int) = i) → ∀ H', Ex H0 H' → LogF CL H0 H' d (carryL S.p (askd c (mstL S.bs S.ph ot)).toNat L).2 → Q (.int ((carryL S.p (askd c (mstL S.bs S.ph ot)).toNat L).1 : Nat)) H')
abbrev s_Ring__carry_in : Stmt := (inClass (top 23) 23)
abbrev N_Ring__carry_in : List Str := ["self", "draft", "count", "others", "most", "wait"]
theorem sc_Ring__carry_in : FnScope N_Ring__carry_in ["self", "draft", "count", "others"] (defScope s_Ring__carry_in) := ⟨rfl, rfl, rfl, by decide +kernel, rfl, by decide +kernel, by decide +kernel⟩
theorem cl_Ring__carry_in (T : Bl mg) (Z : EcF P K mg c_StoreError c_InvalidInput c_KeyLimit c_UnknownKey c_BadChoice c_Stalled) (R : RdF K mg c_Round) (W_RingLog : Gx.ClsF K mg c_RingLog "RingLog" ["entries"]) (W_Ring : Gx.ClsF K mg c_Ring "Ring" ["_places", "_limit", "_budgets", "_late", "_readers", "_log", "_done", "_phase", "_carried", "_last_wait", "_opened", "_open"]) (N_KEY : Gx.GlI mg "KEY" 0) (N_VALUE : Gx.GlI mg "VALUE" 1) (N_LIVING : Gx.GlI mg "LIVING" 2) (N_READERS : Gx.GlI mg "READERS" 3) (D : DfM K c_Ring "_carry_in" "Ring._carry_in" s_Ring__carry_in [] []) (C_RingLog_carry_tail : ClM CX0 P w K mg base 7 c_RingLog "carry_tail" "RingLog.carry_tail" s_RingLog_carry_tail ["self"] [] [] (spCar c_RingLog)) (C_Round_at : ClM CX0 P w K mg base 5 c_Round "at" "Round.at" s_Round_at ["self", "t"] [] [] (spAt c_Round)) : ClM (L2.CX P w) P w K mg base 9 c_Ring "_carry_in" "Ring._carry_in" s_Ring__carry_in ["self", "draft", "count", "others"] [] [] (spCry c_Ring c_RingLog c_Round c_BadChoice) := by
  have nd := sc_Ring__carry_in.nd
  refine D.ok sc_Ring__carry_in (fun vs H Q E h => ?_) (fun f cdv A outer s H vs Q E hr h => ?_)
  · obtain ⟨a, d, S, H0, L, c, ot, rfl, _⟩ := h
    rfl
  · obtain ⟨a, d, S, H0, L, c, ot, rfl, ⟨hR0, hF, hl, hB, p0, hot, hc⟩, k1, k2⟩ := h
    have hu := hu64 hr
    refine ⟨_, (pss_cons (ps_set (i := 4) nd rfl (Or.inl rfl) (pe_callB (callMin2 rfl) (by rfl) T.min (by decide +kernel) (pa_cons (pe_m C_Round_at R.c (by exact hr.mono (by decide)) pass0 (fun _ _ _ _ _ _ us hl => match us, hl with | [_, _], _ => rfl) (pe_fld (pv 0) rfl) (pa_cons (pe_fld (pv 0) rfl) pa_nil)) (pa_cons (pv 3) pa_nil))))
    (pss_cons (ps_if (pt_cmpR opNotN (pv 2) pe_non (nomark _))
      (pss_cons (ps_if (PW.pt (pw_or (pt_cmpR opLt (pv 2) pe_int (nomark _)) (pw_or1 (pt_cmpR opGt (pv 2) (pv 4) (nomark _)))))
      (pss_one (ps_raise rfl takesX (pmk1 (ex_BadChoice Z.d_BadChoice) (by exact hr.mono (by decide)) rfl (pa_cons (pv 2) pa_nil))))
      pss_nil)
    (pss_one (ps_set (i := 4) nd rfl (Or.inl rfl) (pv 2))))
      pss_nil)
    (pss_cons (ps_set (i := 5) nd rfl (Or.inl rfl) pe_int)
    (pss_cons (ps_while (passes_of rfl) (PW.pt (pw_and (pt_cmpR opLt (pv 5) (pv 4) (nomark _)) (pw_and1 (pt_cmpR opLt (pe_callB (callLenK (K := K) (by rfl)) (by rfl) T.len (by decide +kernel) (pa_cons (pe_fld (pv 1) rfl) pa_nil)) (pe_fld (pv 0) rfl) (nomark _)))))
      (pss_cons (ps_expr (pe_m0 C_RingLog_carry_tail W_RingLog.c (by exact hr.mono (by decide)) pass0 (fun _ _ _ _ _ _ us hl => match us, hl with | [_], _ => rfl) (pv 1)))
    (pss_one (ps_set (i := 5) nd rfl (Or.inl rfl) (pe_op (opAddK (K := K) (by rfl)) (pv 5) pe_int)))))
    (pss_cons (ps_if (PW.pt (pw_and (pt_cmpR opNotN (pv 2) pe_non (nomark _)) (pw_and1 (pt_cmpR opLt (pv 5) (pv 2) (nomark _)))))
      (pss_one (ps_raise rfl takesX (pmk1 (ex_BadChoice Z.d_BadChoice) (by exact hr.mono (by decide)) rfl (pa_cons (pv 2) pa_nil))))
      pss_nil)
    (pss_one (ps_ret (pv 5)))))))), ?_⟩
    try dsimp only [L2.cxOf, L2.Cx.nox]
    simp only [L2.start, N_Ring__carry_in, List.map_cons, List.map_nil, List.length_cons, List.length_nil, Nat.reduceAdd, Nat.reduceSub, List.replicate_succ, List.replicate_zero, List.cons_append, List.nil_append]

    have hg := hF.grow
    have hR : RgC c_Ring c_RingLog c_Round H a S := inferInstance
    obtain ⟨b, dd, o, hI, hb, hd, ho⟩ := hR.ex
    obtain ⟨e, ps, h1, h2, _⟩ := hF.ex
    have hpn := h2.len
    have hnb := nth_b (t := S.ph) hB
    walk_at "go"
    refine ite_join (fun σ' H' => σ' = [some (.ref a), some (.ref d), some (cV c), some (.int (ot : Nat)), some (.int (askd c (mstL S.bs S.ph ot))), none] ∧ H' = H ∧ (∀ i, c = some i → 0 ≤ i ∧ i ≤ mstL S.bs S.ph ot)) (fun N hk => ?_) ?_
    · cases c with
      | none =>
        dsimp only [cV]
        walk_at "gos"
        exact hk _ _ ⟨rfl, rfl, fun i hi => by cases hi⟩
      | some i =>
        dsimp only [cV]
        have hci := hc i rfl
        walk_at "gos"
        · rename_i hI9 x H1 n1 e1 h1
          exact k1 i rfl (.inl hI9) x H1 ⟨hg.live _ n1.eq⟩ (hg.trans e1) h1
        · rename_i hI8 hI9 x H1 n1 e1 h1
          exact k1 i rfl (.inr (.inl hI9)) x H1 ⟨hg.live _ n1.eq⟩ (hg.trans e1) h1
        · rename_i hI8 hI9
          exact hk _ _ ⟨rfl, rfl, fun j hj => by cases hj; exact ⟨by omega, Int.not_lt.mp hI9⟩⟩
    rintro σ' H' ⟨rfl, rfl, hci⟩
    have hmo : 0 ≤ askd c (mstL S.bs S.ph ot) ∧ askd c (mstL S.bs S.ph ot) ≤ (ot : Nat) := by
      cases c with
      | none =>
        show 0 ≤ mstL S.bs S.ph ot ∧ mstL S.bs S.ph ot ≤ (ot : Nat)
        unfold mstL
        split <;> omega
      | some i =>
        have := hci i rfl
        show 0 ≤ i ∧ i ≤ (ot : Nat)
        unfold mstL at this
        split at this <;> omega
    obtain ⟨mo, hmoe⟩ : ∃ n : Nat, askd c (mstL S.bs S.ph ot) = (n : Int) := ⟨(askd c (mstL S.bs S.ph ot)).toNat, by omega⟩
    rw [hmoe] at hmo k2 ⊢
    rw [Int.toNat_natCast] at k2
    walk_at "go"
    refine whileG (fun m σ' H' => ∃ (w : Nat) (M : List En), σ' = [some (.ref a), some (.ref d), some (cV c), some (.int (ot : Nat)), some (.int (mo : Nat)), some (.int (w : Nat))] ∧ LogF c_RingLog H0 H' d M ∧ M.length < 1000 ∧ M.countP En.need = L.countP En.need ∧ w + m = mo ∧ carryL S.p mo L = (w + (carryL S.p m M).1, (carryL S.p m M).2))
      (fun σ' H' => σ' = [some (.ref a), some (.ref d), some (cV c), some (.int (ot : Nat)), some (.int (mo : Nat)), some (.int ((carryL S.p mo L).1 : Nat))] ∧ Chg [] H0 H' ∧ LogF c_RingLog H0 H' d (carryL S.p mo L).2) mo hg ⟨0, L, rfl, hF, hl, rfl, by omega, by simp⟩ ?_ ?_
    · rintro N hN m σ' H' e1 ⟨w, M, rfl, hF', hl', hcn, hwm, hcy⟩
      have hR' : RgC c_Ring c_RingLog c_Round H' a S := inferInstance
      obtain ⟨b', dd', o', hI', hb', hd', ho'⟩ := hR'.ex
      obtain ⟨e', ps', h1', h2', _⟩ := hF'.ex
      have hpn' := h2'.len
      have hcM := List.countP_le_length (p := En.need) (l := M)
      cases M with
      | nil =>
        rw [carry_nil] at hcy
        have hm0 : mo = 0 := by simp at hcn; omega
        walk_at "gos"
        refine hN _ _ ⟨by rw [hcy]; rfl, e1, ?_⟩
        rw [hcy]
        exact hF'
      | cons x r =>
        have hrl : (x :: r).length = r.length + 1 := rfl
        walk_at "gos"
        · rename_i i1 i2 H3 e3 h3
          obtain ⟨m2, rfl⟩ : ∃ n, m = n + 1 := ⟨m - 1, by omega⟩
          rw [carry_step (by omega)] at hcy
          refine ⟨m2, by omega, e3, w + 1, _, by congr, h3, Nat.lt_of_le_of_lt (trim_len _) (by simp; omega), by rw [turn_count]; exact hcn, by omega, by rw [hcy]; congr 1; omega⟩
        · rename_i i1 i2
          have hcf := carry_full (n := m) (p := S.p) (L := x :: r) (by omega)
          rw [hcf] at hcy
          refine hN _ _ ⟨by rw [hcy]; rfl, e1, ?_⟩
          rw [hcy]
          exact hF'
        · rename_i i1
          have hm0 : m = 0 := by omega
          subst hm0
          rw [carry_zero] at hcy
          refine hN _ _ ⟨by rw [hcy]; rfl, e1, ?_⟩
          rw [hcy]
          exact hF'
    · rintro σ' H' ⟨rfl, e1, hF'⟩
      cases c with
      | none =>
        dsimp only [cV]
        walk_at "gos"
        exact k2 (fun i hi => by cases hi) H' e1 hF'
      | some i =>
        dsimp only [cV]
        have hci2 := hc i rfl
        have him : i = (mo : Int) := hmoe
        subst him
        have hcc := hci _ rfl
        have hcl := carry_le (p := S.p) (n := mo) (L := L)
        walk_at "gos"
        · rename_i hI9 x H1 n1 f1 h1
          exact k1 _ rfl (.inr (.inr (by rw [Int.toNat_natCast]; exact hI9))) x H1 ⟨e1.live _ n1.eq⟩ (e1.trans f1) h1
        · rename_i hI9
          exact k2 (fun j hj => by cases hj; rw [Int.toNat_natCast]; exact ⟨by omega, hcc.2, by omega⟩) H' e1 hF'

abbrev s_Round___len__ : Stmt := (inClass (top 25) 4)
abbrev N_Round___len__ : List Str := ["self"]
theorem sc_Round___len__ : FnScope N_Round___len__ ["self"] (defScope s_Round___len__) := ⟨rfl, rfl, rfl, by decide +kernel, rfl, by decide +kernel, by decide +kernel⟩
theorem cl_Round___len__ (T : Bl mg) (Z : EcF P K mg c_StoreError c_InvalidInput c_KeyLimit c_UnknownKey c_BadChoice c_Stalled) (R : RdF K mg c_Round) (W_RingLog : Gx.ClsF K mg c_RingLog "RingLog" ["entries"]) (W_Ring : Gx.ClsF K mg c_Ring "Ring" ["_places", "_limit", "_budgets", "_late", "_readers", "_log", "_done", "_phase", "_carried", "_last_wait", "_opened", "_open"]) (N_KEY : Gx.GlI mg "KEY" 0) (N_VALUE : Gx.GlI mg "VALUE" 1) (N_LIVING : Gx.GlI mg "LIVING" 2) (N_READERS : Gx.GlI mg "READERS" 3) (D : DfM K c_Round "__len__" "Round.__len__" s_Round___len__ [] [])  : ClM CX0 P w K mg base 3 c_Round "__len__" "Round.__len__" s_Round___len__ ["self"] [] [] (Gx.spLen c_Round) := by
  have nd := sc_Round___len__.nd
  refine D.okP sc_Round___len__ (fun vs H Q E h => ?_) (fun f cdv A outer s H vs Q E hr h => ?_)
  · obtain ⟨a, bs, rfl, _⟩ := h
    rfl
  · obtain ⟨a, bs, rfl, ha, k⟩ := h
    have hu := hu64 hr
    refine ⟨_, (pss_one (ps_ret (pe_callB (callLenK (K := K) (by rfl)) (by rfl) T.len (by decide +kernel) (pa_cons (pe_fld (pv 0) rfl) pa_nil)))), ?_⟩
    try dsimp only [L2.cxOf, L2.Cx.nox]
    simp only [L2.start, N_Round___len__, List.map_cons, List.map_nil, List.length_cons, List.length_nil, Nat.reduceAdd, Nat.reduceSub, List.replicate_succ, List.replicate_zero, List.cons_append, List.nil_append]

    walk_at "gos"
    exact k
local macro_rules | `(tactic| walk_at "call") => `(tactic| ((with_reducible show Gx.spLen _ _ _ _ _); refine Gx.use_len (by omega) ?_))
inductive Out where
  | done (S : RS)
  | stall
  | bad (i : Int)
/-- the log behind the early write of the late order -/
def lg1 (S : RS) (x : En) : List En := if S.lt = true then trimL (S.L ++ [x]) else S.L
/-- .. behind the release -/
def lg2 (S : RS) (x : En) : List En := match findL x.k S.L with
  | some i => trimL (kill (lg1 S x) i)
  | none => lg1 S x
/-- the others that may be carried -/
def oth (S : RS) (x : En) : Nat := if S.lt = true ∧ x.l = true then (lg2 S x).countP En.need - 1 else (lg2 S x).countP En.need
/-- the count of the carries that are asked, the carries, the log behind them -/
def wnt (S : RS) (x : En) (c : Option Int) : Nat := (askd c (mstL S.bs S.ph (oth S x))).toNat
def lg3 (S : RS) (x : En) (c : Option Int) : Nat × List En := carryL S.p (wnt S x c) (lg2 S x)
def lg4 (S : RS) (x : En) (c : Option Int) : List En := if S.lt = true then (lg3 S x c).2 else trimL ((lg3 S x c).2 ++ [x])
/-- the count is not possible -/
def badC (S : RS) (x : En) (c : Option Int) : Prop := ∃ i, c = some i ∧ (i < 0 ∨ mstL S.bs S.ph (oth S x) < i ∨ ((carryL S.p i.toNat (lg2 S x)).1 : Int) < i)
/-- the ring behind the deed -/
def nextR (S : RS) (x : En) (c : Option Int) : RS := { S with L := lg4 S x c, dn := S.dn + 1, ph := (S.ph + 1) % (S.bs.length : Int), ca := S.ca + ((lg3 S x c).1 : Nat), lw := ((lg3 S x c).1 : Nat) }
structure RgOk (S : RS) : Prop where
  l0 : S.L.length ≤ 500
  tr : trimL S.L = S.L
  rb : RB S.bs
  p0 : 0 ≤ S.ph
  d0 : 0 ≤ S.dn
  d1 : S.dn < 2 ^ 60
theorem carry_len {p : Int} : ∀ {n : Nat} {L : List En}, (carryL p n L).2.length ≤ L.length
  | 0, _ => Nat.le_refl _
  | n + 1, [] => Nat.le_refl _
  | n + 1, x :: r => by
    show (if ((r.length + 1 : Nat) : Int) < p then _ else _ : Nat × List En).2.length ≤ (x :: r).length
    split
    · refine Nat.le_trans carry_len (Nat.le_trans (trim_len _) ?_)
      simp
    · exact Nat.le_refl _
theorem kill_len {L : List En} {i : Nat} : (kill L i).length = L.length := by unfold kill; exact List.length_modify ..
theorem findL_lt {z : Str} {L : List En} {i : Nat} (h : findL z L = some i) : i < L.length := by
  obtain ⟨hi, _⟩ := List.findIdx?_eq_some_iff_getElem.mp h
  exact hi
/-- a trimmed log that is not empty stays trimmed where it grows -/
theorem trim_app {L M : List En} (h : trimL L = L) (h0 : L ≠ []) : trimL (L ++ M) = L ++ M := by
  cases L with
  | nil => exact absurd rfl h0
  | cons x r =>
    unfold trimL at h ⊢
    rw [List.dropWhile_cons] at h
    by_cases hx : x.need = true
    · rw [List.cons_append, List.dropWhile_cons, if_neg (by simp [hx])]
    · rw [if_pos (by simpa using hx)] at h
      have := congrArg List.length h
      have h2 := (List.dropWhile_sublist (l := r) fun e : En => !e.need).length_le
      simp at this
      omega
theorem trim_nil_iff {L : List En} (h : trimL L = L) (i : Nat) (hi : i < L.length) : L ≠ [] := by
  rintro rfl
  exact absurd hi (Nat.not_lt_zero _)
theorem lg1_lt {S : RS} {x : En} (h : RgOk S) {i : Nat} (hi : i < S.L.length) : i < (lg1 S x).length := by
  unfold lg1
  split
  · rw [trim_app h.tr (trim_nil_iff h.tr i hi), List.length_append]
    omega
  · exact hi
theorem lg1_len {S : RS} {x : En} : (lg1 S x).length ≤ S.L.length + 1 := by
  unfold lg1
  split
  · exact Nat.le_trans (trim_len _) (by simp)
  · omega
theorem lg2_len {S : RS} {x : En} : (lg2 S x).length ≤ S.L.length + 1 := by
  unfold lg2
  split
  · exact Nat.le_trans (trim_len _) (by rw [kill_len]; exact lg1_len)
  · exact lg1_len
instance {c : Option Nat} {H : Hp} {Q : VK} : Step (rNotN (oV c) .non H Q) (Q (.bl c.isSome) H) := ⟨fun q => by
  cases c with
  | none => exact ⟨rfl, q⟩
  | some i => exact ⟨rfl, q⟩⟩
theorem g_methL {σ : L2.St} {H : Hp} {Q : VK} {C a : Addr} {L : List En} {m : Str} {sp : Sp} {dvs : List V} {E : XK} {t : TA} [h : LogC C H a L] (hm : (m == ("entries" : Str)) = false) (q : t σ H fun vs H2 => sp (.ref a :: (vs ++ dvs)) H2 Q E) : rMeth C m sp dvs E t σ (.ref a) H Q := by
  obtain ⟨e, ps, h1, _⟩ := h.ex
  refine @Gx.g_rmethI σ H Q C a m sp dvs E t _ h1 ?_ q
  rw [List.lookup_cons, hm]
  rfl
theorem lg2_pos {S : RS} {x : En} (h : RgOk S) (ht : S.lt = true) (hl : x.l = true) (hx0 : x.rs = []) : 1 ≤ (lg2 S x).countP En.need := by
  have hxn : x.need = true := by unfold En.need; rw [hl]; rfl
  have key : ∀ M : List En, x ∈ M → 1 ≤ (trimL M).countP En.need := fun M hm => by
    rw [trim_count]
    exact List.countP_pos_iff.mpr ⟨x, hm, hxn⟩
  unfold lg2
  cases hf : findL x.k S.L with
  | none =>
    show 1 ≤ (lg1 S x).countP En.need
    unfold lg1
    rw [if_pos ht]
    exact key _ (by simp)
  | some i =>
    refine key _ ?_
    have hi := findL_lt hf
    unfold lg1
    rw [if_pos ht, trim_app h.tr (trim_nil_iff h.tr i hi)]
    have h1 : (S.L ++ [x])[S.L.length]? = some x := by simp
    have h2 := kill_at (i := i) h1
    rw [if_neg (by omega)] at h2
    exact List.mem_of_getElem? h2
local macro_rules | `(tactic| walk_at "call") => `(tactic| first
  | ((with_reducible show Gx.rMeth _ _ _ _ _ _ _ _ _ _); refine g_methL (by decide +kernel) ?_)
  | ((with_reducible show spCpy _ _ _ _ _); refine ⟨_, _, rfl, ⟨by infer_instance, by omega⟩, ?_⟩; intro d_ H_ hF_; have g_ := LogF.grow (self := hF_))
  | ((with_reducible show spRls _ _ _ _ _); refine ⟨_, _, _, _, rfl, ⟨by infer_instance, by omega, by omega⟩, ?_⟩; intro H_ e_ hF_))
theorem chgW {H H' : Hp} {bs : List Addr} (h : Chg [] H H') : Chg bs H H' := ⟨fun a o _ e => h.keep a o (by simp) e, h.live, h.imm⟩
/-! stores to the fields of a ring -/
section
variable {K : PySem.W.Frag} {mg : Str → Option Value} {σ : L2.St} {H : Hp} {D : Ends} {C a dx b d d2 o o2 : Addr} {S : RS} {n : Int}
theorem flds_len : (S.flds b d o).length < 1000 := by simp [RS.flds]
theorem flds_nb : ∀ t, S.flds b d o ≠ [(("_budgets" : Str), V.ref t)] := fun t z => by simp [RS.flds] at z
theorem g_stLog [h : At H a (.ins C dx (S.flds b d2 o))] (W : Gx.ClsF K mg C "Ring" ["_places", "_limit", "_budgets", "_late", "_readers", "_log", "_done", "_phase", "_carried", "_last_wait", "_opened", "_open"]) (q : ∀ H2, ExB a H H2 → At H2 a (.ins C dx (S.flds b d o)) → D.nx σ H2) : Gx.rFldS K "_log" D σ (.ref d) (.ref a) H :=
  Gx.g_fldSI W.c (W.nf _ (by simp)) flds_len flds_nb fun H2 e h2 => q H2 e (by
    have z : putF ("_log" : Str) (V.ref d) (S.flds b d2 o) = S.flds b d o := by rfl
    rw [z] at h2
    exact h2)
theorem g_stDn [h : At H a (.ins C dx (S.flds b d2 o))] (W : Gx.ClsF K mg C "Ring" ["_places", "_limit", "_budgets", "_late", "_readers", "_log", "_done", "_phase", "_carried", "_last_wait", "_opened", "_open"]) (q : ∀ H2, ExB a H H2 → At H2 a (.ins C dx (RS.flds {S with dn := n} b d2 o)) → D.nx σ H2) : Gx.rFldS K "_done" D σ (.int n) (.ref a) H :=
  Gx.g_fldSI W.c (W.nf _ (by simp)) flds_len flds_nb fun H2 e h2 => q H2 e (by
    have z : putF ("_done" : Str) (V.int n) (S.flds b d2 o) = RS.flds {S with dn := n} b d2 o := by rfl
    rw [z] at h2
    exact h2)
theorem g_stPh [h : At H a (.ins C dx (S.flds b d2 o))] (W : Gx.ClsF K mg C "Ring" ["_places", "_limit", "_budgets", "_late", "_readers", "_log", "_done", "_phase", "_carried", "_last_wait", "_opened", "_open"]) (q : ∀ H2, ExB a H H2 → At H2 a (.ins C dx (RS.flds {S with ph := n} b d2 o)) → D.nx σ H2) : Gx.rFldS K "_phase" D σ (.int n) (.ref a) H :=
  Gx.g_fldSI W.c (W.nf _ (by simp)) flds_len flds_nb fun H2 e h2 => q H2 e (by
    have z : putF ("_phase" : Str) (V.int n) (S.flds b d2 o) = RS.flds {S with ph := n} b d2 o := by rfl
    rw [z] at h2
    exact h2)
theorem g_stCa [h : At H a (.ins C dx (S.flds b d2 o))] (W : Gx.ClsF K mg C "Ring" ["_places", "_limit", "_budgets", "_late", "_readers", "_log", "_done", "_phase", "_carried", "_last_wait", "_opened", "_open"]) (q : ∀ H2, ExB a H H2 → At H2 a (.ins C dx (RS.flds {S with ca := n} b d2 o)) → D.nx σ H2) : Gx.rFldS K "_carried" D σ (.int n) (.ref a) H :=
  Gx.g_fldSI W.c (W.nf _ (by simp)) flds_len flds_nb fun H2 e h2 => q H2 e (by
    have z : putF ("_carried" : Str) (V.int n) (S.flds b d2 o) = RS.flds {S with ca := n} b d2 o := by rfl
    rw [z] at h2
    exact h2)
theorem g_stLw [h : At H a (.ins C dx (S.flds b d2 o))] (W : Gx.ClsF K mg C "Ring" ["_places", "_limit", "_budgets", "_late", "_readers", "_log", "_done", "_phase", "_carried", "_last_wait", "_opened", "_open"]) (q : ∀ H2, ExB a H H2 → At H2 a (.ins C dx (RS.flds {S with lw := n} b d2 o)) → D.nx σ H2) : Gx.rFldS K "_last_wait" D σ (.int n) (.ref a) H :=
  Gx.g_fldSI W.c (W.nf _ (by simp)) flds_len flds_nb fun H2 e h2 => q H2 e (by
    have z : putF ("_last_wait" : Str) (V.int n) (S.flds b d2 o) = RS.flds {S with lw := n} b d2 o := by rfl
    rw [z] at h2
    exact h2)
end
local macro_rules | `(tactic| walk_at "call") => `(tactic| first
  | ((with_reducible show Gx.rFldS _ _ _ _ _ _ _); refine g_stLog (by assumption) ?_; intro H_ e_ hx_)
  | ((with_reducible show Gx.rFldS _ _ _ _ _ _ _); refine g_stDn (by assumption) ?_; intro H_ e_ hx_)
  | ((with_reducible show Gx.rFldS _ _ _ _ _ _ _); refine g_stPh (by assumption) ?_; intro H_ e_ hx_)
  | ((with_reducible show Gx.rFldS _ _ _ _ _ _ _); refine g_stCa (by assumption) ?_; intro H_ e_ hx_)
  | ((with_reducible show Gx.rFldS _ _ _ _ _ _ _); refine g_stLw (by assumption) ?_; intro H_ e_ hx_))
def spCpl (C CL CR cS cB : Addr) : Sp := fun vs H Q E => ∃ (a : Addr) (S : RS) (x : En) (c : Option Int), vs = [.ref a, .str x.k, .int x.v, .bl x.l, cV c] ∧ (RgC C CL CR H a S ∧ RgOk S ∧ x.rs = [] ∧ (∀ i, c = some i → -(2 ^ 100) < i ∧ i < 2 ^ 100)) ∧
  (S.lt = true → S.p ≤ (S.L.length : Nat) → RaiF cS "deeds" (.int S.dn) H E) ∧
  ((S.lt = true → (S.L.length : Nat) < S.p) → ∀ i, c = some i → (i < 0 ∨ mstL S.bs S.ph (oth S x) < i ∨ ((carryL S.p i.toNat (lg2 S x)).1 : Int) < i) → RaiF cB "choice" (.int i) H E) ∧
  (S.lt = false → ¬ badC S x c → S.p ≤ ((lg3 S x c).2.length : Nat) → RaiF cS "deeds" (.int S.dn) H E) ∧
  ((S.lt = true → (S.L.length : Nat) < S.p) → ¬ badC S x c → (S.lt = false → ((lg3 S x c).2.length : Nat) < S.p) → ∀ H', ExB a H H' → RgC C CL CR H' a (nextR S x c) → Q .non H')
abbrev s_Ring__complete : Stmt := (inClass (top 23) 21)
abbrev N_Ring__complete : List Str := ["self", "key", "value", "is_living", "count", "draft", "old", "others", "wait"]
theorem sc_Ring__complete : FnScope N_Ring__complete ["self", "key", "value", "is_living", "count"] (defScope s_Ring__complete) := ⟨rfl, rfl, rfl, by decide +kernel, rfl, by decide +kernel, by decide +kernel⟩
theorem cl_Ring__complete (T : Bl mg) (Z : EcF P K mg c_StoreError c_InvalidInput c_KeyLimit c_UnknownKey c_BadChoice c_Stalled) (R : RdF K mg c_Round) (W_RingLog : Gx.ClsF K mg c_RingLog "RingLog" ["entries"]) (W_Ring : Gx.ClsF K mg c_Ring "Ring" ["_places", "_limit", "_budgets", "_late", "_readers", "_log", "_done", "_phase", "_carried", "_last_wait", "_opened", "_open"]) (N_KEY : Gx.GlI mg "KEY" 0) (N_VALUE : Gx.GlI mg "VALUE" 1) (N_LIVING : Gx.GlI mg "LIVING" 2) (N_READERS : Gx.GlI mg "READERS" 3) (D : DfM K c_Ring "_complete" "Ring._complete" s_Ring__complete [] []) (C_Round___len__ : ClM CX0 P w K mg base 3 c_Round "__len__" "Round.__len__" s_Round___len__ ["self"] [] [] (Gx.spLen c_Round)) (C_Ring__append_to : ClM (L2.CX P w) P w K mg base 9 c_Ring "_append_to" "Ring._append_to" s_Ring__append_to ["self", "draft", "key", "value", "is_living"] [] [] (spApt c_Ring c_RingLog c_Round c_Stalled)) (C_Ring__carry_in : ClM (L2.CX P w) P w K mg base 9 c_Ring "_carry_in" "Ring._carry_in" s_Ring__carry_in ["self", "draft", "count", "others"] [] [] (spCry c_Ring c_RingLog c_Round c_BadChoice)) (C_RingLog_needed_count : ClM CX0 P w K mg base 5 c_RingLog "needed_count" "RingLog.needed_count" s_RingLog_needed_count ["self"] [] [] (spNdc c_RingLog)) (C_RingLog_release_at : ClM CX0 P w K mg base 7 c_RingLog "release_at" "RingLog.release_at" s_RingLog_release_at ["self", "index"] [] [] (spRls c_RingLog)) (C_RingLog_find_living : ClM CX0 P w K mg base 3 c_RingLog "find_living" "RingLog.find_living" s_RingLog_find_living ["self", "key"] [] [] (spFnl c_RingLog)) (C_RingLog_copied : ClM CX0 P w K mg base 5 c_RingLog "copied" "RingLog.copied" s_RingLog_copied ["self"] [] [] (spCpy c_RingLog)) : ClM (L2.CX P w) P w K mg base 11 c_Ring "_complete" "Ring._complete" s_Ring__complete ["self", "key", "value", "is_living", "count"] [] [] (spCpl c_Ring c_RingLog c_Round c_Stalled c_BadChoice) := by
  have nd := sc_Ring__complete.nd
  refine D.ok sc_Ring__complete (fun vs H Q E h => ?_) (fun f cdv A outer s H vs Q E hr h => ?_)
  · obtain ⟨a, S, x, c, rfl, _⟩ := h
    rfl
  · obtain ⟨a, S, x, c, rfl, ⟨hR, hok, hx0, hc⟩, k1, k2, k3, k4⟩ := h
    have hu := hu64 hr
    refine ⟨_, (pss_cons (ps_set (i := 5) nd rfl (Or.inl rfl) (pe_m0 C_RingLog_copied W_RingLog.c (by exact hr.mono (by decide)) pass0 (fun _ _ _ _ _ _ us hl => match us, hl with | [_], _ => rfl) (pe_fld (pv 0) rfl)))
    (pss_cons (ps_set (i := 6) nd rfl (Or.inl rfl) (pe_m C_RingLog_find_living W_RingLog.c (by exact hr.mono (by decide)) pass0 (fun _ _ _ _ _ _ us hl => match us, hl with | [_, _], _ => rfl) (pv 5) (pa_cons (pv 1) pa_nil)))
    (pss_cons (ps_if (pt_val (pe_fld (pv 0) rfl))
      (pss_one (ps_expr (pe_mD C_Ring__append_to W_Ring.c (by exact hr.mono (by decide)) (fun σ => passC takesX σ) (fun _ _ _ _ _ _ us hl => match us, hl with | [_, _, _, _, _], _ => rfl) (pv 0) (pa_cons (pv 5) (pa_cons (pv 1) (pa_cons (pv 2) (pa_cons (pv 3) pa_nil)))))))
      pss_nil)
    (pss_cons (ps_if (pt_cmpR opNotN (pv 6) pe_non (nomark _))
      (pss_one (ps_expr (pe_m C_RingLog_release_at W_RingLog.c (by exact hr.mono (by decide)) pass0 (fun _ _ _ _ _ _ us hl => match us, hl with | [_, _], _ => rfl) (pv 5) (pa_cons (pv 6) pa_nil))))
      pss_nil)
    (pss_cons (ps_set (i := 7) nd rfl (Or.inl rfl) (pe_m0 C_RingLog_needed_count W_RingLog.c (by exact hr.mono (by decide)) pass0 (fun _ _ _ _ _ _ us hl => match us, hl with | [_], _ => rfl) (pv 5)))
    (pss_cons (ps_if (PW.pt (pw_and (pt_val (pe_fld (pv 0) rfl)) (pw_and1 (pt_val (pv 3)))))
      (pss_one (ps_set (i := 7) nd rfl (Or.inl rfl) (pe_op opSub (pv 7) pe_int)))
      pss_nil)
    (pss_cons (ps_set (i := 8) nd rfl (Or.inl rfl) (pe_mD C_Ring__carry_in W_Ring.c (by exact hr.mono (by decide)) (fun σ => passC takesX σ) (fun _ _ _ _ _ _ us hl => match us, hl with | [_, _, _, _], _ => rfl) (pv 0) (pa_cons (pv 5) (pa_cons (pv 4) (pa_cons (pv 7) pa_nil)))))
    (pss_cons (ps_if (pt_not (pt_val (pe_fld (pv 0) rfl)))
      (pss_one (ps_expr (pe_mD C_Ring__append_to W_Ring.c (by exact hr.mono (by decide)) (fun σ => passC takesX σ) (fun _ _ _ _ _ _ us hl => match us, hl with | [_, _, _, _, _], _ => rfl) (pv 0) (pa_cons (pv 5) (pa_cons (pv 1) (pa_cons (pv 2) (pa_cons (pv 3) pa_nil)))))))
      pss_nil)
    (pss_cons (ps_fld (pv 0) (pv 5) rfl)
    (pss_cons (ps_fld (pv 0) (pe_op (opAddK (K := K) (by rfl)) (pe_fld (pv 0) rfl) pe_int) rfl)
    (pss_cons (ps_fld (pv 0) (pe_op opMod (pe_op (opAddK (K := K) (by rfl)) (pe_fld (pv 0) rfl) pe_int) (pe_callB (callOwnLen C_Round___len__ (by exact hr.mono (by decide)) pass0 (fun _ _ _ _ _ _ us hl => match us, hl with | [_], _ => rfl)) (by rfl) T.len (by decide +kernel) (pa_cons (pe_fld (pv 0) rfl) pa_nil))) rfl)
    (pss_cons (ps_fld (pv 0) (pe_op (opAddK (K := K) (by rfl)) (pe_fld (pv 0) rfl) (pv 8)) rfl)
    (pss_one (ps_fld (pv 0) (pv 8) rfl)))))))))))))), ?_⟩
    try dsimp only [L2.cxOf, L2.Cx.nox]
    simp only [L2.start, N_Ring__complete, List.map_cons, List.map_nil, List.length_cons, List.length_nil, Nat.reduceAdd, Nat.reduceSub, List.replicate_succ, List.replicate_zero, List.cons_append, List.nil_append]

    obtain ⟨b, dd, o, hI, hb, hd, ho⟩ := hR.ex
    have hl0 := hok.l0
    walk_at "go"
    rename_i d H1 hF1 g1 H2 e2
    have hdn0 := hok.d0
    have hdn1 := hok.d1
    have hF2 : LogF c_RingLog H H2 d S.L := inferInstance
    have g2 := hF2.grow
    refine ite_join (fun σ' H' => σ' = [some (.ref a), some (.str x.k), some (.int x.v), some (.bl x.l), some (cV c), some (.ref d), some (oV (findL x.k S.L)), none, none] ∧ Chg [] H H' ∧ LogF c_RingLog H H' d (lg1 S x) ∧ (S.lt = true → (S.L.length : Nat) < S.p)) (fun N hk => ?_) ?_
    · by_cases hI9 : S.lt = true
      · rw [if_pos hI9]
        walk_at "go"
        refine ⟨a, d, S, H, S.L, x.k, x.v, x.l, rfl, ⟨hR, hF2, by omega, hdn0, hdn1⟩, fun hp => k1 hI9 hp, fun hp H3 e3 h3 => ?_⟩
        walk_at "go"
        have hx1 : (⟨x.k, x.v, x.l, []⟩ : En) = x := by cases x; cases hx0; rfl
        rw [hx1] at h3
        refine hk _ _ ⟨rfl, e3, ?_, fun _ => hp⟩
        unfold lg1
        rw [if_pos hI9]
        exact h3
      · rw [if_neg hI9]
        walk_at "go"
        refine hk _ _ ⟨rfl, g2, ?_, fun h => absurd h hI9⟩
        unfold lg1
        rw [if_neg hI9]
        exact hF2
    rintro σ' H3 ⟨rfl, g3, hF3, hlt⟩
    have hl1 := lg1_len (S := S) (x := x)
    walk_at "go"
    refine ite_join (fun σ' H' => σ' = [some (.ref a), some (.str x.k), some (.int x.v), some (.bl x.l), some (cV c), some (.ref d), some (oV (findL x.k S.L)), none, none] ∧ Chg [] H H' ∧ LogF c_RingLog H H' d (lg2 S x)) (fun N hk => ?_) ?_
    · cases hf : findL x.k S.L with
      | none =>
        dsimp only [oV]
        walk_at "go"
        refine hk _ _ ⟨by rw [hf]; rfl, g3, ?_⟩
        unfold lg2
        rw [hf]
        exact hF3
      | some i =>
        have hi1 := lg1_lt (x := x) hok (findL_lt hf)
        dsimp only [oV]
        rw [if_pos (show (some i).isSome = true from rfl)]
        walk_at "go"
        rename_i H4 e4 h4
        refine hk _ _ ⟨by rw [hf]; rfl, e4, ?_⟩
        unfold lg2
        rw [hf]
        exact h4
    rintro σ' H4 ⟨rfl, g4, hF4⟩
    have hl2 := lg2_len (S := S) (x := x)
    walk_at "go"
    rename_i H5 e5
    have hF5 : LogF c_RingLog H H5 d (lg2 S x) := inferInstance
    have g5 := hF5.grow
    have hR5 : RgC c_Ring c_RingLog c_Round H5 a S := inferInstance
    obtain ⟨b5, dd5, o5, hI5, hb5, hd5, ho5⟩ := hR5.ex
    walk_at "go"
    have hoth : ∀ o : Int, (S.lt = true → x.l = true → o = ((lg2 S x).countP En.need : Nat) - 1) → ((S.lt = false ∨ x.l = false) → o = ((lg2 S x).countP En.need : Nat)) → o = ((oth S x : Nat) : Int) := fun o h1 h2 => by
      unfold oth
      split
      · rename_i hh
        have hc1 := lg2_pos hok hh.1 hh.2 hx0
        rw [h1 hh.1 hh.2]
        omega
      · rename_i hh
        refine h2 ?_
        cases hl : S.lt with
        | false => exact .inl rfl
        | true =>
          cases hm : x.l with
          | false => exact .inr rfl
          | true => exact absurd ⟨hl, hm⟩ hh
    have hole : oth S x ≤ (lg2 S x).countP En.need := by unfold oth; split <;> omega
    have hlb := hok.rb.l2
    have hlb1 := hok.rb.l1
    by_cases hI9 : S.lt = true
    case' pos =>
      rw [if_pos hI9]
      walk_at "gos"
      case' refine_1 =>
        rename_i hI8
        rw [hoth (((lg2 S x).countP En.need : Nat) - 1) (fun _ _ => rfl) (fun h => by rcases h with h | h <;> simp [hI9, hI8] at h)]
      case' refine_2 =>
        rename_i hI8
        rw [hoth ((lg2 S x).countP En.need : Nat) (fun _ h => by rw [hI8] at h; cases h) (fun _ => rfl)]
    case' neg =>
      rw [if_neg hI9]
      walk_at "gos"
      rw [hoth ((lg2 S x).countP En.need : Nat) (fun h => absurd h hI9) (fun _ => rfl)]
    all_goals
      refine ⟨a, d, S, H, lg2 S x, c, oth S x, rfl, ⟨hR, hF5, by omega, hok.rb, hok.p0, hole, hc⟩, fun i hi hb => k2 hlt i hi hb, fun hgd7 H7 e7 h7 => ?_⟩
      have hnb : ¬ badC S x c := fun ⟨i, hi, hh⟩ => by
        obtain ⟨j1, j2, j3⟩ := hgd7 i hi
        rcases hh with hh | hh | hh <;> omega
      have h7 : LogF c_RingLog H H7 d (lg3 S x c).2 := h7
      have hl7 : (lg3 S x c).2.length ≤ S.L.length + 1 := Nat.le_trans carry_len hl2
      have hR7 : RgC c_Ring c_RingLog c_Round H7 a S := inferInstance
      obtain ⟨b7, dd7, o7, hI7, hb7, hd7, ho7⟩ := hR7.ex
      walk_at "go"
      have hx1 : (⟨x.k, x.v, x.l, []⟩ : En) = x := by cases x; cases hx0; rfl
      refine ite_join (fun σ' H' => σ' = [some (.ref a), some (.str x.k), some (.int x.v), some (.bl x.l), some (cV c), some (.ref d), some (oV (findL x.k S.L)), some (.int (oth S x : Nat)), some (.int ((lg3 S x c).1 : Nat))] ∧ LogF c_RingLog H H' d (lg4 S x c) ∧ (S.lt = false → ((lg3 S x c).2.length : Nat) < S.p)) (fun N hk => ?_) ?_
      · by_cases hI7 : S.lt = true
        · rw [if_neg (by simp [hI7])]
          walk_at "go"
          refine hk _ _ ⟨rfl, ?_, fun h => by rw [hI7] at h; cases h⟩
          unfold lg4
          rw [if_pos hI7]
          exact h7
        · have hI6 : S.lt = false := by simpa using hI7
          rw [if_pos (by simp [hI6])]
          walk_at "go"
          refine ⟨a, d, S, H, (lg3 S x c).2, x.k, x.v, x.l, rfl, ⟨hR, h7, by omega, hdn0, hdn1⟩, fun hp => k3 hI6 hnb hp, fun hp H8 e8 h8 => ?_⟩
          walk_at "go"
          rw [hx1] at h8
          refine hk _ _ ⟨rfl, ?_, fun _ => hp⟩
          unfold lg4
          rw [if_neg hI7]
          exact h8
      rintro σ' H8 ⟨rfl, hF8, hnf⟩
      have g8 := hF8.grow
      have hR8 : RgC c_Ring c_RingLog c_Round H8 a S := inferInstance
      obtain ⟨b8, dd8, o8, hI8, hb8, hd8, ho8⟩ := hR8.ex
      obtain ⟨dx, hdx⟩ := hI8.ex
      have hdx : At H8 a _ := ⟨hdx⟩
      walk_at "go"
      rename_i G1 f1 y1 G2 f2 y2 G3 f3 y3 G4 f4 y4 G5 f5 y5
      have r5 : Chg [a] H8 G5 := ((((f1.trans f2).trans f3).trans f4).trans f5)
      have r0 : Chg [a] H G5 := (chgW g8).trans r5
      obtain ⟨e9, ps9, hI9', hr9, n9, _⟩ := hF8.ex
      have hda : d ≠ a := by
        rintro rfl
        obtain ⟨dx0, hz⟩ := hI.ex
        rw [n9] at hz
        cases hz
      have hno : ∀ xs, H8 a ≠ some (.lst xs) := fun xs z => by rw [hdx.eq] at z; cases z
      refine k4 hlt hnb hnf G5 r0 ⟨b8, d, o8, ⟨⟨dx, y5.eq⟩⟩, rdStep (r := r5) (h := hb8), ⟨e9, ps9, ?_, rowsKeep hr9 r5 hno⟩, ⟨r5.keep _ _ ?_ ho8.eq⟩⟩
      · obtain ⟨dd9, hz⟩ := hI9'.ex
        exact ⟨⟨dd9, r5.keep _ _ (by simpa using hda) hz⟩⟩
      · simp
        rintro rfl
        exact hno _ ho8.eq

/-- a key: 1 to 12 signs from a to z and 0 to 9 -/
def KeyOk (z : Str) : Prop := 1 ≤ z.length ∧ z.length ≤ 12 ∧ ∀ c ∈ z.cps.toList, c ∈ ("abcdefghijklmnopqrstuvwxyz0123456789" : Str).cps.toList
theorem KeyOk.lt {z : Str} (h : KeyOk z) : ∀ c ∈ z.cps.toList, c < 16 ^ 8 := fun c hc => by
  have h1 : ∀ c ∈ ("abcdefghijklmnopqrstuvwxyz0123456789" : Str).cps.toList, c < 16 ^ 8 := by decide +kernel
  exact h1 c (h.2.2 c hc)
def spGky : Sp := fun vs H Q _ => ∃ z : Str, vs = [.str z] ∧ KeyOk z ∧ Q .non H
abbrev s_good_key : Stmt := (top 14)
abbrev N_good_key : List Str := ["key", "character"]
theorem sc_good_key : FnScope N_good_key ["key"] (defScope s_good_key) := ⟨rfl, rfl, rfl, by decide +kernel, rfl, by decide +kernel, by decide +kernel⟩
theorem cl_good_key (T : Bl mg) (Z : EcF P K mg c_StoreError c_InvalidInput c_KeyLimit c_UnknownKey c_BadChoice c_Stalled) (R : RdF K mg c_Round) (W_RingLog : Gx.ClsF K mg c_RingLog "RingLog" ["entries"]) (W_Ring : Gx.ClsF K mg c_Ring "Ring" ["_places", "_limit", "_budgets", "_late", "_readers", "_log", "_done", "_phase", "_carried", "_last_wait", "_opened", "_open"]) (N_KEY : Gx.GlI mg "KEY" 0) (N_VALUE : Gx.GlI mg "VALUE" 1) (N_LIVING : Gx.GlI mg "LIVING" 2) (N_READERS : Gx.GlI mg "READERS" 3) (N_KEY_LENGTH : Gx.GlI mg "KEY_LENGTH" 12) (N_KEY_CHARACTERS : Gx.GlS mg "KEY_CHARACTERS" "abcdefghijklmnopqrstuvwxyz0123456789") (D : DfG K mg "good_key" s_good_key [] [])  : ClG CX0 P w K mg base 3 "good_key" s_good_key ["key"] [] [] spGky := by
  have nd := sc_good_key.nd
  refine D.okP sc_good_key (fun vs H Q E h => ?_) (fun f cdv A outer s H vs Q E hr h => ?_)
  · obtain ⟨z, rfl, _⟩ := h
    rfl
  · obtain ⟨z, rfl, hz, k⟩ := h
    have hu := hu64 hr
    refine ⟨_, (pss_cons (ps_if (PW.pt (pw_or (pt_not (pt_val (pe_callB (callIsiK (K := K) (by rfl)) (by rfl) T.isinstance (by decide +kernel) (pa_cons (pv 0) (pa_cons (pe_bltn (v := .ty "str") (by rfl) T.str (by decide +kernel) rfl) pa_nil))))) (pw_or1 (pt_not (pt_chain opLe opLe pe_int (pe_callB (callLenK (K := K) (by rfl)) (by rfl) T.len (by decide +kernel) (pa_cons (pv 0) pa_nil)) (pe_gI N_KEY_LENGTH))))))
      (pss_one ps_never)
      pss_nil)
    (pss_one (ps_for PassesOwn.never rfl (pi_str (pv 0)) (pg_name (i := 1) nd rfl (Or.inl rfl))
      (pss_one (ps_if (pt_cmpR opSgNotIn (pv 1) (pe_gS N_KEY_CHARACTERS) (by rfl))
      (pss_one ps_never)
      pss_nil))))), ?_⟩
    try dsimp only [L2.cxOf, L2.Cx.nox]
    simp only [L2.start, N_good_key, List.map_cons, List.map_nil, List.length_cons, List.length_nil, Nat.reduceAdd, Nat.reduceSub, List.replicate_succ, List.replicate_zero, List.cons_append, List.nil_append]

    have h1 := hz.1
    have h2 := hz.2.1
    walk_at "gos"
    refine Gx.forS [] (fun i σ' H' => ∃ s1, σ' = [some (.str z), s1] ∧ H' = H) ⟨_, rfl, rfl⟩ ?_ ?_
    · rintro i c x σ' H' hi hc rfl e ⟨s1, rfl, rfl⟩
      have hcm : c ∈ ("abcdefghijklmnopqrstuvwxyz0123456789" : Str).cps.toList := hz.2.2 c (by
        rw [Array.mem_toList_iff]
        exact Array.mem_of_getElem? hc)
      walk_at "go"
      rw [decide_eq_true hcm]
      walk_at "go"
      exact Gx.li ⟨_, rfl, rfl⟩
    · rintro σ' H' e ⟨s1, rfl, rfl⟩
      walk_at "go"
      exact k
local macro_rules | `(tactic| walk_at "call") => `(tactic| ((with_reducible show spGky _ _ _ _); refine ⟨_, rfl, by assumption, ?_⟩))
/-- what is wished behind a deed, by its outcome -/
structure CplW (C CL CR cS cB a : Addr) (S : RS) (x : En) (c : Option Int) (H : Hp) (Q : VK) (E : XK) : Prop where
  s1 : S.lt = true → S.p ≤ (S.L.length : Nat) → RaiF cS "deeds" (.int S.dn) H E
  b : (S.lt = true → (S.L.length : Nat) < S.p) → ∀ i, c = some i → (i < 0 ∨ mstL S.bs S.ph (oth S x) < i ∨ ((carryL S.p i.toNat (lg2 S x)).1 : Int) < i) → RaiF cB "choice" (.int i) H E
  s2 : S.lt = false → ¬ badC S x c → S.p ≤ ((lg3 S x c).2.length : Nat) → RaiF cS "deeds" (.int S.dn) H E
  ok : (S.lt = true → (S.L.length : Nat) < S.p) → ¬ badC S x c → (S.lt = false → ((lg3 S x c).2.length : Nat) < S.p) → ∀ H', ExB a H H' → RgC C CL CR H' a (nextR S x c) → Q .non H'
theorem RaiF.mono {cE : Addr} {f : Str} {v : V} {H H2 : Hp} {E : XK} (h : RaiF cE f v H E) (e : Ex H H2) : RaiF cE f v H2 E := fun d H' n e2 h2 => h d H' ⟨e.live _ n.eq⟩ (e.trans e2) h2
theorem CplW.mono {C CL CR cS cB a : Addr} {S : RS} {x : En} {c : Option Int} {H H2 : Hp} {Q : VK} {E : XK} (h : CplW C CL CR cS cB a S x c H Q E) (e : Ex H H2) : CplW C CL CR cS cB a S x c H2 Q E :=
  ⟨fun a b => (h.s1 a b).mono e, fun a i b d => (h.b a i b d).mono e, fun a b d => (h.s2 a b d).mono e, fun u v w H' r g => h.ok u v w H' ((chgW e).trans r) g⟩
instance rgOwnLen {C CL CR a : Addr} {S : RS} {sp : Sp} {E : XK} {H : Hp} {Q : VK} [h : RgC C CL CR H a S] : Gx.Step (Gx.rOwnLen C sp E [.ref a] H Q) (sp [.ref a] H (fun v H' => (∃ n : Nat, v = .int n ∧ n < 2 ^ 60) ∧ Q v H') E) := ⟨fun q => by
  obtain ⟨b, d, o, h1, _⟩ := h.ex
  obtain ⟨dx, h1⟩ := h1.ex
  exact ⟨a, dx, _, rfl, h1, q⟩⟩
instance rgOwnIn {C CL CR a : Addr} {S : RS} {sp : Sp} {E : XK} {H : Hp} {Q : VK} {x : V} [h : RgC C CL CR H a S] : Gx.Step (Gx.rOwnIn C sp E x (.ref a) H Q) (sp [.ref a, x] H (fun v H' => ∃ q, v = .bl q ∧ Q (.bl q) H') E) := ⟨fun q => by
  obtain ⟨b, d, o, h1, _⟩ := h.ex
  obtain ⟨dx, h1⟩ := h1.ex
  exact ⟨a, dx, _, rfl, h1, q⟩⟩
instance rgOwnNotIn {C CL CR a : Addr} {S : RS} {sp : Sp} {E : XK} {H : Hp} {Q : VK} {x : V} [h : RgC C CL CR H a S] : Gx.Step (Gx.rOwnNotIn C sp E x (.ref a) H Q) (sp [.ref a, x] H (fun v H' => ∃ q, v = .bl q ∧ Q (.bl (!q)) H') E) := ⟨fun q => by
  obtain ⟨b, d, o, h1, _⟩ := h.ex
  obtain ⟨dx, h1⟩ := h1.ex
  exact ⟨a, dx, _, rfl, h1, q⟩⟩
local macro_rules | `(tactic| walk_at "call") => `(tactic| first
  | ((with_reducible show spRgC _ _ _ _ _ _ _); refine use_rgc (by omega) ?_; intro H_ e_)
  | ((with_reducible show spRgN _ _ _ _ _ _ _); refine use_rgn (by omega) ?_; intro H_ e_))
theorem findL_some_l {z : Str} {L : List En} {i : Nat} (h : findL z L = some i) : ∃ e, L[i]? = some e ∧ e.l = true ∧ e.k = z := by
  obtain ⟨hi, hp, _⟩ := List.findIdx?_eq_some_iff_getElem.mp h
  refine ⟨L[i], List.getElem?_eq_getElem hi, ?_⟩
  simpa using hp
def spPut (C CL CR cS cB cK : Addr) : Sp := fun vs H Q E => ∃ (a : Addr) (S : RS) (z : Str) (v : Int) (c : Option Int), vs = [.ref a, .str z, .int v, cV c] ∧ (RgC C CL CR H a S ∧ RgOk S ∧ 0 ≤ S.lim ∧ S.lim < 2 ^ 100 ∧ KeyOk z ∧ (∀ i, c = some i → -(2 ^ 100) < i ∧ i < 2 ^ 100)) ∧
  (findL z S.L = none → S.lim ≤ (S.L.countP En.l : Nat) → RaiF cK "most" (.int S.lim) H E) ∧
  ((findL z S.L = none → ((S.L.countP En.l : Nat) : Int) < S.lim) → CplW C CL CR cS cB a S ⟨z, v, true, []⟩ c H Q E)
abbrev s_Ring_put : Stmt := (inClass (top 23) 19)
abbrev N_Ring_put : List Str := ["self", "key", "value", "count"]
theorem sc_Ring_put : FnScope N_Ring_put ["self", "key", "value", "count"] (defScope s_Ring_put) := ⟨rfl, rfl, rfl, by decide +kernel, rfl, by decide +kernel, by decide +kernel⟩
theorem cl_Ring_put (T : Bl mg) (Z : EcF P K mg c_StoreError c_InvalidInput c_KeyLimit c_UnknownKey c_BadChoice c_Stalled) (R : RdF K mg c_Round) (W_RingLog : Gx.ClsF K mg c_RingLog "RingLog" ["entries"]) (W_Ring : Gx.ClsF K mg c_Ring "Ring" ["_places", "_limit", "_budgets", "_late", "_readers", "_log", "_done", "_phase", "_carried", "_last_wait", "_opened", "_open"]) (N_KEY : Gx.GlI mg "KEY" 0) (N_VALUE : Gx.GlI mg "VALUE" 1) (N_LIVING : Gx.GlI mg "LIVING" 2) (N_READERS : Gx.GlI mg "READERS" 3) (N_KEY_LENGTH : Gx.GlI mg "KEY_LENGTH" 12) (N_KEY_CHARACTERS : Gx.GlS mg "KEY_CHARACTERS" "abcdefghijklmnopqrstuvwxyz0123456789") (D : DfM K c_Ring "put" "Ring.put" s_Ring_put [.non] []) (C_Ring__complete : ClM (L2.CX P w) P w K mg base 11 c_Ring "_complete" "Ring._complete" s_Ring__complete ["self", "key", "value", "is_living", "count"] [] [] (spCpl c_Ring c_RingLog c_Round c_Stalled c_BadChoice)) (C_Ring___len__ : ClM CX0 P w K mg base 3 c_Ring "__len__" "Ring.__len__" s_Ring___len__ ["self"] [] [] (spRgN c_Ring c_RingLog c_Round)) (C_Ring___contains__ : ClM CX0 P w K mg base 5 c_Ring "__contains__" "Ring.__contains__" s_Ring___contains__ ["self", "key"] [] [] (spRgC c_Ring c_RingLog c_Round)) (C_good_key : ClG CX0 P w K mg base 3 "good_key" s_good_key ["key"] [] [] spGky) : ClM (L2.CX P w) P w K mg base 13 c_Ring "put" "Ring.put" s_Ring_put ["self", "key", "value", "count"] [.non] [] (spPut c_Ring c_RingLog c_Round c_Stalled c_BadChoice c_KeyLimit) := by
  have nd := sc_Ring_put.nd
  refine D.ok sc_Ring_put (fun vs H Q E h => ?_) (fun f cdv A outer s H vs Q E hr h => ?_)
  · obtain ⟨a, S, z, v, c, rfl, _⟩ := h
    rfl
  · obtain ⟨a, S, z, v, c, rfl, ⟨hR, hok, m0, m1, hz, hc⟩, k1, k2⟩ := h
    have hu := hu64 hr
    refine ⟨_, (pss_cons (ps_expr (pe_g C_good_key (by exact hr.mono (by decide)) (E := fun _ => E0) (fun σ => passC0 σ) (fun _ _ _ _ _ _ us hl => match us, hl with | [_], _ => rfl) (pa_cons (pv 1) pa_nil)))
    (pss_cons (ps_if (PW.pt (pw_and (pt_cmpR (opOwnNotIn C_Ring___contains__ (by exact hr.mono (by decide)) pass0 (fun _ _ _ _ _ _ us hl => match us, hl with | [_, _], _ => rfl)) (pv 1) (pv 0) (by rfl)) (pw_and1 (pt_cmpR opGe (pe_callB (callOwnLen C_Ring___len__ (by exact hr.mono (by decide)) pass0 (fun _ _ _ _ _ _ us hl => match us, hl with | [_], _ => rfl)) (by rfl) T.len (by decide +kernel) (pa_cons (pv 0) pa_nil)) (pe_fld (pv 0) rfl) (nomark _)))))
      (pss_one (ps_raise rfl takesX (pmk1 (ex_KeyLimit Z.d_KeyLimit) (by exact hr.mono (by decide)) rfl (pa_cons (pe_fld (pv 0) rfl) pa_nil))))
      pss_nil)
    (pss_one (ps_expr (pe_mD C_Ring__complete W_Ring.c (by exact hr.mono (by decide)) (fun σ => passC takesX σ) (fun _ _ _ _ _ _ us hl => match us, hl with | [_, _, _, _, _], _ => rfl) (pv 0) (pa_cons (pv 1) (pa_cons (pv 2) (pa_cons pe_bl (pa_cons (pv 3) pa_nil))))))))), ?_⟩
    try dsimp only [L2.cxOf, L2.Cx.nox]
    simp only [L2.start, N_Ring_put, List.map_cons, List.map_nil, List.length_cons, List.length_nil, Nat.reduceAdd, Nat.reduceSub, List.replicate_succ, List.replicate_zero, List.cons_append, List.nil_append]

    have hl0 := hok.l0
    obtain ⟨b, dd, o, hI, hb, hd, ho⟩ := hR.ex
    walk_at "go"
    rename_i H1 e1
    have hR1 : RgC c_Ring c_RingLog c_Round H1 a S := inferInstance
    obtain ⟨b1, dd1, o1, hI1, _⟩ := hR1.ex
    cases hf : findL z S.L with
    | none =>
      rw [if_pos (show (!(none : Option Nat).isSome) = true from rfl)]
      walk_at "go"
      rename_i H2 e2
      have hR2 : RgC c_Ring c_RingLog c_Round H2 a S := inferInstance
      obtain ⟨b2, dd2, o2, hI2, _⟩ := hR2.ex
      have hcl := List.countP_le_length (p := En.l) (l := S.L)
      walk_at "gos"
      · rename_i hI9 d H3 n3 e3 h3
        have hI8 : S.lim ≤ (S.L.countP En.l : Nat) := by omega
        exact k1 hf hI8 d H3 ⟨(e1.trans e2).live _ n3.eq⟩ ((e1.trans e2).trans e3) h3
      · rename_i hI9
        have kk := (k2 (fun _ => by omega)).mono (e1.trans e2)
        exact ⟨a, S, ⟨z, v, true, []⟩, c, rfl, ⟨hR2, hok, rfl, hc⟩, kk.s1, kk.b, kk.s2, kk.ok⟩
    | some i =>
      rw [if_neg (by simp)]
      walk_at "go"
      have kk := (k2 (fun h => by rw [hf] at h; cases h)).mono e1
      exact ⟨a, S, ⟨z, v, true, []⟩, c, rfl, ⟨hR1, hok, rfl, hc⟩, kk.s1, kk.b, kk.s2, kk.ok⟩
def spDel (C CL CR cS cB cU : Addr) : Sp := fun vs H Q E => ∃ (a : Addr) (S : RS) (z : Str) (c : Option Int), vs = [.ref a, .str z, cV c] ∧ (RgC C CL CR H a S ∧ RgOk S ∧ KeyOk z ∧ (∀ i, c = some i → -(2 ^ 100) < i ∧ i < 2 ^ 100)) ∧
  (findL z S.L = none → RaiF cU "key" (.str z) H E) ∧
  (findL z S.L ≠ none → CplW C CL CR cS cB a S ⟨z, 0, false, []⟩ c H Q E)
abbrev s_Ring_delete : Stmt := (inClass (top 23) 20)
abbrev N_Ring_delete : List Str := ["self", "key", "count"]
theorem sc_Ring_delete : FnScope N_Ring_delete ["self", "key", "count"] (defScope s_Ring_delete) := ⟨rfl, rfl, rfl, by decide +kernel, rfl, by decide +kernel, by decide +kernel⟩
theorem cl_Ring_delete (T : Bl mg) (Z : EcF P K mg c_StoreError c_InvalidInput c_KeyLimit c_UnknownKey c_BadChoice c_Stalled) (R : RdF K mg c_Round) (W_RingLog : Gx.ClsF K mg c_RingLog "RingLog" ["entries"]) (W_Ring : Gx.ClsF K mg c_Ring "Ring" ["_places", "_limit", "_budgets", "_late", "_readers", "_log", "_done", "_phase", "_carried", "_last_wait", "_opened", "_open"]) (N_KEY : Gx.GlI mg "KEY" 0) (N_VALUE : Gx.GlI mg "VALUE" 1) (N_LIVING : Gx.GlI mg "LIVING" 2) (N_READERS : Gx.GlI mg "READERS" 3) (N_KEY_LENGTH : Gx.GlI mg "KEY_LENGTH" 12) (N_KEY_CHARACTERS : Gx.GlS mg "KEY_CHARACTERS" "abcdefghijklmnopqrstuvwxyz0123456789") (D : DfM K c_Ring "delete" "Ring.delete" s_Ring_delete [.non] []) (C_Ring__complete : ClM (L2.CX P w) P w K mg base 11 c_Ring "_complete" "Ring._complete" s_Ring__complete ["self", "key", "value", "is_living", "count"] [] [] (spCpl c_Ring c_RingLog c_Round c_Stalled c_BadChoice)) (C_Ring___contains__ : ClM CX0 P w K mg base 5 c_Ring "__contains__" "Ring.__contains__" s_Ring___contains__ ["self", "key"] [] [] (spRgC c_Ring c_RingLog c_Round)) : ClM (L2.CX P w) P w K mg base 13 c_Ring "delete" "Ring.delete" s_Ring_delete ["self", "key", "count"] [.non] [] (spDel c_Ring c_RingLog c_Round c_Stalled c_BadChoice c_UnknownKey) := by
  have nd := sc_Ring_delete.nd
  refine D.ok sc_Ring_delete (fun vs H Q E h => ?_) (fun f cdv A outer s H vs Q E hr h => ?_)
  · obtain ⟨a, S, z, c, rfl, _⟩ := h
    rfl
  · obtain ⟨a, S, z, c, rfl, ⟨hR, hok, hz, hc⟩, k1, k2⟩ := h
    have hu := hu64 hr
    refine ⟨_, (pss_cons (ps_if (pt_cmpR (opOwnNotIn C_Ring___contains__ (by exact hr.mono (by decide)) pass0 (fun _ _ _ _ _ _ us hl => match us, hl with | [_, _], _ => rfl)) (pv 1) (pv 0) (by rfl))
      (pss_one (ps_raise rfl takesX (pmk1 (ex_UnknownKey Z.d_UnknownKey) (by exact hr.mono (by decide)) rfl (pa_cons (pv 1) pa_nil))))
      pss_nil)
    (pss_one (ps_expr (pe_mD C_Ring__complete W_Ring.c (by exact hr.mono (by decide)) (fun σ => passC takesX σ) (fun _ _ _ _ _ _ us hl => match us, hl with | [_, _, _, _, _], _ => rfl) (pv 0) (pa_cons (pv 1) (pa_cons pe_int (pa_cons pe_bl (pa_cons (pv 2) pa_nil)))))))), ?_⟩
    try dsimp only [L2.cxOf, L2.Cx.nox]
    simp only [L2.start, N_Ring_delete, List.map_cons, List.map_nil, List.length_cons, List.length_nil, Nat.reduceAdd, Nat.reduceSub, List.replicate_succ, List.replicate_zero, List.cons_append, List.nil_append]

    have hl0 := hok.l0
    have hz1 : z.length ≤ 100 := Nat.le_trans hz.2.1 (by decide)
    have hz2 := hz.lt
    obtain ⟨b, dd, o, hI, hb, hd, ho⟩ := hR.ex
    walk_at "go"
    rename_i H1 e1
    have hR1 : RgC c_Ring c_RingLog c_Round H1 a S := inferInstance
    obtain ⟨b1, dd1, o1, hI1, _⟩ := hR1.ex
    cases hf : findL z S.L with
    | none =>
      rw [if_pos (show (!(none : Option Nat).isSome) = true from rfl)]
      walk_at "go"
      rename_i d H3 n3 e3 h3
      exact k1 hf d H3 ⟨e1.live _ n3.eq⟩ (e1.trans e3) h3
    | some i =>
      rw [if_neg (by simp)]
      walk_at "go"
      have kk := (k2 (fun h => by rw [hf] at h; cases h)).mono e1
      exact ⟨a, S, ⟨z, 0, false, []⟩, c, rfl, ⟨hR1, hok, rfl, hc⟩, kk.s1, kk.b, kk.s2, kk.ok⟩

def spAtm : Sp := fun vs H Q _ => ∃ (v m : Int) (z : Str), vs = [.int v, .int m, .str z] ∧ v ≤ m ∧ Q .non H
abbrev s_at_most : Stmt := (top 12)
abbrev N_at_most : List Str := ["value", "most", "field"]
theorem sc_at_most : FnScope N_at_most ["value", "most", "field"] (defScope s_at_most) := ⟨rfl, rfl, rfl, by decide +kernel, rfl, by decide +kernel, by decide +kernel⟩
theorem cl_at_most (T : Bl mg) (Z : EcF P K mg c_StoreError c_InvalidInput c_KeyLimit c_UnknownKey c_BadChoice c_Stalled) (R : RdF K mg c_Round) (W_RingLog : Gx.ClsF K mg c_RingLog "RingLog" ["entries"]) (W_Ring : Gx.ClsF K mg c_Ring "Ring" ["_places", "_limit", "_budgets", "_late", "_readers", "_log", "_done", "_phase", "_carried", "_last_wait", "_opened", "_open"]) (N_KEY : Gx.GlI mg "KEY" 0) (N_VALUE : Gx.GlI mg "VALUE" 1) (N_LIVING : Gx.GlI mg "LIVING" 2) (N_READERS : Gx.GlI mg "READERS" 3) (N_KEY_LENGTH : Gx.GlI mg "KEY_LENGTH" 12) (N_KEY_CHARACTERS : Gx.GlS mg "KEY_CHARACTERS" "abcdefghijklmnopqrstuvwxyz0123456789") (D : DfG K mg "at_most" s_at_most [] [])  : ClG CX0 P w K mg base 3 "at_most" s_at_most ["value", "most", "field"] [] [] spAtm := by
  have nd := sc_at_most.nd
  refine D.okP sc_at_most (fun vs H Q E h => ?_) (fun f cdv A outer s H vs Q E hr h => ?_)
  · obtain ⟨v, m, z, rfl, _⟩ := h
    rfl
  · obtain ⟨v, m, z, rfl, h, k⟩ := h
    have hu := hu64 hr
    refine ⟨_, (pss_one (ps_if (pt_cmpR opGt (pv 0) (pv 1) (nomark _))
      (pss_one ps_never)
      pss_nil)), ?_⟩
    try dsimp only [L2.cxOf, L2.Cx.nox]
    simp only [L2.start, N_at_most, List.map_cons, List.map_nil, List.length_cons, List.length_nil, Nat.reduceAdd, Nat.reduceSub, List.replicate_succ, List.replicate_zero, List.cons_append, List.nil_append]

    walk_at "gos"
    exact k
local macro_rules | `(tactic| walk_at "call") => `(tactic| first
  | ((with_reducible show spAtm _ _ _ _); refine ⟨_, _, _, rfl, by omega, ?_⟩)
  | ((with_reducible show spRl0 _ _ _ _ _); refine ⟨_, _, rfl, by infer_instance, ?_⟩; intro e_ H_ n_ f_ h_ g_; have nn_ := Gx.Nw.mk n_)
  | ((with_reducible show Gx.rMkC _ _ _ _ _ _ _); refine Gx.g_mkC ?_; intro x_ dx_ H_ nx_ e_ hx_))
def newR (p lim : Int) (bs : List Int) (lt : Bool) (rd : Int) : RS := ⟨p, lim, bs, lt, rd, [], 0, 0, 0, 0, 0, []⟩
theorem putN {f : Str} {y : V} {fs gs : List (Str × V)} {H : Hp} {a C dx : Addr} (h : At H a (.ins C dx (putF f y fs))) (e : putF f y fs = gs) : At H a (.ins C dx gs) := by rw [← e]; exact h
def spRin (C CL CR : Addr) : Sp := fun vs H Q _ => ∃ (x dx b : Addr) (p lim : Int) (bs : List Int) (lt : Bool) (rd : Int), vs = [.ref x, .int p, .int lim, .ref b, .bl lt, .int rd] ∧ (At H x (.ins C dx []) ∧ RdC CR H b bs ∧ 1 ≤ p ∧ 1 ≤ lim ∧ lim ≤ p ∧ 0 ≤ rd ∧ (lt = true → rd = 0)) ∧
  ∀ H', ExB x H H' → RgC C CL CR H' x (newR p lim bs lt rd) → Q .non H'
abbrev s_Ring___init__ : Stmt := (inClass (top 23) 0)
abbrev N_Ring___init__ : List Str := ["self", "places", "limit", "budgets", "late", "readers"]
theorem sc_Ring___init__ : FnScope N_Ring___init__ ["self", "places", "limit", "budgets", "late", "readers"] (defScope s_Ring___init__) := ⟨rfl, rfl, rfl, by decide +kernel, rfl, by decide +kernel, by decide +kernel⟩
theorem cl_Ring___init__ (T : Bl mg) (Z : EcF P K mg c_StoreError c_InvalidInput c_KeyLimit c_UnknownKey c_BadChoice c_Stalled) (R : RdF K mg c_Round) (W_RingLog : Gx.ClsF K mg c_RingLog "RingLog" ["entries"]) (W_Ring : Gx.ClsF K mg c_Ring "Ring" ["_places", "_limit", "_budgets", "_late", "_readers", "_log", "_done", "_phase", "_carried", "_last_wait", "_opened", "_open"]) (N_KEY : Gx.GlI mg "KEY" 0) (N_VALUE : Gx.GlI mg "VALUE" 1) (N_LIVING : Gx.GlI mg "LIVING" 2) (N_READERS : Gx.GlI mg "READERS" 3) (N_KEY_LENGTH : Gx.GlI mg "KEY_LENGTH" 12) (N_KEY_CHARACTERS : Gx.GlS mg "KEY_CHARACTERS" "abcdefghijklmnopqrstuvwxyz0123456789") (D : Gx.DfC K c_Ring "Ring.__init__" s_Ring___init__ [] [("late", .bl false), ("readers", .int 0)]) (C_RingLog___init__ : Gx.ClC CX0 P w K mg base 3 c_RingLog "RingLog.__init__" s_RingLog___init__ ["self"] [] [] (spRl0 c_RingLog)) (C_at_most : ClG CX0 P w K mg base 3 "at_most" s_at_most ["value", "most", "field"] [] [] spAtm) (C_at_least : ClG CX0 P w K mg base 3 "at_least" s_at_least ["value", "least", "field"] [] [] spAtl) : Gx.ClC CX0 P w K mg base 5 c_Ring "Ring.__init__" s_Ring___init__ ["self", "places", "limit", "budgets", "late", "readers"] [] [("late", .bl false), ("readers", .int 0)] (spRin c_Ring c_RingLog c_Round) := by
  have nd := sc_Ring___init__.nd
  refine D.okP sc_Ring___init__ (fun vs H Q E h => ?_) (fun f cdv A outer s H vs Q E hr h => ?_)
  · obtain ⟨x, dx, b, p, lim, bs, lt, rd, rfl, _⟩ := h
    rfl
  · obtain ⟨x, dx, b, p, lim, bs, lt, rd, rfl, ⟨hx, hb, p1, l1, l2, r0, r1⟩, k⟩ := h
    have hu := hu64 hr
    refine ⟨_, (pss_cons (ps_expr (pe_g C_at_least (by exact hr.mono (by decide)) (E := fun _ => E0) (fun σ => passC0 σ) (fun _ _ _ _ _ _ us hl => match us, hl with | [_, _, _], _ => rfl) (pa_cons (pv 1) (pa_cons pe_int (pa_cons pe_str pa_nil)))))
    (pss_cons (ps_expr (pe_g C_at_least (by exact hr.mono (by decide)) (E := fun _ => E0) (fun σ => passC0 σ) (fun _ _ _ _ _ _ us hl => match us, hl with | [_, _, _], _ => rfl) (pa_cons (pv 2) (pa_cons pe_int (pa_cons pe_str pa_nil)))))
    (pss_cons (ps_expr (pe_g C_at_least (by exact hr.mono (by decide)) (E := fun _ => E0) (fun σ => passC0 σ) (fun _ _ _ _ _ _ us hl => match us, hl with | [_, _, _], _ => rfl) (pa_cons (pv 5) (pa_cons pe_int (pa_cons pe_str pa_nil)))))
    (pss_cons (ps_expr (pe_g C_at_most (by exact hr.mono (by decide)) (E := fun _ => E0) (fun σ => passC0 σ) (fun _ _ _ _ _ _ us hl => match us, hl with | [_, _, _], _ => rfl) (pa_cons (pv 2) (pa_cons (pv 1) (pa_cons pe_str pa_nil)))))
    (pss_cons (ps_if (PW.pt (pw_and (pt_val (pv 4)) (pw_and1 (pt_cmpR opGt (pv 5) pe_int (nomark _)))))
      (pss_one ps_never)
      pss_nil)
    (pss_cons (ps_fld (pv 0) (pv 1) rfl)
    (pss_cons (ps_fld (pv 0) (pv 2) rfl)
    (pss_cons (ps_fld (pv 0) (pv 3) rfl)
    (pss_cons (ps_fld (pv 0) (pv 4) rfl)
    (pss_cons (ps_fld (pv 0) (pv 5) rfl)
    (pss_cons (ps_fld (pv 0) (pe_mk0 C_RingLog___init__ (by exact hr.mono (by decide)) (by rfl) W_RingLog.g pass0 (fun _ _ _ _ _ _ us hl => match us, hl with | [_], _ => rfl)) rfl)
    (pss_cons (ps_fld (pv 0) pe_int rfl)
    (pss_cons (ps_fld (pv 0) pe_int rfl)
    (pss_cons (ps_fld (pv 0) pe_int rfl)
    (pss_cons (ps_fld (pv 0) pe_int rfl)
    (pss_cons (ps_fld (pv 0) pe_int rfl)
    (pss_one (ps_fld (pv 0) (pe_lst pa_nil) rfl)))))))))))))))))), ?_⟩
    try dsimp only [L2.cxOf, L2.Cx.nox]
    simp only [L2.start, N_Ring___init__, List.map_cons, List.map_nil, List.length_cons, List.length_nil, Nat.reduceAdd, Nat.reduceSub, List.replicate_succ, List.replicate_zero, List.cons_append, List.nil_append]

    --BODY
    cases lt with
    | false =>
      walk_at "gos"
      rename_i H21 e21 h21
      have h21 : At H21 x (.ins c_Ring dx [(("_places" : Str), .int p)]) := h21
      walk_at "go"
      rename_i H22 e22 h22
      have h22 : At H22 x (.ins c_Ring dx [(("_places" : Str), .int p), (("_limit" : Str), .int lim)]) := h22
      walk_at "go"
      rename_i H23 e23 h23
      have h23 : At H23 x (.ins c_Ring dx [(("_places" : Str), .int p), (("_limit" : Str), .int lim), (("_budgets" : Str), .ref b)]) := h23
      walk_at "go"
      rename_i H24 e24 h24
      have h24 : At H24 x (.ins c_Ring dx [(("_places" : Str), .int p), (("_limit" : Str), .int lim), (("_budgets" : Str), .ref b), (("_late" : Str), .bl false)]) := h24
      walk_at "go"
      rename_i H25 e25 h25 d dd G1 m1 f1 hd1 e G2 m2 f2 hd2 he2 m4
      have h25 : At H25 x (.ins c_Ring dx [(("_places" : Str), .int p), (("_limit" : Str), .int lim), (("_budgets" : Str), .ref b), (("_late" : Str), .bl false), (("_readers" : Str), .int rd)]) := h25
      walk_at "go"
      rename_i H26 e26 h26
      have h26 : At H26 x (.ins c_Ring dx [(("_places" : Str), .int p), (("_limit" : Str), .int lim), (("_budgets" : Str), .ref b), (("_late" : Str), .bl false), (("_readers" : Str), .int rd), (("_log" : Str), .ref d)]) := h26
      walk_at "go"
      rename_i H27 e27 h27
      have h27 : At H27 x (.ins c_Ring dx [(("_places" : Str), .int p), (("_limit" : Str), .int lim), (("_budgets" : Str), .ref b), (("_late" : Str), .bl false), (("_readers" : Str), .int rd), (("_log" : Str), .ref d), (("_done" : Str), .int 0)]) := h27
      walk_at "go"
      rename_i H28 e28 h28
      have h28 : At H28 x (.ins c_Ring dx [(("_places" : Str), .int p), (("_limit" : Str), .int lim), (("_budgets" : Str), .ref b), (("_late" : Str), .bl false), (("_readers" : Str), .int rd), (("_log" : Str), .ref d), (("_done" : Str), .int 0), (("_phase" : Str), .int 0)]) := h28
      walk_at "go"
      rename_i H29 e29 h29
      have h29 : At H29 x (.ins c_Ring dx [(("_places" : Str), .int p), (("_limit" : Str), .int lim), (("_budgets" : Str), .ref b), (("_late" : Str), .bl false), (("_readers" : Str), .int rd), (("_log" : Str), .ref d), (("_done" : Str), .int 0), (("_phase" : Str), .int 0), (("_carried" : Str), .int 0)]) := h29
      walk_at "go"
      rename_i H30 e30 h30
      have h30 : At H30 x (.ins c_Ring dx [(("_places" : Str), .int p), (("_limit" : Str), .int lim), (("_budgets" : Str), .ref b), (("_late" : Str), .bl false), (("_readers" : Str), .int rd), (("_log" : Str), .ref d), (("_done" : Str), .int 0), (("_phase" : Str), .int 0), (("_carried" : Str), .int 0), (("_last_wait" : Str), .int 0)]) := h30
      walk_at "go"
      rename_i H31 e31 h31 o G3 m3 f3 ho3
      have h31 : At H31 x (.ins c_Ring dx [(("_places" : Str), .int p), (("_limit" : Str), .int lim), (("_budgets" : Str), .ref b), (("_late" : Str), .bl false), (("_readers" : Str), .int rd), (("_log" : Str), .ref d), (("_done" : Str), .int 0), (("_phase" : Str), .int 0), (("_carried" : Str), .int 0), (("_last_wait" : Str), .int 0), (("_opened" : Str), .int 0)]) := h31
      walk_at "go"
      rename_i H32 e32 h32
      have h32 : At H32 x (.ins c_Ring dx [(("_places" : Str), .int p), (("_limit" : Str), .int lim), (("_budgets" : Str), .ref b), (("_late" : Str), .bl false), (("_readers" : Str), .int rd), (("_log" : Str), .ref d), (("_done" : Str), .int 0), (("_phase" : Str), .int 0), (("_carried" : Str), .int 0), (("_last_wait" : Str), .int 0), (("_opened" : Str), .int 0), (("_open" : Str), .ref o)]) := h32
      have hd32 : At H32 d (.ins c_RingLog dd [(("entries" : Str), .ref e)]) := by infer_instance
      have he32 : At H32 e (.lst []) := by infer_instance
      exact k _ Gx.rel ⟨b, d, o, ⟨dx, h32.eq⟩, by infer_instance, ⟨⟨e, [], ⟨dd, hd32.eq⟩, ⟨he32.eq, rfl, fun i p hp => by simp at hp⟩⟩⟩, by infer_instance⟩
    | true =>
      have r2 := r1 rfl
      walk_at "gos"
      rename_i H21 e21 h21
      have h21 : At H21 x (.ins c_Ring dx [(("_places" : Str), .int p)]) := h21
      walk_at "go"
      rename_i H22 e22 h22
      have h22 : At H22 x (.ins c_Ring dx [(("_places" : Str), .int p), (("_limit" : Str), .int lim)]) := h22
      walk_at "go"
      rename_i H23 e23 h23
      have h23 : At H23 x (.ins c_Ring dx [(("_places" : Str), .int p), (("_limit" : Str), .int lim), (("_budgets" : Str), .ref b)]) := h23
      walk_at "go"
      rename_i H24 e24 h24
      have h24 : At H24 x (.ins c_Ring dx [(("_places" : Str), .int p), (("_limit" : Str), .int lim), (("_budgets" : Str), .ref b), (("_late" : Str), .bl true)]) := h24
      walk_at "go"
      rename_i H25 e25 h25 d dd G1 m1 f1 hd1 e G2 m2 f2 hd2 he2 m4
      have h25 : At H25 x (.ins c_Ring dx [(("_places" : Str), .int p), (("_limit" : Str), .int lim), (("_budgets" : Str), .ref b), (("_late" : Str), .bl true), (("_readers" : Str), .int rd)]) := h25
      walk_at "go"
      rename_i H26 e26 h26
      have h26 : At H26 x (.ins c_Ring dx [(("_places" : Str), .int p), (("_limit" : Str), .int lim), (("_budgets" : Str), .ref b), (("_late" : Str), .bl true), (("_readers" : Str), .int rd), (("_log" : Str), .ref d)]) := h26
      walk_at "go"
      rename_i H27 e27 h27
      have h27 : At H27 x (.ins c_Ring dx [(("_places" : Str), .int p), (("_limit" : Str), .int lim), (("_budgets" : Str), .ref b), (("_late" : Str), .bl true), (("_readers" : Str), .int rd), (("_log" : Str), .ref d), (("_done" : Str), .int 0)]) := h27
      walk_at "go"
      rename_i H28 e28 h28
      have h28 : At H28 x (.ins c_Ring dx [(("_places" : Str), .int p), (("_limit" : Str), .int lim), (("_budgets" : Str), .ref b), (("_late" : Str), .bl true), (("_readers" : Str), .int rd), (("_log" : Str), .ref d), (("_done" : Str), .int 0), (("_phase" : Str), .int 0)]) := h28
      walk_at "go"
      rename_i H29 e29 h29
      have h29 : At H29 x (.ins c_Ring dx [(("_places" : Str), .int p), (("_limit" : Str), .int lim), (("_budgets" : Str), .ref b), (("_late" : Str), .bl true), (("_readers" : Str), .int rd), (("_log" : Str), .ref d), (("_done" : Str), .int 0), (("_phase" : Str), .int 0), (("_carried" : Str), .int 0)]) := h29
      walk_at "go"
      rename_i H30 e30 h30
      have h30 : At H30 x (.ins c_Ring dx [(("_places" : Str), .int p), (("_limit" : Str), .int lim), (("_budgets" : Str), .ref b), (("_late" : Str), .bl true), (("_readers" : Str), .int rd), (("_log" : Str), .ref d), (("_done" : Str), .int 0), (("_phase" : Str), .int 0), (("_carried" : Str), .int 0), (("_last_wait" : Str), .int 0)]) := h30
      walk_at "go"
      rename_i H31 e31 h31 o G3 m3 f3 ho3
      have h31 : At H31 x (.ins c_Ring dx [(("_places" : Str), .int p), (("_limit" : Str), .int lim), (("_budgets" : Str), .ref b), (("_late" : Str), .bl true), (("_readers" : Str), .int rd), (("_log" : Str), .ref d), (("_done" : Str), .int 0), (("_phase" : Str), .int 0), (("_carried" : Str), .int 0), (("_last_wait" : Str), .int 0), (("_opened" : Str), .int 0)]) := h31
      walk_at "go"
      rename_i H32 e32 h32
      have h32 : At H32 x (.ins c_Ring dx [(("_places" : Str), .int p), (("_limit" : Str), .int lim), (("_budgets" : Str), .ref b), (("_late" : Str), .bl true), (("_readers" : Str), .int rd), (("_log" : Str), .ref d), (("_done" : Str), .int 0), (("_phase" : Str), .int 0), (("_carried" : Str), .int 0), (("_last_wait" : Str), .int 0), (("_opened" : Str), .int 0), (("_open" : Str), .ref o)]) := h32
      have hd32 : At H32 d (.ins c_RingLog dd [(("entries" : Str), .ref e)]) := by infer_instance
      have he32 : At H32 e (.lst []) := by infer_instance
      exact k _ Gx.rel ⟨b, d, o, ⟨dx, h32.eq⟩, by infer_instance, ⟨⟨e, [], ⟨dd, hd32.eq⟩, ⟨he32.eq, rfl, fun i p hp => by simp at hp⟩⟩⟩, by infer_instance⟩

/-! the purse: [left, seed, count] -/
class Bg (b : Addr) (H : Hp) : Prop where
  ex : ∃ cell cnt seed : Int, H b = some (.lst [.int cell, .int cnt, .int seed])
instance (priority := low) bgStep {b : Addr} {cs : List Addr} {H1 H : Hp} [h : Bg b H1] [r : Chg cs H1 H] [n : NotIn b cs] : Bg b H := ⟨by
  obtain ⟨x, y, z, h1⟩ := h.ex
  exact ⟨x, y, z, r.keep _ _ n.out h1⟩⟩
instance liveBg {b : Addr} {H : Hp} [h : Bg b H] : Live H b := ⟨by
  obtain ⟨x, y, z, h1⟩ := h.ex
  exact ⟨_, h1⟩⟩
def spCell (K : PySem.W.Frag) : Sp := fun vs H Q _ => ∃ (a : Addr) (ns : List Int) (k : Int), vs = [.ref a, .int k] ∧ (SqC K H a (ns.map V.int) ∧ 0 ≤ k) ∧ ∀ c H', Ex H H' → Q (.int c) H'
abbrev s_law_cell : Stmt := (top 27)
abbrev N_law_cell : List Str := ["_law_script", "_law_k"]
theorem sc_law_cell : FnScope N_law_cell ["_law_script", "_law_k"] (defScope s_law_cell) := ⟨rfl, rfl, rfl, by decide +kernel, rfl, by decide +kernel, by decide +kernel⟩
theorem cl_law_cell (T : Bl mg) (Z : EcF P K mg c_StoreError c_InvalidInput c_KeyLimit c_UnknownKey c_BadChoice c_Stalled) (R : RdF K mg c_Round) (W_RingLog : Gx.ClsF K mg c_RingLog "RingLog" ["entries"]) (W_Ring : Gx.ClsF K mg c_Ring "Ring" ["_places", "_limit", "_budgets", "_late", "_readers", "_log", "_done", "_phase", "_carried", "_last_wait", "_opened", "_open"]) (N_KEY : Gx.GlI mg "KEY" 0) (N_VALUE : Gx.GlI mg "VALUE" 1) (N_LIVING : Gx.GlI mg "LIVING" 2) (N_READERS : Gx.GlI mg "READERS" 3) (N_KEY_LENGTH : Gx.GlI mg "KEY_LENGTH" 12) (N_KEY_CHARACTERS : Gx.GlS mg "KEY_CHARACTERS" "abcdefghijklmnopqrstuvwxyz0123456789") (D : DfG K mg "_law_cell" s_law_cell [] [])  : ClG CX0 P w K mg base 3 "_law_cell" s_law_cell ["_law_script", "_law_k"] [] [] (spCell K) := by
  have nd := sc_law_cell.nd
  refine D.okP sc_law_cell (fun vs H Q E h => ?_) (fun f cdv A outer s H vs Q E hr h => ?_)
  · obtain ⟨a, ns, k, rfl, _⟩ := h
    rfl
  · obtain ⟨a, ns, k, rfl, ⟨hs, hk⟩, q⟩ := h
    have hu := hu64 hr
    refine ⟨_, (pss_cons (ps_if (pt_cmpR opLt (pv 1) (pe_callB (callLenK (K := K) (by rfl)) (by rfl) T.len (by decide +kernel) (pa_cons (pv 0) pa_nil)) (nomark _))
      (pss_one (ps_ret (pe_ix (ixSeqK (K := K) (by rfl)) (pv 0) (pv 1) (fun _ _ => rfl))))
      pss_nil)
    (pss_one (ps_ret (pe_op (opAddK (K := K) (by rfl)) (pe_op opMod (pe_callTy callInt (by rfl) T.int (by decide +kernel) (pa_cons (pe_op (opAddK (K := K) (by rfl)) (pe_op (opAddK (K := K) (by rfl)) (pe_callB (callSumXK (K := K) (by rfl) rfl) (by rfl) T.sum (by decide +kernel) (pa_cons (pe_slice (slAnyK (K := K) (by rfl)) (pv 0) po_none (po_some pe_int)) pa_nil)) (pe_op (opMulK (K := K) (by rfl)) pe_int (pv 1))) pe_int) pa_nil)) pe_int) (pe_op (opMulK (K := K) (by rfl)) pe_int (pv 1)))))), ?_⟩
    try dsimp only [L2.cxOf, L2.Cx.nox]
    simp only [L2.start, N_law_cell, List.map_cons, List.map_nil, List.length_cons, List.length_nil, Nat.reduceAdd, Nat.reduceSub, List.replicate_succ, List.replicate_zero, List.cons_append, List.nil_append]

    walk_at "gos"
    · exact q _ _ Gx.rel
    · rename_i p H1 n1 e1 h1
      rw [Gx.cutV_int] at h1
      walk_at "gos"
      exact q _ _ Gx.rel
local macro_rules | `(tactic| walk_at "call") => `(tactic| ((with_reducible show spCell _ _ _ _ _); refine ⟨_, _, _, rfl, ⟨inferInstance, by omega⟩, ?_⟩; intro c_ H_ e_))
def spPurse : Sp := fun vs H Q _ => ∃ (c s : Int), vs = [.int c, .int s] ∧ ∀ b H', Nw H b → Ex H H' → Bg b H' → Q (.ref b) H'
abbrev s_law_purse : Stmt := (top 28)
abbrev N_law_purse : List Str := ["_law_cell_here", "_law_salt", "_law_left"]
theorem sc_law_purse : FnScope N_law_purse ["_law_cell_here", "_law_salt"] (defScope s_law_purse) := ⟨rfl, rfl, rfl, by decide +kernel, rfl, by decide +kernel, by decide +kernel⟩
theorem cl_law_purse (T : Bl mg) (Z : EcF P K mg c_StoreError c_InvalidInput c_KeyLimit c_UnknownKey c_BadChoice c_Stalled) (R : RdF K mg c_Round) (W_RingLog : Gx.ClsF K mg c_RingLog "RingLog" ["entries"]) (W_Ring : Gx.ClsF K mg c_Ring "Ring" ["_places", "_limit", "_budgets", "_late", "_readers", "_log", "_done", "_phase", "_carried", "_last_wait", "_opened", "_open"]) (N_KEY : Gx.GlI mg "KEY" 0) (N_VALUE : Gx.GlI mg "VALUE" 1) (N_LIVING : Gx.GlI mg "LIVING" 2) (N_READERS : Gx.GlI mg "READERS" 3) (N_KEY_LENGTH : Gx.GlI mg "KEY_LENGTH" 12) (N_KEY_CHARACTERS : Gx.GlS mg "KEY_CHARACTERS" "abcdefghijklmnopqrstuvwxyz0123456789") (D : DfG K mg "_law_purse" s_law_purse [] [])  : ClG CX0 P w K mg base 3 "_law_purse" s_law_purse ["_law_cell_here", "_law_salt"] [] [] spPurse := by
  have nd := sc_law_purse.nd
  refine D.okP sc_law_purse (fun vs H Q E h => ?_) (fun f cdv A outer s H vs Q E hr h => ?_)
  · obtain ⟨c, s, rfl, _⟩ := h
    rfl
  · obtain ⟨c, s, rfl, k⟩ := h
    have hu := hu64 hr
    refine ⟨_, (pss_cons (ps_set (i := 2) nd rfl (Or.inl rfl) pe_int)
    (pss_cons (ps_if (pt_cmpR opGe (pe_callB callAbs (by rfl) T.abs (by decide +kernel) (pa_cons (pv 0) pa_nil)) (pe_op opPow pe_int pe_int) (nomark _))
      (pss_one (ps_set (i := 2) nd rfl (Or.inl rfl) (pe_callB callAbs (by rfl) T.abs (by decide +kernel) (pa_cons (pv 0) pa_nil))))
      pss_nil)
    (pss_one (ps_ret (pe_lst (pa_cons (pv 2) (pa_cons (pe_op opMod (pe_callTy callInt (by rfl) T.int (by decide +kernel) (pa_cons (pe_op (opAddK (K := K) (by rfl)) (pe_op (opAddK (K := K) (by rfl)) (pe_op (opMulK (K := K) (by rfl)) (pv 0) pe_int) (pe_op (opMulK (K := K) (by rfl)) (pv 1) pe_int)) pe_int) pa_nil)) pe_int) (pa_cons (pv 1) pa_nil)))))))), ?_⟩
    try dsimp only [L2.cxOf, L2.Cx.nox]
    simp only [L2.start, N_law_purse, List.map_cons, List.map_nil, List.length_cons, List.length_nil, Nat.reduceAdd, Nat.reduceSub, List.replicate_succ, List.replicate_zero, List.cons_append, List.nil_append]

    walk_at "gos"
    all_goals exact k _ _ Gx.new Gx.rel ⟨_, _, _, At.eq⟩
local macro_rules | `(tactic| walk_at "call") => `(tactic| ((with_reducible show spPurse _ _ _ _); refine ⟨_, _, rfl, ?_⟩; intro b_ H_ np_ e_ hB_))
def spMixed : Sp := fun vs H Q _ => ∃ (b : Addr), vs = [.ref b] ∧ Bg b H ∧ ∀ d H', ExB b H H' → Bg b H' → Q (.int d) H'
abbrev s_law_mixed : Stmt := (top 29)
abbrev N_law_mixed : List Str := ["_law_purse_here", "_law_low"]
theorem sc_law_mixed : FnScope N_law_mixed ["_law_purse_here"] (defScope s_law_mixed) := ⟨rfl, rfl, rfl, by decide +kernel, rfl, by decide +kernel, by decide +kernel⟩
theorem cl_law_mixed (T : Bl mg) (Z : EcF P K mg c_StoreError c_InvalidInput c_KeyLimit c_UnknownKey c_BadChoice c_Stalled) (R : RdF K mg c_Round) (W_RingLog : Gx.ClsF K mg c_RingLog "RingLog" ["entries"]) (W_Ring : Gx.ClsF K mg c_Ring "Ring" ["_places", "_limit", "_budgets", "_late", "_readers", "_log", "_done", "_phase", "_carried", "_last_wait", "_opened", "_open"]) (N_KEY : Gx.GlI mg "KEY" 0) (N_VALUE : Gx.GlI mg "VALUE" 1) (N_LIVING : Gx.GlI mg "LIVING" 2) (N_READERS : Gx.GlI mg "READERS" 3) (N_KEY_LENGTH : Gx.GlI mg "KEY_LENGTH" 12) (N_KEY_CHARACTERS : Gx.GlS mg "KEY_CHARACTERS" "abcdefghijklmnopqrstuvwxyz0123456789") (D : DfG K mg "_law_mixed" s_law_mixed [] [])  : ClG CX0 P w K mg base 3 "_law_mixed" s_law_mixed ["_law_purse_here"] [] [] spMixed := by
  have nd := sc_law_mixed.nd
  refine D.okP sc_law_mixed (fun vs H Q E h => ?_) (fun f cdv A outer s H vs Q E hr h => ?_)
  · obtain ⟨b, rfl, _⟩ := h
    rfl
  · obtain ⟨b, rfl, ⟨x, y, z, hb⟩, k⟩ := h
    have hu := hu64 hr
    refine ⟨_, (pss_cons (ps_asg (pe_op (opAddK (K := K) (by rfl)) (pe_ix (ixSeqK (K := K) (by rfl)) (pv 0) pe_int (fun _ _ => rfl)) pe_int) (pg_sub (pv 0) pe_int set_list))
    (pss_cons (ps_set (i := 1) nd rfl (Or.inl rfl) (pe_op opMod (pe_callTy callInt (by rfl) T.int (by decide +kernel) (pa_cons (pe_op (opAddK (K := K) (by rfl)) (pe_op (opAddK (K := K) (by rfl)) (pe_op (opMulK (K := K) (by rfl)) (pe_ix (ixSeqK (K := K) (by rfl)) (pv 0) pe_int (fun _ _ => rfl)) pe_int) (pe_op (opMulK (K := K) (by rfl)) (pe_ix (ixSeqK (K := K) (by rfl)) (pv 0) pe_int (fun _ _ => rfl)) pe_int)) pe_int) pa_nil)) pe_int))
    (pss_cons (ps_asg (pe_op opMod (pe_callTy callInt (by rfl) T.int (by decide +kernel) (pa_cons (pe_op (opAddK (K := K) (by rfl)) (pe_op (opAddK (K := K) (by rfl)) (pe_op opDiv (pe_op (opMulK (K := K) (by rfl)) (pv 1) (pv 1)) pe_int) (pe_op (opMulK (K := K) (by rfl)) (pv 1) pe_int)) (pe_op (opMulK (K := K) (by rfl)) (pe_ix (ixSeqK (K := K) (by rfl)) (pv 0) pe_int (fun _ _ => rfl)) pe_int)) pa_nil)) pe_int) (pg_sub (pv 0) pe_int set_list))
    (pss_one (ps_ret (pe_op opDiv (pe_ix (ixSeqK (K := K) (by rfl)) (pv 0) pe_int (fun _ _ => rfl)) pe_int)))))), ?_⟩
    try dsimp only [L2.cxOf, L2.Cx.nox]
    simp only [L2.start, N_law_mixed, List.map_cons, List.map_nil, List.length_cons, List.length_nil, Nat.reduceAdd, Nat.reduceSub, List.replicate_succ, List.replicate_zero, List.cons_append, List.nil_append]

    have hb : At H b _ := ⟨hb⟩
    walk_at "gos"
    exact k _ _ Gx.rel ⟨_, _, _, At.eq⟩
local macro_rules | `(tactic| walk_at "call") => `(tactic| ((with_reducible show spMixed _ _ _ _); refine ⟨_, rfl, inferInstance, ?_⟩; intro d_ H_ e_ hB_))
def spTake : Sp := fun vs H Q _ => ∃ (b : Addr) (size : Int), vs = [.ref b, .int size] ∧ (Bg b H ∧ 0 < size ∧ size < 2 ^ 200) ∧ ∀ d H', 0 ≤ d → d < size → ExB b H H' → Bg b H' → Q (.int d) H'
theorem use_take {b : Addr} {size : Int} {H : Hp} {Q : VK} {E : XK} [hb : Bg b H] (h1 : 0 < size) (h2 : size < 2 ^ 200) (q : ∀ d H', 0 ≤ d → d < size → ExB b H H' → Bg b H' → Q (.int d) H') : spTake ([.ref b, .int size] ++ []) H Q E := ⟨b, size, rfl, ⟨hb, h1, h2⟩, q⟩
abbrev s_law_take : Stmt := (top 30)
abbrev N_law_take : List Str := ["_law_purse_here", "_law_many", "_law_drawn", "_law_k"]
theorem sc_law_take : FnScope N_law_take ["_law_purse_here", "_law_many"] (defScope s_law_take) := ⟨rfl, rfl, rfl, by decide +kernel, rfl, by decide +kernel, by decide +kernel⟩
theorem cl_law_take (T : Bl mg) (Z : EcF P K mg c_StoreError c_InvalidInput c_KeyLimit c_UnknownKey c_BadChoice c_Stalled) (R : RdF K mg c_Round) (W_RingLog : Gx.ClsF K mg c_RingLog "RingLog" ["entries"]) (W_Ring : Gx.ClsF K mg c_Ring "Ring" ["_places", "_limit", "_budgets", "_late", "_readers", "_log", "_done", "_phase", "_carried", "_last_wait", "_opened", "_open"]) (N_KEY : Gx.GlI mg "KEY" 0) (N_VALUE : Gx.GlI mg "VALUE" 1) (N_LIVING : Gx.GlI mg "LIVING" 2) (N_READERS : Gx.GlI mg "READERS" 3) (N_KEY_LENGTH : Gx.GlI mg "KEY_LENGTH" 12) (N_KEY_CHARACTERS : Gx.GlS mg "KEY_CHARACTERS" "abcdefghijklmnopqrstuvwxyz0123456789") (D : DfG K mg "_law_take" s_law_take [] []) (C_law_mixed : ClG CX0 P w K mg base 3 "_law_mixed" s_law_mixed ["_law_purse_here"] [] [] spMixed) : ClG CX0 P w K mg base 5 "_law_take" s_law_take ["_law_purse_here", "_law_many"] [] [] spTake := by
  have nd := sc_law_take.nd
  refine D.okP sc_law_take (fun vs H Q E h => ?_) (fun f cdv A outer s H vs Q E hr h => ?_)
  · obtain ⟨b, size, rfl, _⟩ := h
    rfl
  · obtain ⟨b, size, rfl, ⟨⟨cell, cnt, seed, hb⟩, hm, hm2⟩, k⟩ := h
    have hu := hu64 hr
    refine ⟨_, (pss_cons (ps_if (pt_cmpR opGt (pe_ix (ixSeqK (K := K) (by rfl)) (pv 0) pe_int (fun _ _ => rfl)) pe_int (nomark _))
      (pss_cons (ps_set (i := 2) nd rfl (Or.inl rfl) (pe_op opMod (pe_callTy callInt (by rfl) T.int (by decide +kernel) (pa_cons (pe_ix (ixSeqK (K := K) (by rfl)) (pv 0) pe_int (fun _ _ => rfl)) pa_nil)) (pv 1)))
    (pss_cons (ps_asg (pe_op opDiv (pe_ix (ixSeqK (K := K) (by rfl)) (pv 0) pe_int (fun _ _ => rfl)) (pv 1)) (pg_sub (pv 0) pe_int set_list))
    (pss_one (ps_ret (pv 2)))))
      pss_nil)
    (pss_cons (ps_set (i := 2) nd rfl (Or.inl rfl) (pe_g C_law_mixed (by exact hr.mono (by decide)) (E := fun _ => E0) (fun σ => passC0 σ) (fun _ _ _ _ _ _ us hl => match us, hl with | [_], _ => rfl) (pa_cons (pv 0) pa_nil)))
    (pss_cons (ps_if (pt_cmpR opGt (pv 1) pe_int (nomark _))
      (pss_one (ps_for PassesOwn.never rfl (pi_range1 rfl T.range (pa_cons pe_int pa_nil)) (pg_name (i := 3) nd rfl (Or.inl rfl))
      (pss_one (ps_set (i := 2) nd rfl (Or.inl rfl) (pe_op (opAddK (K := K) (by rfl)) (pe_op (opMulK (K := K) (by rfl)) (pv 2) pe_int) (pe_g C_law_mixed (by exact hr.mono (by decide)) (E := fun _ => E0) (fun σ => passC0 σ) (fun _ _ _ _ _ _ us hl => match us, hl with | [_], _ => rfl) (pa_cons (pv 0) pa_nil)))))))
      pss_nil)
    (pss_one (ps_ret (pe_op opMod (pe_callTy callInt (by rfl) T.int (by decide +kernel) (pa_cons (pv 2) pa_nil)) (pv 1))))))), ?_⟩
    try dsimp only [L2.cxOf, L2.Cx.nox]
    simp only [L2.start, N_law_take, List.map_cons, List.map_nil, List.length_cons, List.length_nil, Nat.reduceAdd, Nat.reduceSub, List.replicate_succ, List.replicate_zero, List.cons_append, List.nil_append]

    have hb : At H b _ := ⟨hb⟩
    haveI : Bg b H := ⟨⟨_, _, _, hb.eq⟩⟩
    walk_at "gos"
    · exact k _ _ (Int.emod_nonneg _ (by omega)) (Int.emod_lt_of_pos _ hm) Gx.rel ⟨_, _, _, At.eq⟩
    · refine Gx.for1 [b] (fun i σ' H' => ∃ (dr : Int) (a3 : Option V), σ' = [some (.ref b), some (.int size), some (.int dr), a3] ∧ Bg b H') (by omega) ⟨_, none, rfl, inferInstance⟩ ?_ ?_
      · rintro i σ' H' hi e ⟨dr, a3, rfl, hB'⟩
        walk_at "gos"
        exact Gx.li ⟨_, _, rfl, inferInstance⟩
      · rintro σ' H' e ⟨dr, a3, rfl, hB'⟩
        walk_at "gos"
        exact k _ _ (Int.emod_nonneg _ (by omega)) (Int.emod_lt_of_pos _ hm) Gx.rel inferInstance
    · exact k _ _ (Int.emod_nonneg _ (by omega)) (Int.emod_lt_of_pos _ hm) Gx.rel inferInstance
local macro_rules | `(tactic| walk_at "call") => `(tactic| ((with_reducible show spTake _ _ _ _); refine use_take (by omega) (by omega) ?_; intro d_ H_ h0_ h1_ e_ hB_))

/-- a keyword-only param that is given, ahead of one that lacks -/
theorem kw_skip {α β γ : Type} {y : β} {f : β → Sem γ} {g : γ → Sem α} {t : Sem α} {D : Addr} {l : List (Str × Value)} {q : α} (h : t = (pure y >>= f) >>= g) (k : KwChain D l (f y >>= g) q) : KwChain D l t q := by
  rw [h, pure_bind]
  exact k
theorem rb_mem2 {bs cs : List Int} (h : RB bs) (hs : ∀ x ∈ cs, x ∈ bs) (h1 : 1 ≤ cs.length) (h2 : cs.length ≤ 12) : RB cs := ⟨h1, h2, fun b hb => h.h0 b (hs b hb), fun b hb => h.h1 b (hs b hb)⟩
/-- a round's budgets -/
def Bud (bs : List Int) : Prop := 1 ≤ bs.length ∧ bs.length ≤ 12 ∧ ∀ x ∈ bs, 0 ≤ x ∧ x ≤ 10 ^ 30
theorem Bud.rb {bs : List Int} (h : Bud bs) : RB bs := ⟨h.1, h.2.1, fun b hb => (h.2.2 b hb).1, fun b hb => by have := (h.2.2 b hb).2; omega⟩
def spCyc : Sp := fun vs H Q _ => ∃ b : Addr, vs = [.ref b] ∧ Bg b H ∧ ∀ p bs H', Nw H p → ExB b H H' → Bg b H' → At H' p (.lst (bs.map V.int)) → Bud bs → Q (.ref p) H'
/-- what the loop asks -/
theorem cyc_snoc {cs : List Int} {d : Int} (h : ∀ x ∈ cs, 0 ≤ x ∧ x ≤ 10 ^ 30) (h0 : 0 ≤ d) (h1 : d ≤ 10 ^ 30) : ∀ x ∈ cs ++ [d], 0 ≤ x ∧ x ≤ 10 ^ 30 := fun c hc => (List.mem_append.mp hc).elim (h c) fun e => by rw [List.mem_singleton.mp e]; exact ⟨h0, h1⟩
local macro_rules | `(tactic| walk_at "call") => `(tactic| (refine Gx.g_inT rfl rfl rfl ?_))
abbrev s_law_cycle : Stmt := (top 31)
abbrev N_law_cycle : List Str := ["_law_purse_here", "_law_size", "_law_cycle_here", "_law_k", "_law_way", "_law_budget"]
theorem sc_law_cycle : FnScope N_law_cycle ["_law_purse_here"] (defScope s_law_cycle) := ⟨rfl, rfl, rfl, by decide +kernel, rfl, by decide +kernel, by decide +kernel⟩
theorem cl_law_cycle (T : Bl mg) (Z : EcF P K mg c_StoreError c_InvalidInput c_KeyLimit c_UnknownKey c_BadChoice c_Stalled) (R : RdF K mg c_Round) (W_RingLog : Gx.ClsF K mg c_RingLog "RingLog" ["entries"]) (W_Ring : Gx.ClsF K mg c_Ring "Ring" ["_places", "_limit", "_budgets", "_late", "_readers", "_log", "_done", "_phase", "_carried", "_last_wait", "_opened", "_open"]) (N_KEY : Gx.GlI mg "KEY" 0) (N_VALUE : Gx.GlI mg "VALUE" 1) (N_LIVING : Gx.GlI mg "LIVING" 2) (N_READERS : Gx.GlI mg "READERS" 3) (N_KEY_LENGTH : Gx.GlI mg "KEY_LENGTH" 12) (N_KEY_CHARACTERS : Gx.GlS mg "KEY_CHARACTERS" "abcdefghijklmnopqrstuvwxyz0123456789") (D : DfG K mg "_law_cycle" s_law_cycle [] []) (C_law_take : ClG CX0 P w K mg base 5 "_law_take" s_law_take ["_law_purse_here", "_law_many"] [] [] spTake) : ClG CX0 P w K mg base 7 "_law_cycle" s_law_cycle ["_law_purse_here"] [] [] spCyc := by
  have nd := sc_law_cycle.nd
  refine D.okP sc_law_cycle (fun vs H Q E h => ?_) (fun f cdv A outer s H vs Q E hr h => ?_)
  · obtain ⟨b, rfl, _⟩ := h
    rfl
  · obtain ⟨b, rfl, hb, k⟩ := h
    have hu := hu64 hr
    refine ⟨_, (pss_cons (ps_set (i := 1) nd rfl (Or.inl rfl) (pe_op (opAddK (K := K) (by rfl)) pe_int (pe_g C_law_take (by exact hr.mono (by decide)) (E := fun _ => E0) (fun σ => passC0 σ) (fun _ _ _ _ _ _ us hl => match us, hl with | [_, _], _ => rfl) (pa_cons (pv 0) (pa_cons pe_int pa_nil)))))
    (pss_cons (ps_if (pt_cmpR (opEqK (K := K) (by rfl) (by exact hu)) (pe_g C_law_take (by exact hr.mono (by decide)) (E := fun _ => E0) (fun σ => passC0 σ) (fun _ _ _ _ _ _ us hl => match us, hl with | [_, _], _ => rfl) (pa_cons (pv 0) (pa_cons pe_int pa_nil))) pe_int (nomark _))
      (pss_one (ps_set (i := 1) nd rfl (Or.inl rfl) (pe_op (opAddK (K := K) (by rfl)) pe_int (pe_g C_law_take (by exact hr.mono (by decide)) (E := fun _ => E0) (fun σ => passC0 σ) (fun _ _ _ _ _ _ us hl => match us, hl with | [_, _], _ => rfl) (pa_cons (pv 0) (pa_cons pe_int pa_nil))))))
      pss_nil)
    (pss_cons (ps_set (i := 2) nd rfl (Or.inl rfl) (pe_lst pa_nil))
    (pss_cons (ps_for PassesOwn.never rfl (pi_range1 rfl T.range (pa_cons (pv 1) pa_nil)) (pg_name (i := 3) nd rfl (Or.inl rfl))
      (pss_cons (ps_set (i := 4) nd rfl (Or.inl rfl) (pe_g C_law_take (by exact hr.mono (by decide)) (E := fun _ => E0) (fun σ => passC0 σ) (fun _ _ _ _ _ _ us hl => match us, hl with | [_, _], _ => rfl) (pa_cons (pv 0) (pa_cons pe_int pa_nil))))
    (pss_cons (ps_set (i := 5) nd rfl (Or.inl rfl) (pe_g C_law_take (by exact hr.mono (by decide)) (E := fun _ => E0) (fun σ => passC0 σ) (fun _ _ _ _ _ _ us hl => match us, hl with | [_, _], _ => rfl) (pa_cons (pv 0) (pa_cons pe_int pa_nil))))
    (pss_cons (ps_if (pt_cmpR (opInK (K := K) (by rfl)) (pv 4) (pe_tup (pa_cons pe_int (pa_cons pe_int pa_nil))) (by rfl))
      (pss_one (ps_set (i := 5) nd rfl (Or.inl rfl) (pe_g C_law_take (by exact hr.mono (by decide)) (E := fun _ => E0) (fun σ => passC0 σ) (fun _ _ _ _ _ _ us hl => match us, hl with | [_, _], _ => rfl) (pa_cons (pv 0) (pa_cons pe_int pa_nil)))))
      pss_nil)
    (pss_cons (ps_if (pt_cmpR (opEqK (K := K) (by rfl) (by exact hu)) (pv 4) pe_int (nomark _))
      (pss_one (ps_set (i := 5) nd rfl (Or.inl rfl) (pe_op opSub (pe_op opPow pe_int pe_int) (pv 5))))
      pss_nil)
    (pss_one (ps_expr (pe_bmK (K := K) (by rfl) PySem.F.plainAttrs_list PySem.F.slot_list_append PySem.F.type_list_append mt_append (pv 2) (pa_cons (pv 5) pa_nil)))))))))
    (pss_one (ps_ret (pv 2))))))), ?_⟩
    try dsimp only [L2.cxOf, L2.Cx.nox]
    simp only [L2.start, N_law_cycle, List.map_cons, List.map_nil, List.length_cons, List.length_nil, Nat.reduceAdd, Nat.reduceSub, List.replicate_succ, List.replicate_zero, List.cons_append, List.nil_append]

    walk_at "gos"
    all_goals
      rename_i p H3 n3 e3 h3
      refine Gx.for1 [b, p] (fun i σ' H' => ∃ (cs : List Int) (m : Int) (a3 a4 a5 : Option V), σ' = [some (.ref b), some (.int m), some (.ref p), a3, a4, a5] ∧ Bg b H' ∧ At H' p (.lst (cs.map V.int)) ∧ (cs.length : Int) = i ∧ ∀ x ∈ cs, 0 ≤ x ∧ x ≤ 10 ^ 30) (by omega) ⟨[], _, none, none, none, rfl, inferInstance, h3, rfl, by simp⟩ ?_ ?_
      · rintro i σ' H' hi e ⟨cs, m, a3, a4, a5, rfl, hB', hp', hl, hc⟩
        walk_at "gos"
        all_goals
          rename_i hpp
          exact Gx.li ⟨cs ++ [_], _, _, _, _, rfl, inferInstance, by rw [List.map_append]; exact hpp, by rw [List.length_append, List.length_singleton]; omega, cyc_snoc hc (by omega) (by omega)⟩
      · rintro σ' H' e ⟨cs, m, a3, a4, a5, rfl, hB', hp', hl, hc⟩
        walk_at "gos"
        exact k _ cs _ Gx.new Gx.rel inferInstance hp' ⟨by omega, by omega, hc⟩
local macro_rules | `(tactic| walk_at "call") => `(tactic| ((with_reducible show spCyc _ _ _ _); refine ⟨_, rfl, inferInstance, ?_⟩; intro p_ bs_ H_ np_ e_ hB_ hp_ hR_; have hRB_ := Bud.rb hR_))

def spLRd (C : Addr) (K : PySem.W.Frag) : Sp := fun vs H Q _ => ∃ (p : Addr) (bs : List Int), vs = [.ref p] ∧ (SqC K H p (bs.map V.int) ∧ RB bs) ∧ ∀ a H', Nw H a → Ex H H' → RdC C H' a bs → Q (.ref a) H'
abbrev s_law_round : Stmt := (top 32)
abbrev N_law_round : List Str := ["_law_cycle_here", "_law_made", "_law_budget"]
theorem sc_law_round : FnScope N_law_round ["_law_cycle_here"] (defScope s_law_round) := ⟨rfl, rfl, rfl, by decide +kernel, rfl, by decide +kernel, by decide +kernel⟩
theorem cl_law_round (T : Bl mg) (Z : EcF P K mg c_StoreError c_InvalidInput c_KeyLimit c_UnknownKey c_BadChoice c_Stalled) (R : RdF K mg c_Round) (W_RingLog : Gx.ClsF K mg c_RingLog "RingLog" ["entries"]) (W_Ring : Gx.ClsF K mg c_Ring "Ring" ["_places", "_limit", "_budgets", "_late", "_readers", "_log", "_done", "_phase", "_carried", "_last_wait", "_opened", "_open"]) (N_KEY : Gx.GlI mg "KEY" 0) (N_VALUE : Gx.GlI mg "VALUE" 1) (N_LIVING : Gx.GlI mg "LIVING" 2) (N_READERS : Gx.GlI mg "READERS" 3) (N_KEY_LENGTH : Gx.GlI mg "KEY_LENGTH" 12) (N_KEY_CHARACTERS : Gx.GlS mg "KEY_CHARACTERS" "abcdefghijklmnopqrstuvwxyz0123456789") (D : DfG K mg "_law_round" s_law_round [] []) (C_Round___add__ : ClM CX0 P w K mg base 7 c_Round "__add__" "Round.__add__" s_Round___add__ ["self", "other"] [] [] (spRadd c_Round)) (C_Round___init__ : ClI CX0 P w K mg base 5 c_Round) : ClG CX0 P w K mg base 9 "_law_round" s_law_round ["_law_cycle_here"] [] [] (spLRd c_Round K) := by
  have nd := sc_law_round.nd
  refine D.okP sc_law_round (fun vs H Q E h => ?_) (fun f cdv A outer s H vs Q E hr h => ?_)
  · obtain ⟨p, bs, rfl, _⟩ := h
    rfl
  · obtain ⟨p, bs, rfl, ⟨hp, hR⟩, k⟩ := h
    have hu := hu64 hr
    refine ⟨_, (pss_cons (ps_set (i := 1) nd rfl (Or.inl rfl) (pe_mkR C_Round___init__ (by exact hr.mono (by decide)) (by rfl) R.g pass0 (pa_cons (pe_ix (ixSeqK (K := K) (by rfl)) (pv 0) pe_int (fun _ _ => rfl)) pa_nil)))
    (pss_cons (ps_for PassesOwn.never rfl (pi_listK (K := K) (by rfl) (pe_slice (slAnyK (K := K) (by rfl)) (pv 0) (po_some pe_int) po_none)) (pg_name (i := 2) nd rfl (Or.inl rfl))
      (pss_one (ps_set (i := 1) nd rfl (Or.inl rfl) (pe_op (opOwnAdd C_Round___add__ R.sf (by exact hr.mono (by decide)) pass0 (fun _ _ _ _ _ _ us hl => match us, hl with | [_, _], _ => rfl)) (pv 1) (pe_mkR C_Round___init__ (by exact hr.mono (by decide)) (by rfl) R.g pass0 (pa_cons (pv 2) pa_nil))))))
    (pss_one (ps_ret (pv 1))))), ?_⟩
    try dsimp only [L2.cxOf, L2.Cx.nox]
    simp only [L2.start, N_law_round, List.map_cons, List.map_nil, List.length_cons, List.length_nil, Nat.reduceAdd, Nat.reduceSub, List.replicate_succ, List.replicate_zero, List.cons_append, List.nil_append]

    have l1 := hR.l1
    have l2 := hR.l2
    have h0 := hR.h0
    cases bs with
    | nil => simp at l1
    | cons b0 br =>
      have hb0 := h0 b0 (List.mem_cons_self ..)
      rw [List.length_cons] at l2
      walk_at "gos"
      refine Gx.g_mkR (bs := [b0]) (by simp) (by simp; omega) fun a1 H1 n1 e1 r1 => ?_
      walk_at "gos"
      rename_i q H2 nq e2 hq
      rw [Gx.cutV_int, cutI_from (by decide), show (b0 :: br).drop (Int.toNat 1) = br from rfl] at hq
      refine Gx.forL [] (fun i σ' H' => ∃ (a : Addr) (s2 : Option V), σ' = [some (.ref p), some (.ref a), s2] ∧ Nw H a ∧ RdC c_Round H' a (b0 :: br.take i)) ⟨_, _, rfl, n1, inferInstance⟩ ?_ ?_
      · rintro i x σ' H' hx e ⟨a, s2, rfl, na, ra⟩
        obtain ⟨y, hy, rfl⟩ := Gx.map_at hx
        have hy0 := h0 y (List.mem_cons_of_mem _ (List.mem_of_getElem? hy))
        have hil : i < br.length := (List.getElem?_eq_some_iff.mp hy).1
        have htk : (b0 :: br.take i) ++ [y] = b0 :: br.take (i + 1) := by rw [List.take_succ, hy]; rfl
        have hRB : RB ((b0 :: br.take i) ++ [y]) := by
          rw [htk]
          exact rb_mem2 hR (fun x hx => (List.mem_cons.mp hx).elim (fun e => e ▸ List.mem_cons_self ..) fun h => List.mem_cons_of_mem _ (List.mem_of_mem_take h)) (by simp) (by rw [List.length_cons, List.length_take]; omega)
        walk_at "gos"
        refine Gx.g_mkR (bs := [y]) (by simp) (by simp; omega) fun a2 H3 n2 e3 r2 => ?_
        walk_at "gos"
        rename_i d H4 n4 e4 r4
        rw [htk] at r4
        refine ⟨⟨_, rfl⟩, ?_⟩
        walk_at "gos"
        exact Gx.li ⟨_, _, rfl, Gx.new, r4⟩
      · rintro σ' H' e ⟨a, s2, rfl, na, ra⟩
        rw [List.length_map, List.take_of_length_le (Nat.le_refl _)] at ra
        walk_at "gos"
        exact k _ _ na Gx.rel ra
local macro_rules | `(tactic| walk_at "call") => `(tactic| ((with_reducible show spLRd _ _ _ _ _ _); refine ⟨_, _, rfl, ⟨inferInstance, by assumption⟩, ?_⟩; intro a_ H_ np_ e_ ha_))

/-- a worth: an int -/
def spWth : Sp := fun vs H Q _ => ∃ b : Addr, vs = [.ref b] ∧ Bg b H ∧ ∀ v H', -(2 ^ 100) < v → v < 2 ^ 100 → ExB b H H' → Bg b H' → Q (.int v) H'
abbrev s_law_worth : Stmt := (top 35)
abbrev N_law_worth : List Str := ["_law_purse_here", "_law_way"]
theorem sc_law_worth : FnScope N_law_worth ["_law_purse_here"] (defScope s_law_worth) := ⟨rfl, rfl, rfl, by decide +kernel, rfl, by decide +kernel, by decide +kernel⟩
theorem cl_law_worth (T : Bl mg) (Z : EcF P K mg c_StoreError c_InvalidInput c_KeyLimit c_UnknownKey c_BadChoice c_Stalled) (R : RdF K mg c_Round) (W_RingLog : Gx.ClsF K mg c_RingLog "RingLog" ["entries"]) (W_Ring : Gx.ClsF K mg c_Ring "Ring" ["_places", "_limit", "_budgets", "_late", "_readers", "_log", "_done", "_phase", "_carried", "_last_wait", "_opened", "_open"]) (N_KEY : Gx.GlI mg "KEY" 0) (N_VALUE : Gx.GlI mg "VALUE" 1) (N_LIVING : Gx.GlI mg "LIVING" 2) (N_READERS : Gx.GlI mg "READERS" 3) (N_KEY_LENGTH : Gx.GlI mg "KEY_LENGTH" 12) (N_KEY_CHARACTERS : Gx.GlS mg "KEY_CHARACTERS" "abcdefghijklmnopqrstuvwxyz0123456789") (D : DfG K mg "_law_worth" s_law_worth [] []) (C_law_take : ClG CX0 P w K mg base 5 "_law_take" s_law_take ["_law_purse_here", "_law_many"] [] [] spTake) : ClG CX0 P w K mg base 7 "_law_worth" s_law_worth ["_law_purse_here"] [] [] spWth := by
  have nd := sc_law_worth.nd
  refine D.okP sc_law_worth (fun vs H Q E h => ?_) (fun f cdv A outer s H vs Q E hr h => ?_)
  · obtain ⟨b, rfl, _⟩ := h
    rfl
  · obtain ⟨b, rfl, hb, k⟩ := h
    have hu := hu64 hr
    refine ⟨_, (pss_cons (ps_set (i := 1) nd rfl (Or.inl rfl) (pe_g C_law_take (by exact hr.mono (by decide)) (E := fun _ => E0) (fun σ => passC0 σ) (fun _ _ _ _ _ _ us hl => match us, hl with | [_, _], _ => rfl) (pa_cons (pv 0) (pa_cons pe_int pa_nil))))
    (pss_cons (ps_if (pt_cmpR (opEqK (K := K) (by rfl) (by exact hu)) (pv 1) pe_int (nomark _))
      (pss_one (ps_ret (pe_g C_law_take (by exact hr.mono (by decide)) (E := fun _ => E0) (fun σ => passC0 σ) (fun _ _ _ _ _ _ us hl => match us, hl with | [_, _], _ => rfl) (pa_cons (pv 0) (pa_cons pe_int pa_nil)))))
      pss_nil)
    (pss_cons (ps_if (pt_cmpR (opEqK (K := K) (by rfl) (by exact hu)) (pv 1) pe_int (nomark _))
      (pss_one (ps_ret (pe_op opSub (pe_un un_neg pe_int) (pe_g C_law_take (by exact hr.mono (by decide)) (E := fun _ => E0) (fun σ => passC0 σ) (fun _ _ _ _ _ _ us hl => match us, hl with | [_, _], _ => rfl) (pa_cons (pv 0) (pa_cons pe_int pa_nil))))))
      pss_nil)
    (pss_one (ps_ret (pe_op opSub (pe_g C_law_take (by exact hr.mono (by decide)) (E := fun _ => E0) (fun σ => passC0 σ) (fun _ _ _ _ _ _ us hl => match us, hl with | [_, _], _ => rfl) (pa_cons (pv 0) (pa_cons (pe_op (opAddK (K := K) (by rfl)) (pe_op (opMulK (K := K) (by rfl)) pe_int (pe_op opPow pe_int pe_int)) pe_int) pa_nil))) (pe_op opPow pe_int pe_int))))))), ?_⟩
    try dsimp only [L2.cxOf, L2.Cx.nox]
    simp only [L2.start, N_law_worth, List.map_cons, List.map_nil, List.length_cons, List.length_nil, Nat.reduceAdd, Nat.reduceSub, List.replicate_succ, List.replicate_zero, List.cons_append, List.nil_append]

    walk_at "gos"
    all_goals exact k _ _ (by omega) (by omega) Gx.rel inferInstance
local macro_rules | `(tactic| walk_at "call") => `(tactic| ((with_reducible show spWth _ _ _ _); refine ⟨_, rfl, inferInstance, ?_⟩; intro v_ H_ g0_ g1_ e_ hB_))
/-- a tally: none or an int -/
def TlOk (c : Option Int) : Prop := ∀ i, c = some i → -(2 ^ 100) < i ∧ i < 2 ^ 100
def spTly : Sp := fun vs H Q _ => ∃ b : Addr, vs = [.ref b] ∧ Bg b H ∧ ∀ c H', TlOk c → ExB b H H' → Bg b H' → Q (cV c) H'
theorem tl_of {i : Int} (h0 : -(2 ^ 100) < i) (h1 : i < 2 ^ 100) : TlOk (some i) := fun j e => by cases e; exact ⟨h0, h1⟩
abbrev s_law_tally : Stmt := (top 44)
abbrev N_law_tally : List Str := ["_law_purse_here", "_law_way"]
theorem sc_law_tally : FnScope N_law_tally ["_law_purse_here"] (defScope s_law_tally) := ⟨rfl, rfl, rfl, by decide +kernel, rfl, by decide +kernel, by decide +kernel⟩
theorem cl_law_tally (T : Bl mg) (Z : EcF P K mg c_StoreError c_InvalidInput c_KeyLimit c_UnknownKey c_BadChoice c_Stalled) (R : RdF K mg c_Round) (W_RingLog : Gx.ClsF K mg c_RingLog "RingLog" ["entries"]) (W_Ring : Gx.ClsF K mg c_Ring "Ring" ["_places", "_limit", "_budgets", "_late", "_readers", "_log", "_done", "_phase", "_carried", "_last_wait", "_opened", "_open"]) (N_KEY : Gx.GlI mg "KEY" 0) (N_VALUE : Gx.GlI mg "VALUE" 1) (N_LIVING : Gx.GlI mg "LIVING" 2) (N_READERS : Gx.GlI mg "READERS" 3) (N_KEY_LENGTH : Gx.GlI mg "KEY_LENGTH" 12) (N_KEY_CHARACTERS : Gx.GlS mg "KEY_CHARACTERS" "abcdefghijklmnopqrstuvwxyz0123456789") (D : DfG K mg "_law_tally" s_law_tally [] []) (C_law_take : ClG CX0 P w K mg base 5 "_law_take" s_law_take ["_law_purse_here", "_law_many"] [] [] spTake) : ClG CX0 P w K mg base 7 "_law_tally" s_law_tally ["_law_purse_here"] [] [] spTly := by
  have nd := sc_law_tally.nd
  refine D.okP sc_law_tally (fun vs H Q E h => ?_) (fun f cdv A outer s H vs Q E hr h => ?_)
  · obtain ⟨b, rfl, _⟩ := h
    rfl
  · obtain ⟨b, rfl, hb, k⟩ := h
    have hu := hu64 hr
    refine ⟨_, (pss_cons (ps_set (i := 1) nd rfl (Or.inl rfl) (pe_g C_law_take (by exact hr.mono (by decide)) (E := fun _ => E0) (fun σ => passC0 σ) (fun _ _ _ _ _ _ us hl => match us, hl with | [_, _], _ => rfl) (pa_cons (pv 0) (pa_cons pe_int pa_nil))))
    (pss_cons (ps_if (pt_cmpR opLt (pv 1) pe_int (nomark _))
      (pss_one (ps_ret pe_non))
      pss_nil)
    (pss_cons (ps_if (pt_cmpR (opEqK (K := K) (by rfl) (by exact hu)) (pv 1) pe_int (nomark _))
      (pss_one (ps_ret (pe_g C_law_take (by exact hr.mono (by decide)) (E := fun _ => E0) (fun σ => passC0 σ) (fun _ _ _ _ _ _ us hl => match us, hl with | [_, _], _ => rfl) (pa_cons (pv 0) (pa_cons pe_int pa_nil)))))
      pss_nil)
    (pss_cons (ps_if (pt_cmpR (opEqK (K := K) (by rfl) (by exact hu)) (pv 1) pe_int (nomark _))
      (pss_one (ps_ret (pe_op opSub (pe_g C_law_take (by exact hr.mono (by decide)) (E := fun _ => E0) (fun σ => passC0 σ) (fun _ _ _ _ _ _ us hl => match us, hl with | [_, _], _ => rfl) (pa_cons (pv 0) (pa_cons pe_int pa_nil))) pe_int)))
      pss_nil)
    (pss_one (ps_ret pe_int)))))), ?_⟩
    try dsimp only [L2.cxOf, L2.Cx.nox]
    simp only [L2.start, N_law_tally, List.map_cons, List.map_nil, List.length_cons, List.length_nil, Nat.reduceAdd, Nat.reduceSub, List.replicate_succ, List.replicate_zero, List.cons_append, List.nil_append]

    walk_at "gos"
    all_goals first
      | exact k none _ (fun j e => by cases e) Gx.rel inferInstance
      | exact k (some _) _ (tl_of (by omega) (by omega)) Gx.rel inferInstance
local macro_rules | `(tactic| walk_at "call") => `(tactic| ((with_reducible show spTly _ _ _ _); refine ⟨_, rfl, inferInstance, ?_⟩; intro c_ H_ g0_ e_ hB_))
/-- the terms at t, the cycle at c -/
structure Tm where
  p : Int
  lim : Int
  bs : List Int
  lt : Bool
  rd : Int
structure TmOk (T : Tm) : Prop where
  p1 : 1 ≤ T.p
  p2 : T.p ≤ 64
  l1 : 1 ≤ T.lim
  l2 : T.lim ≤ T.p
  bud : Bud T.bs
  r0 : 0 ≤ T.rd
  r1 : T.rd ≤ 2
  r2 : T.lt = true → T.rd = 0

def spTms : Sp := fun vs H Q _ => ∃ b : Addr, vs = [.ref b] ∧ Bg b H ∧ ∀ t c T H', Nw H t → Nw H c → ExB b H H' → Bg b H' → At H' t (.lst [.int T.p, .int T.lim, .ref c, .bl T.lt]) → At H' c (.lst (T.bs.map V.int)) → TmOk T → T.rd = 0 → Q (.ref t) H'
abbrev s_law_terms : Stmt := (top 36)
abbrev N_law_terms : List Str := ["_law_purse_here", "_law_span", "_law_cap", "_law_cycle_here"]
theorem sc_law_terms : FnScope N_law_terms ["_law_purse_here"] (defScope s_law_terms) := ⟨rfl, rfl, rfl, by decide +kernel, rfl, by decide +kernel, by decide +kernel⟩
theorem cl_law_terms (T : Bl mg) (Z : EcF P K mg c_StoreError c_InvalidInput c_KeyLimit c_UnknownKey c_BadChoice c_Stalled) (R : RdF K mg c_Round) (W_RingLog : Gx.ClsF K mg c_RingLog "RingLog" ["entries"]) (W_Ring : Gx.ClsF K mg c_Ring "Ring" ["_places", "_limit", "_budgets", "_late", "_readers", "_log", "_done", "_phase", "_carried", "_last_wait", "_opened", "_open"]) (N_KEY : Gx.GlI mg "KEY" 0) (N_VALUE : Gx.GlI mg "VALUE" 1) (N_LIVING : Gx.GlI mg "LIVING" 2) (N_READERS : Gx.GlI mg "READERS" 3) (N_KEY_LENGTH : Gx.GlI mg "KEY_LENGTH" 12) (N_KEY_CHARACTERS : Gx.GlS mg "KEY_CHARACTERS" "abcdefghijklmnopqrstuvwxyz0123456789") (D : DfG K mg "_law_terms" s_law_terms [] []) (C_law_take : ClG CX0 P w K mg base 5 "_law_take" s_law_take ["_law_purse_here", "_law_many"] [] [] spTake) (C_law_cycle : ClG CX0 P w K mg base 7 "_law_cycle" s_law_cycle ["_law_purse_here"] [] [] spCyc) : ClG CX0 P w K mg base 9 "_law_terms" s_law_terms ["_law_purse_here"] [] [] spTms := by
  have nd := sc_law_terms.nd
  refine D.okP sc_law_terms (fun vs H Q E h => ?_) (fun f cdv A outer s H vs Q E hr h => ?_)
  · obtain ⟨b, rfl, _⟩ := h
    rfl
  · obtain ⟨b, rfl, hb, k⟩ := h
    have hu := hu64 hr
    refine ⟨_, (pss_cons (ps_set (i := 1) nd rfl (Or.inl rfl) (pe_op (opAddK (K := K) (by rfl)) pe_int (pe_g C_law_take (by exact hr.mono (by decide)) (E := fun _ => E0) (fun σ => passC0 σ) (fun _ _ _ _ _ _ us hl => match us, hl with | [_, _], _ => rfl) (pa_cons (pv 0) (pa_cons pe_int pa_nil)))))
    (pss_cons (ps_if (pt_cmpR (opEqK (K := K) (by rfl) (by exact hu)) (pe_g C_law_take (by exact hr.mono (by decide)) (E := fun _ => E0) (fun σ => passC0 σ) (fun _ _ _ _ _ _ us hl => match us, hl with | [_, _], _ => rfl) (pa_cons (pv 0) (pa_cons pe_int pa_nil))) pe_int (nomark _))
      (pss_one (ps_set (i := 1) nd rfl (Or.inl rfl) (pe_op (opAddK (K := K) (by rfl)) pe_int (pe_g C_law_take (by exact hr.mono (by decide)) (E := fun _ => E0) (fun σ => passC0 σ) (fun _ _ _ _ _ _ us hl => match us, hl with | [_, _], _ => rfl) (pa_cons (pv 0) (pa_cons pe_int pa_nil))))))
      pss_nil)
    (pss_cons (ps_set (i := 2) nd rfl (Or.inl rfl) (pe_op (opAddK (K := K) (by rfl)) pe_int (pe_g C_law_take (by exact hr.mono (by decide)) (E := fun _ => E0) (fun σ => passC0 σ) (fun _ _ _ _ _ _ us hl => match us, hl with | [_, _], _ => rfl) (pa_cons (pv 0) (pa_cons (pv 1) pa_nil)))))
    (pss_cons (ps_if (pt_cmpR (opEqK (K := K) (by rfl) (by exact hu)) (pe_g C_law_take (by exact hr.mono (by decide)) (E := fun _ => E0) (fun σ => passC0 σ) (fun _ _ _ _ _ _ us hl => match us, hl with | [_, _], _ => rfl) (pa_cons (pv 0) (pa_cons pe_int pa_nil))) pe_int (nomark _))
      (pss_one (ps_set (i := 2) nd rfl (Or.inl rfl) (pe_op (opAddK (K := K) (by rfl)) pe_int (pe_op opDiv (pv 2) pe_int))))
      pss_nil)
    (pss_cons (ps_set (i := 3) nd rfl (Or.inl rfl) (pe_g C_law_cycle (by exact hr.mono (by decide)) (E := fun _ => E0) (fun σ => passC0 σ) (fun _ _ _ _ _ _ us hl => match us, hl with | [_], _ => rfl) (pa_cons (pv 0) pa_nil)))
    (pss_one (ps_ret (pe_lst (pa_cons (pv 1) (pa_cons (pv 2) (pa_cons (pv 3) (pa_cons (pe_cmpR (opEqK (K := K) (by rfl) (by exact hu)) (pe_g C_law_take (by exact hr.mono (by decide)) (E := fun _ => E0) (fun σ => passC0 σ) (fun _ _ _ _ _ _ us hl => match us, hl with | [_, _], _ => rfl) (pa_cons (pv 0) (pa_cons pe_int pa_nil))) pe_int (nomark _)) pa_nil)))))))))))), ?_⟩
    try dsimp only [L2.cxOf, L2.Cx.nox]
    simp only [L2.start, N_law_terms, List.map_cons, List.map_nil, List.length_cons, List.length_nil, Nat.reduceAdd, Nat.reduceSub, List.replicate_succ, List.replicate_zero, List.cons_append, List.nil_append]

    walk_at "gos"
    all_goals
      rename_i ht
      exact k _ _ ⟨_, _, _, _, 0⟩ _ Gx.new Gx.new Gx.rel inferInstance ht inferInstance ⟨by simp only; omega, by simp only; omega, by simp only; omega, by simp only; omega, by assumption, by simp only; omega, by simp only; omega, by simp⟩ rfl
local macro_rules | `(tactic| walk_at "call") => `(tactic| ((with_reducible show spTms _ _ _ _); refine ⟨_, rfl, inferInstance, ?_⟩; intro t_ c_ T_ H_ np_ nq_ e_ hB_ ht_ hc_ hT_ hT0_))
def spRng (C CL CR : Addr) : Sp := fun vs H Q _ => ∃ (t c : Addr) (T : Tm), vs = [.ref t] ∧ (At H t (.lst [.int T.p, .int T.lim, .ref c, .bl T.lt]) ∧ At H c (.lst (T.bs.map V.int)) ∧ TmOk T ∧ T.rd = 0) ∧ ∀ a H', Nw H a → Ex H H' → RgC C CL CR H' a (newR T.p T.lim T.bs T.lt T.rd) → Q (.ref a) H'
local macro_rules | `(tactic| walk_at "call") => `(tactic| first
  | ((with_reducible show Gx.rMkC _ _ _ _ _ _ _); refine Gx.g_mkC ?_; intro x_ dx_ H_ nx_ e_ hx_)
  | (refine Gx.g_mkK rfl rfl ?_; intro x_ dx_ H_ nx_ e_ hx_))
abbrev s_law_ring : Stmt := (top 37)
abbrev N_law_ring : List Str := ["_law_terms_here"]
theorem sc_law_ring : FnScope N_law_ring ["_law_terms_here"] (defScope s_law_ring) := ⟨rfl, rfl, rfl, by decide +kernel, rfl, by decide +kernel, by decide +kernel⟩
theorem cl_law_ring (T : Bl mg) (Z : EcF P K mg c_StoreError c_InvalidInput c_KeyLimit c_UnknownKey c_BadChoice c_Stalled) (R : RdF K mg c_Round) (W_RingLog : Gx.ClsF K mg c_RingLog "RingLog" ["entries"]) (W_Ring : Gx.ClsF K mg c_Ring "Ring" ["_places", "_limit", "_budgets", "_late", "_readers", "_log", "_done", "_phase", "_carried", "_last_wait", "_opened", "_open"]) (N_KEY : Gx.GlI mg "KEY" 0) (N_VALUE : Gx.GlI mg "VALUE" 1) (N_LIVING : Gx.GlI mg "LIVING" 2) (N_READERS : Gx.GlI mg "READERS" 3) (N_KEY_LENGTH : Gx.GlI mg "KEY_LENGTH" 12) (N_KEY_CHARACTERS : Gx.GlS mg "KEY_CHARACTERS" "abcdefghijklmnopqrstuvwxyz0123456789") (D : DfG K mg "_law_ring" s_law_ring [] []) (C_Ring___init__ : Gx.ClC CX0 P w K mg base 5 c_Ring "Ring.__init__" s_Ring___init__ ["self", "places", "limit", "budgets", "late", "readers"] [] [("late", .bl false), ("readers", .int 0)] (spRin c_Ring c_RingLog c_Round)) (C_law_round : ClG CX0 P w K mg base 9 "_law_round" s_law_round ["_law_cycle_here"] [] [] (spLRd c_Round K)) : ClG CX0 P w K mg base 11 "_law_ring" s_law_ring ["_law_terms_here"] [] [] (spRng c_Ring c_RingLog c_Round) := by
  have nd := sc_law_ring.nd
  refine D.okP sc_law_ring (fun vs H Q E h => ?_) (fun f cdv A outer s H vs Q E hr h => ?_)
  · obtain ⟨t, c, T, rfl, _⟩ := h
    rfl
  · obtain ⟨t, c, T, rfl, ⟨ht, hc, hT, hT0⟩, k⟩ := h
    have hu := hu64 hr
    refine ⟨_, (pss_cons (ps_if (pt_val (pe_ix (ixSeqK (K := K) (by rfl)) (pv 0) pe_int (fun _ _ => rfl)))
      (pss_one (ps_ret (pe_mkW C_Ring___init__ (by exact hr.mono (by decide)) (by rfl) W_Ring.g pass0 3 ["late"] [("readers", .int 0)] (fun us mv ws => ((us ++ ((ws.drop 0).take 1)) ++ ((mv.drop 0).take 1))) (by decide) (by decide) (fun r1 r2 r3 => (Vals.append (Vals.append r1 ((r3.drop 0).take 1)) ((r2.drop 0).take 1))) (fun _ _ _ _ _ _ us mv ws h1 h2 h3 => match us, mv, ws, h1, h2, h3 with | [_, _, _, _], [_], [_], _, _, _ => by (refine kw_skip (α := ?A_2) (β := ?B_2) (γ := ?G_2) (y := ?y_2) (f := ?f_2) (g := ?g_2) ?h_2 ?k_2; (case h_2 => rfl); (case k_2 => (refine ⟨?β_1, ?γ_1, ?k1_1, ?k2_1, ?k3_1, ?a_1, ?h1_1, ?h2_1, ?h3_1⟩; (case h1_1 => rfl); (case h2_1 => rfl); (case h3_1 => rfl))))) (pa_cons (pe_ix (ixSeqK (K := K) (by rfl)) (pv 0) pe_int (fun _ _ => rfl)) (pa_cons (pe_ix (ixSeqK (K := K) (by rfl)) (pv 0) pe_int (fun _ _ => rfl)) (pa_cons (pe_g C_law_round (by exact hr.mono (by decide)) (E := fun _ => E0) (fun σ => passC0 σ) (fun _ _ _ _ _ _ us hl => match us, hl with | [_], _ => rfl) (pa_cons (pe_ix (ixSeqK (K := K) (by rfl)) (pv 0) pe_int (fun _ _ => rfl)) pa_nil)) pa_nil))) (pk_cons pe_bl pk_nil))))
      pss_nil)
    (pss_one (ps_ret (pe_mkL C_Ring___init__ (by exact hr.mono (by decide)) (by rfl) W_Ring.g pass0 4 (by decide) (by decide) (fun _ _ _ _ _ _ us ks h1 h2 => match us, ks, h1, h2 with | [_, _, _, _], [_, _], _, _ => ⟨_, _, _, _, _, _, rfl, rfl, ⟨_, _, _, _, _, _, rfl, rfl, rfl⟩⟩) (pa_cons (pe_ix (ixSeqK (K := K) (by rfl)) (pv 0) pe_int (fun _ _ => rfl)) (pa_cons (pe_ix (ixSeqK (K := K) (by rfl)) (pv 0) pe_int (fun _ _ => rfl)) (pa_cons (pe_g C_law_round (by exact hr.mono (by decide)) (E := fun _ => E0) (fun σ => passC0 σ) (fun _ _ _ _ _ _ us hl => match us, hl with | [_], _ => rfl) (pa_cons (pe_ix (ixSeqK (K := K) (by rfl)) (pv 0) pe_int (fun _ _ => rfl)) pa_nil)) pa_nil))))))), ?_⟩
    try dsimp only [L2.cxOf, L2.Cx.nox]
    simp only [L2.start, N_law_ring, List.map_cons, List.map_nil, List.length_cons, List.length_nil, Nat.reduceAdd, Nat.reduceSub, List.replicate_succ, List.replicate_zero, List.cons_append, List.nil_append]

    have hRB := hT.bud.rb
    obtain ⟨p1, p2, l1, l2, bud, r0, r1, r2⟩ := hT
    obtain ⟨p, lim, bs, lt, rd⟩ := T
    simp only at p1 p2 l1 l2 bud r0 r1 r2 ht hc hRB k hT0
    subst hT0
    cases lt with
    | true =>
      walk_at "gos"
      rename_i x dx H5 n5 e5 h5
      refine ⟨x, dx, _, p, lim, bs, true, 0, rfl, ⟨h5, by infer_instance, p1, l1, l2, r0, r2⟩, fun H' e6 h6 => ⟨rfl, k _ _ Gx.new ?_ h6⟩⟩
      exact exNew (bs := [x]) (H := H5) Gx.rel (fun b hb => by rw [List.mem_singleton.mp hb]; exact Gx.new.eq) e6
    | false =>
      walk_at "gos"
      rename_i x dx H5 n5 e5 h5
      refine ⟨x, dx, _, p, lim, bs, false, 0, rfl, ⟨h5, by infer_instance, p1, l1, l2, r0, r2⟩, fun H' e6 h6 => ⟨rfl, k _ _ Gx.new ?_ h6⟩⟩
      exact exNew (bs := [x]) (H := H5) Gx.rel (fun b hb => by rw [List.mem_singleton.mp hb]; exact Gx.new.eq) e6
local macro_rules | `(tactic| walk_at "call") => `(tactic| ((with_reducible show spRng _ _ _ _ _ _ _); refine ⟨_, _, _, rfl, ⟨inferInstance, inferInstance, by assumption, by assumption⟩, ?_⟩; intro a_ H_ np_ e_ ha_))

/-! the ring keeps when the purse or a dict changes: no readers' lists are in it -/
def Plain (S : RS) : Prop := S.os = [] ∧ ∀ en ∈ S.L, en.rs = []
/-- no part of a plain ring -/
def Oth (o : HO) : Prop := (∃ (x : Int) (xs : List V), o = .lst (.int x :: xs)) ∨ (∀ xs, o ≠ .lst xs) ∧ ∀ C dx fs, o ≠ .ins C dx fs
theorem keepB {H1 H : Hp} {a b : Addr} {o w : HO} (r : Chg [b] H1 H) (hb : H1 b = some w) (ha : H1 a = some o) (hne : o ≠ w) : H a = some o := r.keep _ _ (by
  rw [List.mem_singleton]
  rintro rfl
  rw [hb] at ha
  exact hne (by cases ha; rfl)) ha
theorem oth_ins {w : HO} (h : Oth w) {C dx : Addr} {fs : List (Str × V)} : (.ins C dx fs : HO) ≠ w := by
  rintro rfl
  rcases h with ⟨x, xs, h⟩ | ⟨h1, h2⟩
  · cases h
  · exact h2 _ _ _ rfl
theorem oth_nil {w : HO} (h : Oth w) : (.lst [] : HO) ≠ w := by
  rintro rfl
  rcases h with ⟨x, xs, h⟩ | ⟨h1, h2⟩
  · cases h
  · exact h1 _ rfl
theorem oth_str {w : HO} (h : Oth w) {z : Str} {xs : List V} : (.lst (.str z :: xs) : HO) ≠ w := by
  rintro rfl
  rcases h with ⟨x, xs, h⟩ | ⟨h1, h2⟩
  · cases h
  · exact h1 _ rfl
theorem oth_refs {w : HO} (h : Oth w) {ps : List Addr} : (.lst (ps.map V.ref) : HO) ≠ w := by
  cases ps with
  | nil => exact oth_nil h
  | cons p r =>
    rintro rfl
    rcases h with ⟨x, xs, h⟩ | ⟨h1, h2⟩
    · cases h
    · exact h1 _ rfl
theorem RgC.frame {C CL CR a b : Addr} {S : RS} {H1 H : Hp} {w : HO} (h : RgC C CL CR H1 a S) (r : Chg [b] H1 H) (hb : H1 b = some w) (hw : Oth w) (hp : Plain S) : RgC C CL CR H a S := by
  obtain ⟨c, d, o, h1, h2, h3, h4⟩ := h.ex
  obtain ⟨dx, h1⟩ := h1.ex
  obtain ⟨e, ps, ⟨⟨dd, g1⟩⟩, g2⟩ := h3.ex
  have ho : H1 o = some (.lst []) := by have := h4.eq; rw [hp.1] at this; exact this
  refine ⟨c, d, o, ⟨⟨dx, keepB r hb h1 (oth_ins hw)⟩⟩, inferInstance, ⟨⟨e, ps, ⟨⟨dd, keepB r hb g1 (oth_ins hw)⟩⟩, ⟨keepB r hb g2.lst (oth_refs hw), g2.len, fun i p hi => ?_⟩⟩⟩, ⟨?_⟩⟩
  · obtain ⟨en, k1, k2⟩ := g2.ent i p hi
    obtain ⟨q, q1, q2⟩ := k2.ex
    have hr : en.rs = [] := hp.2 en (List.mem_of_getElem? k1)
    refine ⟨en, k1, ⟨q, keepB r hb q1 (oth_str hw), ?_⟩⟩
    rw [hr] at q2 ⊢
    exact keepB r hb q2 (oth_nil hw)
  · rw [hp.1]
    exact keepB r hb ho (oth_nil hw)

/-! texts as lists of signs -/
def sx (l : List Nat) : Str := ⟨l.toArray⟩
theorem sx_list (l : List Nat) : (sx l).cps.toList = l := rfl
theorem sx_len (l : List Nat) : (sx l).length = l.length := by simp [sx, Str.length]
theorem sx_of (z : Str) : ∃ l, z = sx l := ⟨z.cps.toList, by cases z; rfl⟩
theorem sx_app (a b : List Nat) : sx a ++ sx b = sx (a ++ b) := by
  apply str_ext
  show ((sx a).cps ++ (sx b).cps).toList = _
  rw [Array.toList_append]
  rfl
theorem sx_cut (l : List Nat) (lo hi : Option Int) : cutS (sx l) lo hi = sx ((l.drop (HT.sIx l.length 0 lo)).take (HT.sIx l.length l.length hi - HT.sIx l.length 0 lo)) := by
  apply str_ext
  unfold cutS
  rw [sx_list, sx_list, sx_len]
section
variable {K : PySem.W.Frag} {H : Hp} {Q : VK} {l m : List Nat} {z : Str} {i : Int}
theorem g_addX (h : l.length + m.length ≤ 100000) (q : Q (.str (sx (l ++ m))) H) : Gx.rAdd K (.str (sx l)) (.str (sx m)) H Q := Gx.g_addS (by rw [sx_len, sx_len]; exact h) (by rw [sx_app]; exact q)
theorem g_lenX (h : l.length ≤ 100000) (q : Q (.int (l.length : Nat)) H) : Gx.rLen K [.str (sx l)] H Q := Gx.g_len (len_s (by rw [sx_len]; exact h)) (by rw [sx_len]; exact q)
theorem g_slTo (h : l.length ≤ 100000) (h0 : 0 ≤ i) (q : Q (.str (sx (l.take i.toNat))) H) : rSlX K (.str (sx l)) none (some i) H Q :=
  Gx.g_slS (by rw [sx_len]; exact h) (by
    rw [sx_cut]
    obtain ⟨n, rfl⟩ := Int.eq_ofNat_of_zero_le h0
    rw [Gx.cutB_to]
    exact q)
theorem g_slFr (h : l.length ≤ 100000) (h0 : 0 ≤ i) (q : Q (.str (sx (l.drop i.toNat))) H) : rSlX K (.str (sx l)) (some i) none H Q :=
  Gx.g_slS (by rw [sx_len]; exact h) (by
    rw [sx_cut]
    obtain ⟨n, rfl⟩ := Int.eq_ofNat_of_zero_le h0
    rw [Gx.cutB_from]
    exact q)
theorem g_ixZ (hz : z.length ≤ 100000) (h0 : 0 ≤ i) (h1 : i < (z.length : Nat)) (q : ∀ c, c ∈ z.cps.toList → Q (.str (sx [c])) H) : rIx K (.str z) (.int i) H Q := by
  obtain ⟨n, rfl⟩ := Int.eq_ofNat_of_zero_le h0
  have hn : n < z.cps.toList.length := by
    have : n < z.length := by omega
    simpa [Str.length] using this
  exact Gx.g_ixS hz (Gx.atI_nat (List.getElem?_eq_getElem hn)) (q _ (List.getElem_mem _))
end
/-- the signs of a key -/
abbrev SG : Str := "abcdefghijklmnopqrstuvwxyz0123456789"
theorem SG_len : SG.length = 36 := by decide +kernel
def Sg (l : List Nat) : Prop := ∀ c ∈ l, c ∈ SG.cps.toList
theorem Sg.app {l m : List Nat} (h : Sg l) (k : Sg m) : Sg (l ++ m) := fun c hc => (List.mem_append.mp hc).elim (h c) (k c)
theorem Sg.tk {l : List Nat} (h : Sg l) {n : Nat} : Sg (l.take n) := fun c hc => h c (List.mem_of_mem_take hc)
theorem Sg.dp {l : List Nat} (h : Sg l) {n : Nat} : Sg (l.drop n) := fun c hc => h c (List.mem_of_mem_drop hc)
theorem Sg.one {c : Nat} (h : c ∈ SG.cps.toList) : Sg [c] := fun d hd => by rw [List.mem_singleton.mp hd]; exact h
theorem key_of {l : List Nat} (h1 : 1 ≤ l.length) (h2 : l.length ≤ 12) (h : Sg l) : KeyOk (sx l) := ⟨by rw [sx_len]; exact h1, by rw [sx_len]; exact h2, h⟩
theorem key_k {k : Nat} (h : k ≤ 110) : KeyOk (("k" : Str) ++ Str.ofString (toString (k : Int))) := by
  have : ∀ k, k < 111 → KeyOk (("k" : Str) ++ Str.ofString (toString ((k : Nat) : Int))) := by
    unfold KeyOk
    decide +kernel
  exact this k (by omega)
local macro_rules | `(tactic| walk_at "call") => `(tactic| first
  | (refine g_addX (by first | omega | (simp; omega)) ?_)
  | (refine g_lenX (by first | omega | (simp; omega)) ?_)
  | (refine g_slTo (by first | omega | (simp; omega)) (by omega) ?_)
  | (refine g_slFr (by first | omega | (simp; omega)) (by omega) ?_)
  | (refine g_ixZ (z := SG) (by rw [SG_len]; decide) (by omega) (by rw [SG_len]; omega) ?_; intro c_ hc_))
theorem flat_strs {zs : List Str} : (zs.map V.str).all flatV = true := by
  rw [List.all_map]
  exact List.all_eq_true.mpr fun _ _ => rfl
theorem ix_str {K : PySem.W.Frag} {H : Hp} {Q : VK} {p : Addr} {zs : List Str} {i : Int} [h : SqC K H p (zs.map V.str)] (h0 : 0 ≤ i) (h1 : i < (zs.length : Nat)) (q : ∀ z, z ∈ zs → Q (.str z) H) : rIx K (.ref p) (.int i) H Q := by
  obtain ⟨n, rfl⟩ := Int.eq_ofNat_of_zero_le h0
  have hn : n < zs.length := by omega
  exact Gx.g_ixL (Gx.atI_nat (by rw [List.getElem?_map, List.getElem?_eq_getElem hn]; rfl)) (q _ (List.getElem_mem _))
def spNam : Sp := fun vs H Q _ => ∃ (b p : Addr) (zs : List Str), vs = [.ref b, .ref p] ∧ (Bg b H ∧ At H p (.lst (zs.map V.str)) ∧ zs.length ≤ 100 ∧ ∀ z ∈ zs, KeyOk z) ∧ ∀ z H', KeyOk z → ExB b H H' → Bg b H' → Q (.str z) H'
abbrev s_law_name : Stmt := (top 33)
abbrev N_law_name : List Str := ["_law_purse_here", "_law_pool_here", "_law_signs", "_law_way", "_law_text", "_law_sign", "_law_place", "_law_number", "_law_size", "_law_k"]
theorem sc_law_name : FnScope N_law_name ["_law_purse_here", "_law_pool_here"] (defScope s_law_name) := ⟨rfl, rfl, rfl, by decide +kernel, rfl, by decide +kernel, by decide +kernel⟩
theorem cl_law_name (T : Bl mg) (Z : EcF P K mg c_StoreError c_InvalidInput c_KeyLimit c_UnknownKey c_BadChoice c_Stalled) (R : RdF K mg c_Round) (W_RingLog : Gx.ClsF K mg c_RingLog "RingLog" ["entries"]) (W_Ring : Gx.ClsF K mg c_Ring "Ring" ["_places", "_limit", "_budgets", "_late", "_readers", "_log", "_done", "_phase", "_carried", "_last_wait", "_opened", "_open"]) (N_KEY : Gx.GlI mg "KEY" 0) (N_VALUE : Gx.GlI mg "VALUE" 1) (N_LIVING : Gx.GlI mg "LIVING" 2) (N_READERS : Gx.GlI mg "READERS" 3) (N_KEY_LENGTH : Gx.GlI mg "KEY_LENGTH" 12) (N_KEY_CHARACTERS : Gx.GlS mg "KEY_CHARACTERS" "abcdefghijklmnopqrstuvwxyz0123456789") (D : DfG K mg "_law_name" s_law_name [] []) (C_law_take : ClG CX0 P w K mg base 5 "_law_take" s_law_take ["_law_purse_here", "_law_many"] [] [] spTake) : ClG CX0 P w K mg base 7 "_law_name" s_law_name ["_law_purse_here", "_law_pool_here"] [] [] spNam := by
  have nd := sc_law_name.nd
  refine D.okP sc_law_name (fun vs H Q E h => ?_) (fun f cdv A outer s H vs Q E hr h => ?_)
  · obtain ⟨b, p, zs, rfl, _⟩ := h
    rfl
  · obtain ⟨b, p, zs, rfl, ⟨hb, hp, hl, hz⟩, k⟩ := h
    have hu := hu64 hr
    refine ⟨_, (pss_cons (ps_set (i := 2) nd rfl (Or.inl rfl) pe_str)
    (pss_cons (ps_set (i := 3) nd rfl (Or.inl rfl) (pe_g C_law_take (by exact hr.mono (by decide)) (E := fun _ => E0) (fun σ => passC0 σ) (fun _ _ _ _ _ _ us hl => match us, hl with | [_, _], _ => rfl) (pa_cons (pv 0) (pa_cons pe_int pa_nil))))
    (pss_cons (ps_set (i := 4) nd rfl (Or.inl rfl) pe_str)
    (pss_cons (ps_if (PW.pt (pw_and (pt_cmpR opGt (pv 3) pe_int (nomark _)) (pw_and1 (pt_cmpR opGt (pe_callB (callLenK (K := K) (by rfl)) (by rfl) T.len (by decide +kernel) (pa_cons (pv 1) pa_nil)) pe_int (nomark _)))))
      (pss_cons (ps_set (i := 4) nd rfl (Or.inl rfl) (pe_ix (ixSeqK (K := K) (by rfl)) (pv 1) (pe_g C_law_take (by exact hr.mono (by decide)) (E := fun _ => E0) (fun σ => passC0 σ) (fun _ _ _ _ _ _ us hl => match us, hl with | [_, _], _ => rfl) (pa_cons (pv 0) (pa_cons (pe_callB (callLenK (K := K) (by rfl)) (by rfl) T.len (by decide +kernel) (pa_cons (pv 1) pa_nil)) pa_nil))) (fun _ _ => rfl)))
    (pss_cons (ps_set (i := 5) nd rfl (Or.inl rfl) (pe_ix (ixSeqK (K := K) (by rfl)) (pv 2) (pe_g C_law_take (by exact hr.mono (by decide)) (E := fun _ => E0) (fun σ => passC0 σ) (fun _ _ _ _ _ _ us hl => match us, hl with | [_, _], _ => rfl) (pa_cons (pv 0) (pa_cons pe_int pa_nil))) (fun _ _ => rfl)))
    (pss_cons (ps_set (i := 6) nd rfl (Or.inl rfl) (pe_g C_law_take (by exact hr.mono (by decide)) (E := fun _ => E0) (fun σ => passC0 σ) (fun _ _ _ _ _ _ us hl => match us, hl with | [_, _], _ => rfl) (pa_cons (pv 0) (pa_cons (pe_callB (callLenK (K := K) (by rfl)) (by rfl) T.len (by decide +kernel) (pa_cons (pv 4) pa_nil)) pa_nil))))
    (pss_one (ps_if (pt_cmpR (opEqK (K := K) (by rfl) (by exact hu)) (pv 3) pe_int (nomark _))
      (pss_one (ps_set (i := 4) nd rfl (Or.inl rfl) (pe_op (opAddK (K := K) (by rfl)) (pe_op (opAddK (K := K) (by rfl)) (pe_slice (slAnyK (K := K) (by rfl)) (pv 4) po_none (po_some (pv 6))) (pv 5)) (pe_slice (slAnyK (K := K) (by rfl)) (pv 4) (po_some (pe_op (opAddK (K := K) (by rfl)) (pv 6) pe_int)) po_none))))
      (pss_one (ps_set (i := 4) nd rfl (Or.inl rfl) (pe_slice (slAnyK (K := K) (by rfl)) (pe_op (opAddK (K := K) (by rfl)) (pe_op (opAddK (K := K) (by rfl)) (pe_slice (slAnyK (K := K) (by rfl)) (pv 4) po_none (po_some (pv 6))) (pv 5)) (pe_slice (slAnyK (K := K) (by rfl)) (pv 4) (po_some (pv 6)) po_none)) po_none (po_some pe_int)))))))))
      (pss_cons (ps_set (i := 7) nd rfl (Or.inl rfl) (pe_g C_law_take (by exact hr.mono (by decide)) (E := fun _ => E0) (fun σ => passC0 σ) (fun _ _ _ _ _ _ us hl => match us, hl with | [_, _], _ => rfl) (pa_cons (pv 0) (pa_cons (pe_op (opMulK (K := K) (by rfl)) pe_int (pe_op opPow pe_int pe_int)) pa_nil))))
    (pss_cons (ps_set (i := 8) nd rfl (Or.inl rfl) (pe_op (opAddK (K := K) (by rfl)) pe_int (pe_op opMod (pe_callTy callInt (by rfl) T.int (by decide +kernel) (pa_cons (pv 7) pa_nil)) pe_int)))
    (pss_cons (ps_if (PW.pt (pw_and (pt_cmpR (opEqK (K := K) (by rfl) (by exact hu)) (pe_callB (callLenK (K := K) (by rfl)) (by rfl) T.len (by decide +kernel) (pa_cons (pv 1) pa_nil)) pe_int (nomark _)) (pw_and1 (pt_cmpR opLt (pv 3) pe_int (nomark _)))))
      (pss_one (ps_set (i := 8) nd rfl (Or.inl rfl) (pe_op (opAddK (K := K) (by rfl)) pe_int (pe_op (opMulK (K := K) (by rfl)) pe_int (pv 3)))))
      pss_nil)
    (pss_cons (ps_set (i := 7) nd rfl (Or.inl rfl) (pe_op opDiv (pv 7) pe_int))
    (pss_one (ps_for PassesOwn.never rfl (pi_range1 rfl T.range (pa_cons (pv 8) pa_nil)) (pg_name (i := 9) nd rfl (Or.inl rfl))
      (pss_cons (ps_set (i := 4) nd rfl (Or.inl rfl) (pe_op (opAddK (K := K) (by rfl)) (pv 4) (pe_ix (ixSeqK (K := K) (by rfl)) (pv 2) (pe_op opMod (pe_callTy callInt (by rfl) T.int (by decide +kernel) (pa_cons (pv 7) pa_nil)) pe_int) (fun _ _ => rfl))))
    (pss_one (ps_set (i := 7) nd rfl (Or.inl rfl) (pe_op opDiv (pv 7) pe_int)))))))))))
    (pss_cons (ps_for PassesOwn.never rfl (pi_range1 rfl T.range (pa_cons (pe_op (opAddK (K := K) (by rfl)) (pe_callB (callLenK (K := K) (by rfl)) (by rfl) T.len (by decide +kernel) (pa_cons (pv 1) pa_nil)) pe_int) pa_nil)) (pg_name (i := 9) nd rfl (Or.inl rfl))
      (pss_cons (ps_if (pt_cmpR (opNotInK (K := K) (by rfl)) (pv 4) (pv 1) (by rfl))
      (pss_one (ps_ret (pv 4)))
      pss_nil)
    (pss_one (ps_set (i := 4) nd rfl (Or.inl rfl) (pe_op (opAddK (K := K) (by rfl)) pe_str (pe_callTy callStr (by rfl) T.str (by decide +kernel) (pa_cons (pv 9) pa_nil)))))))
    (pss_one (ps_ret (pv 4)))))))), ?_⟩
    try dsimp only [L2.cxOf, L2.Cx.nox]
    simp only [L2.start, N_law_name, List.map_cons, List.map_nil, List.length_cons, List.length_nil, Nat.reduceAdd, Nat.reduceSub, List.replicate_succ, List.replicate_zero, List.cons_append, List.nil_append]

    have hne : Gx.NeC p b := ⟨by
      rintro rfl
      obtain ⟨x, y, z, h⟩ := hb.ex
      rw [hp.eq] at h
      cases zs <;> simp at h⟩
    have hpl : (zs.map V.str).length = zs.length := List.length_map ..
    have hS : Sg SG.cps.toList := fun c hc => hc
    walk_at "gos"
    · rename_i H2 d1 H3 g0 g1 e3 hB3
      refine ix_str g0 (by omega) fun z hz1 => ?_
      have hz2 := hz z hz1
      obtain ⟨l, rfl⟩ := sx_of z
      have hl1 := hz2.1
      have hl2 := hz2.2.1
      have hl3 : Sg l := hz2.2.2
      rw [sx_len] at hl1 hl2
      walk_at "gos"
      · refine Gx.for1 [b] (fun i σ' H' => ∃ (z : Str) (a4 a6 a7 a8 a9 a10 : Option V), σ' = [some (.ref b), some (.ref p), some (.str SG), a4, some (.str z), a6, a7, a8, a9, a10] ∧ KeyOk z ∧ Bg b H') (by omega) ⟨_, _, _, _, _, _, _, rfl, (key_of (by simp; omega) (by simp; omega) ((hl3.tk.app (Sg.one (by assumption))).app hl3.dp)), inferInstance⟩ ?_ ?_
        · rintro i σ' H' hi e ⟨z, a4, a6, a7, a8, a9, a10, rfl, hz', hB'⟩
          walk_at "gos"
          refine Gx.g_inL rfl flat_strs rfl ?_
          walk_at "gos"
          · exact k _ _ hz' Gx.rel inferInstance
          · rename_i hsl
            refine Gx.g_addS (by have : ("k" : Str).length = 1 := by decide
                                 have e2 : (Str.ofString (toString ((i : Nat) : Int))).length ≤ 1921 := hsl
                                 show ("k" : Str).length + (Str.ofString (toString ((i : Nat) : Int))).length ≤ 100000
                                 omega) ?_
            walk_at "gos"
            exact Gx.li ⟨_, _, _, _, _, _, _, rfl, key_k (by omega), inferInstance⟩
        · rintro σ' H' e ⟨z, a4, a6, a7, a8, a9, a10, rfl, hz', hB'⟩
          walk_at "gos"
          exact k _ _ hz' Gx.rel inferInstance
      · refine Gx.for1 [b] (fun i σ' H' => ∃ (z : Str) (a4 a6 a7 a8 a9 a10 : Option V), σ' = [some (.ref b), some (.ref p), some (.str SG), a4, some (.str z), a6, a7, a8, a9, a10] ∧ KeyOk z ∧ Bg b H') (by omega) ⟨_, _, _, _, _, _, _, rfl, (key_of (by simp; omega) (by simp; omega) ((hl3.tk.app (Sg.one (by assumption))).app hl3.dp).tk), inferInstance⟩ ?_ ?_
        · rintro i σ' H' hi e ⟨z, a4, a6, a7, a8, a9, a10, rfl, hz', hB'⟩
          walk_at "gos"
          refine Gx.g_inL rfl flat_strs rfl ?_
          walk_at "gos"
          · exact k _ _ hz' Gx.rel inferInstance
          · rename_i hsl
            refine Gx.g_addS (by have : ("k" : Str).length = 1 := by decide
                                 have e2 : (Str.ofString (toString ((i : Nat) : Int))).length ≤ 1921 := hsl
                                 show ("k" : Str).length + (Str.ofString (toString ((i : Nat) : Int))).length ≤ 100000
                                 omega) ?_
            walk_at "gos"
            exact Gx.li ⟨_, _, _, _, _, _, _, rfl, key_k (by omega), inferInstance⟩
        · rintro σ' H' e ⟨z, a4, a6, a7, a8, a9, a10, rfl, hz', hB'⟩
          walk_at "gos"
          exact k _ _ hz' Gx.rel inferInstance
    all_goals
      refine Gx.for1 [b] (fun i σ' H' => ∃ (l : List Nat) (nm : Int) (a4 a6 a7 a9 a10 : Option V), σ' = [some (.ref b), some (.ref p), some (.str SG), a4, some (.str (sx l)), a6, a7, some (.int nm), a9, a10] ∧ (l.length : Int) = i ∧ Sg l ∧ Bg b H') (by omega) ⟨[], _, _, _, _, _, _, rfl, rfl, (fun c hc => by simp at hc), inferInstance⟩ ?_ ?_
      · rintro i σ' H' hi e ⟨l, nm, a4, a6, a7, a9, a10, rfl, hll, hls, hB'⟩
        have hm0 := Int.emod_nonneg nm (show (36 : Int) ≠ 0 by decide)
        have hm1 := Int.emod_lt_of_pos nm (show (0 : Int) < 36 by decide)
        walk_at "gos"
        rename_i c hc
        exact Gx.li ⟨l ++ [c], _, _, _, _, _, _, rfl, by rw [List.length_append, List.length_singleton]; omega, hls.app (Sg.one hc), inferInstance⟩
      · rintro σ' H' e ⟨l, nm, a4, a6, a7, a9, a10, rfl, hll, hls, hB'⟩
        walk_at "gos"
        refine Gx.for1 [b] (fun i σ' H' => ∃ (z : Str) (a4 a6 a7 a8 a9 a10 : Option V), σ' = [some (.ref b), some (.ref p), some (.str SG), a4, some (.str z), a6, a7, a8, a9, a10] ∧ KeyOk z ∧ Bg b H') (by omega) ⟨_, _, _, _, _, _, _, rfl, (key_of (by omega) (by omega) hls), inferInstance⟩ ?_ ?_
        · rintro i σ' H' hi e ⟨z, a4, a6, a7, a8, a9, a10, rfl, hz', hB'⟩
          walk_at "gos"
          refine Gx.g_inL rfl flat_strs rfl ?_
          walk_at "gos"
          · exact k _ _ hz' Gx.rel inferInstance
          · rename_i hsl
            refine Gx.g_addS (by have : ("k" : Str).length = 1 := by decide
                                 have e2 : (Str.ofString (toString ((i : Nat) : Int))).length ≤ 1921 := hsl
                                 show ("k" : Str).length + (Str.ofString (toString ((i : Nat) : Int))).length ≤ 100000
                                 omega) ?_
            walk_at "gos"
            exact Gx.li ⟨_, _, _, _, _, _, _, rfl, key_k (by omega), inferInstance⟩
        · rintro σ' H' e ⟨z, a4, a6, a7, a8, a9, a10, rfl, hz', hB'⟩
          walk_at "gos"
          exact k _ _ hz' Gx.rel inferInstance
local macro_rules | `(tactic| walk_at "call") => `(tactic| ((with_reducible show spNam _ _ _ _); refine ⟨_, _, _, rfl, ⟨inferInstance, inferInstance, by omega, by assumption⟩, ?_⟩; intro z_ H_ hk_ e_ hB_))
def spPoo : Sp := fun vs H Q _ => ∃ (b : Addr) (n : Int), vs = [.ref b, .int n] ∧ (Bg b H ∧ 0 ≤ n ∧ n ≤ 100) ∧ ∀ p (zs : List Str) H', Nw H p → ExB b H H' → Bg b H' → At H' p (.lst (zs.map V.str)) → (zs.length : Int) = n → (∀ z ∈ zs, KeyOk z) → Q (.ref p) H'
abbrev s_law_pool : Stmt := (top 34)
abbrev N_law_pool : List Str := ["_law_purse_here", "_law_many", "_law_pool_here", "_law_k"]
theorem sc_law_pool : FnScope N_law_pool ["_law_purse_here", "_law_many"] (defScope s_law_pool) := ⟨rfl, rfl, rfl, by decide +kernel, rfl, by decide +kernel, by decide +kernel⟩
theorem cl_law_pool (T : Bl mg) (Z : EcF P K mg c_StoreError c_InvalidInput c_KeyLimit c_UnknownKey c_BadChoice c_Stalled) (R : RdF K mg c_Round) (W_RingLog : Gx.ClsF K mg c_RingLog "RingLog" ["entries"]) (W_Ring : Gx.ClsF K mg c_Ring "Ring" ["_places", "_limit", "_budgets", "_late", "_readers", "_log", "_done", "_phase", "_carried", "_last_wait", "_opened", "_open"]) (N_KEY : Gx.GlI mg "KEY" 0) (N_VALUE : Gx.GlI mg "VALUE" 1) (N_LIVING : Gx.GlI mg "LIVING" 2) (N_READERS : Gx.GlI mg "READERS" 3) (N_KEY_LENGTH : Gx.GlI mg "KEY_LENGTH" 12) (N_KEY_CHARACTERS : Gx.GlS mg "KEY_CHARACTERS" "abcdefghijklmnopqrstuvwxyz0123456789") (D : DfG K mg "_law_pool" s_law_pool [] []) (C_law_name : ClG CX0 P w K mg base 7 "_law_name" s_law_name ["_law_purse_here", "_law_pool_here"] [] [] spNam) : ClG CX0 P w K mg base 9 "_law_pool" s_law_pool ["_law_purse_here", "_law_many"] [] [] spPoo := by
  have nd := sc_law_pool.nd
  refine D.okP sc_law_pool (fun vs H Q E h => ?_) (fun f cdv A outer s H vs Q E hr h => ?_)
  · obtain ⟨b, n, rfl, _⟩ := h
    rfl
  · obtain ⟨b, n, rfl, ⟨hb, hn0, hn1⟩, k⟩ := h
    have hu := hu64 hr
    refine ⟨_, (pss_cons (ps_set (i := 2) nd rfl (Or.inl rfl) (pe_lst pa_nil))
    (pss_cons (ps_for PassesOwn.never rfl (pi_range1 rfl T.range (pa_cons (pv 1) pa_nil)) (pg_name (i := 3) nd rfl (Or.inl rfl))
      (pss_one (ps_expr (pe_bmK (K := K) (by rfl) PySem.F.plainAttrs_list PySem.F.slot_list_append PySem.F.type_list_append mt_append (pv 2) (pa_cons (pe_g C_law_name (by exact hr.mono (by decide)) (E := fun _ => E0) (fun σ => passC0 σ) (fun _ _ _ _ _ _ us hl => match us, hl with | [_, _], _ => rfl) (pa_cons (pv 0) (pa_cons (pv 2) pa_nil))) pa_nil)))))
    (pss_one (ps_ret (pv 2))))), ?_⟩
    try dsimp only [L2.cxOf, L2.Cx.nox]
    simp only [L2.start, N_law_pool, List.map_cons, List.map_nil, List.length_cons, List.length_nil, Nat.reduceAdd, Nat.reduceSub, List.replicate_succ, List.replicate_zero, List.cons_append, List.nil_append]

    walk_at "gos"
    rename_i p H1 n1 e1 h1
    refine Gx.for1 [b, p] (fun i σ' H' => ∃ (zs : List Str) (a3 : Option V), σ' = [some (.ref b), some (.int n), some (.ref p), a3] ∧ Bg b H' ∧ At H' p (.lst (zs.map V.str)) ∧ (zs.length : Int) = i ∧ ∀ z ∈ zs, KeyOk z) (by omega) ⟨[], none, rfl, inferInstance, h1, rfl, by simp⟩ ?_ ?_
    · rintro i σ' H' hi e ⟨zs, a3, rfl, hB', hp', hl, hz⟩
      walk_at "gos"
      rename_i z H5 hk e5 hB5 H6 e6 h6
      refine Gx.li ⟨zs ++ [z], _, rfl, inferInstance, by rw [List.map_append]; exact h6, by rw [List.length_append, List.length_singleton]; omega, fun y hy => (List.mem_append.mp hy).elim (hz y) fun e => by rw [List.mem_singleton.mp e]; exact hk⟩
    · rintro σ' H' e ⟨zs, a3, rfl, hB', hp', hl, hz⟩
      walk_at "gos"
      exact k p zs _ Gx.new Gx.rel inferInstance hp' (by omega) hz
local macro_rules | `(tactic| walk_at "call") => `(tactic| ((with_reducible show spPoo _ _ _ _); refine ⟨_, _, rfl, ⟨inferInstance, by omega, by omega⟩, ?_⟩; intro p_ zs_ H_ np_ e_ hB_ hp_ hl_ hz_))

/-- a record of the law's chain: the name, the worth if any, living -/
structure LE where
  k : Str
  w : Option Int
  l : Bool
abbrev LE.vs (e : LE) : List V := [.str e.k, cV e.w, .bl e.l]
/-- .. as a record of the log -/
def LE.en (e : LE) : En := ⟨e.k, e.w.getD 0, e.l, []⟩
def trimE (L : List LE) : List LE := L.dropWhile fun e => !e.l
theorem en_need (e : LE) : e.en.need = e.l := by unfold LE.en En.need; simp
theorem trim_en (L : List LE) : trimL (L.map LE.en) = (trimE L).map LE.en := by
  unfold trimL trimE
  rw [List.dropWhile_map]
  congr 1
  congr 1
  funext e
  show (!e.en.need) = !e.l
  rw [en_need]
theorem trimE_at : ∀ {L : List LE} {i : Nat} {e : LE}, (∀ j x, j < i → L[j]? = some x → x.l = false) → L[i]? = some e → e.l = true → trimE L = L.drop i
  | [], i, e, _, h, _ => by simp at h
  | x :: r, 0, e, _, h, h2 => by
    obtain rfl : x = e := by simpa using h
    unfold trimE
    rw [List.dropWhile_cons_of_neg (by simp [h2])]
    rfl
  | x :: r, i + 1, e, h0, h, h2 => by
    have hx := h0 0 x (by omega) rfl
    have := trimE_at (L := r) (i := i) (e := e) (fun j y hj hy => h0 (j + 1) y (by omega) (by simpa using hy)) (by simpa using h) h2
    unfold trimE at this ⊢
    rw [List.dropWhile_cons_of_pos (by simp [hx])]
    exact this
theorem trimE_nil : ∀ {L : List LE}, (∀ (j : Nat) (x : LE), j < L.length → L[j]? = some x → x.l = false) → trimE L = []
  | [], _ => rfl
  | x :: r, h => by
    have hx := h 0 x (by simp) rfl
    have := trimE_nil (L := r) fun j y hj hy => h (j + 1) y (by simpa using hj) (by simpa using hy)
    unfold trimE at this ⊢
    rw [List.dropWhile_cons_of_pos (by simp [hx])]
    exact this
theorem trimE_len (L : List LE) : (trimE L).length ≤ L.length := (List.dropWhile_sublist _).length_le
/-- a chain at c: a list of tuples -/
class ChC (H : Hp) (c : Addr) (ps : outParam (List Addr)) (L : outParam (List LE)) : Prop where
  lst : H c = some (.lst (ps.map V.ref))
  len : ps.length = L.length
  ent : ∀ (i : Nat) p, ps[i]? = some p → ∃ e, L[i]? = some e ∧ H p = some (.tup e.vs)
section
variable {K : PySem.W.Frag} {H H0 H1 H2 : Hp} {Q : VK} {c p : Addr} {L : List LE} {ps bs : List Addr}
theorem ChC.mv (h : ChC H1 c ps L) (r : Chg bs H1 H) (e : H c = some (.lst (ps.map V.ref))) : ChC H c ps L := ⟨e, h.len, fun i p hp => by
  obtain ⟨x, h1, h2⟩ := h.ent i p hp
  exact ⟨x, h1, r.imm _ _ (.inl ⟨_, rfl⟩) h2⟩⟩
instance (priority := low) chStep [r : Chg bs H1 H] [n : Gx.NotIn c bs] [h : ChC H1 c ps L] : ChC H c ps L := h.mv r (r.keep _ _ n.out h.lst)
instance chAt [h : ChC H c ps L] : At H c (.lst (ps.map V.ref)) := ⟨h.lst⟩
instance chLive [h : ChC H c ps L] : Live H c := ⟨⟨_, h.lst⟩⟩
theorem ChC.frame {b : Addr} {w : HO} (h : ChC H1 c ps L) (r : Chg [b] H1 H) (hb : H1 b = some w) (hw : Oth w) : ChC H c ps L := h.mv r (keepB r hb h.lst (oth_refs hw))
theorem ChC.get (h : ChC H c ps L) {i : Nat} {e : LE} (hi : L[i]? = some e) : ∃ p, ps[i]? = some p ∧ At H p (.tup e.vs) := by
  have hl := (List.getElem?_eq_some_iff.mp hi).1
  obtain ⟨x, h1, h2⟩ := h.ent i _ (List.getElem?_eq_getElem (by rw [h.len]; exact hl))
  rw [hi] at h1
  cases h1
  exact ⟨_, List.getElem?_eq_getElem (by rw [h.len]; exact hl), ⟨h2⟩⟩
theorem ChC.ix (h : ChC H c ps L) {i : Nat} (hi : i < L.length) (q : ∀ p e, ps[i]? = some p → L[i]? = some e → At H p (.tup e.vs) → Q (.ref p) H) : rIx K (.ref c) (.int (i : Nat)) H Q := by
  obtain ⟨p, h1, h2⟩ := h.get (List.getElem?_eq_getElem hi)
  haveI := h
  exact Gx.g_ixL (Gx.atI_nat (by rw [List.getElem?_map, h1]; rfl)) (q p _ h1 (List.getElem?_eq_getElem hi) h2)
theorem ChC.dp {d : Addr} (h : ChC H1 c ps L) (r : Chg bs H1 H) {n : Nat} (e : H d = some (.lst ((ps.drop n).map V.ref))) : ChC H d (ps.drop n) (L.drop n) := ⟨e, by rw [List.length_drop, List.length_drop, h.len], fun i p hp => by
  rw [List.getElem?_drop] at hp
  obtain ⟨x, h1, h2⟩ := h.ent _ p hp
  exact ⟨x, by rw [List.getElem?_drop]; exact h1, r.imm _ _ (.inl ⟨_, rfl⟩) h2⟩⟩
theorem ChC.tk {d : Addr} (h : ChC H1 c ps L) (r : Chg bs H1 H) {n : Nat} (e : H d = some (.lst ((ps.take n).map V.ref))) : ChC H d (ps.take n) (L.take n) := ⟨e, by rw [List.length_take, List.length_take, h.len], fun i p hp => by
  rw [List.getElem?_take] at hp
  split at hp
  · rename_i hi
    obtain ⟨x, h1, h2⟩ := h.ent _ p hp
    exact ⟨x, by rw [List.getElem?_take, if_pos hi]; exact h1, r.imm _ _ (.inl ⟨_, rfl⟩) h2⟩
  · cases hp⟩
theorem ChC.app {d c2 : Addr} {ps2 : List Addr} {L2 : List LE} (h : ChC H1 c ps L) (h2 : ChC H2 c2 ps2 L2) (r : Chg bs H1 H) {cs : List Addr} (r2 : Chg cs H2 H) (e : H d = some (.lst ((ps ++ ps2).map V.ref))) : ChC H d (ps ++ ps2) (L ++ L2) := ⟨e, by rw [List.length_append, List.length_append, h.len, h2.len], fun i p hp => by
  by_cases hi : i < ps.length
  · rw [List.getElem?_append_left hi] at hp
    obtain ⟨x, g1, g2⟩ := h.ent _ p hp
    exact ⟨x, by rw [List.getElem?_append_left (by rw [← h.len]; exact hi)]; exact g1, r.imm _ _ (.inl ⟨_, rfl⟩) g2⟩
  · rw [List.getElem?_append_right (by omega)] at hp
    obtain ⟨x, g1, g2⟩ := h2.ent _ p hp
    exact ⟨x, by rw [List.getElem?_append_right (by rw [← h.len]; omega), ← h.len]; exact g1, r2.imm _ _ (.inl ⟨_, rfl⟩) g2⟩⟩
theorem ChC.nil (e : H c = some (.lst [])) : ChC H c [] [] := ⟨e, rfl, fun i p hp => by simp at hp⟩
end
def spTmd : Sp := fun vs H Q _ => ∃ (c : Addr) (ps : List Addr) (L : List LE), vs = [.ref c] ∧ (ChC H c ps L ∧ L.length ≤ 1000) ∧ ∀ p qs H', Nw H p → Ex H H' → ChC H' p qs (trimE L) → Q (.ref p) H'
abbrev s_law_trimmed : Stmt := (top 39)
abbrev N_law_trimmed : List Str := ["_law_chain", "_law_k"]
theorem sc_law_trimmed : FnScope N_law_trimmed ["_law_chain"] (defScope s_law_trimmed) := ⟨rfl, rfl, rfl, by decide +kernel, rfl, by decide +kernel, by decide +kernel⟩
theorem cl_law_trimmed (T : Bl mg) (Z : EcF P K mg c_StoreError c_InvalidInput c_KeyLimit c_UnknownKey c_BadChoice c_Stalled) (R : RdF K mg c_Round) (W_RingLog : Gx.ClsF K mg c_RingLog "RingLog" ["entries"]) (W_Ring : Gx.ClsF K mg c_Ring "Ring" ["_places", "_limit", "_budgets", "_late", "_readers", "_log", "_done", "_phase", "_carried", "_last_wait", "_opened", "_open"]) (N_KEY : Gx.GlI mg "KEY" 0) (N_VALUE : Gx.GlI mg "VALUE" 1) (N_LIVING : Gx.GlI mg "LIVING" 2) (N_READERS : Gx.GlI mg "READERS" 3) (N_KEY_LENGTH : Gx.GlI mg "KEY_LENGTH" 12) (N_KEY_CHARACTERS : Gx.GlS mg "KEY_CHARACTERS" "abcdefghijklmnopqrstuvwxyz0123456789") (D : DfG K mg "_law_trimmed" s_law_trimmed [] [])  : ClG CX0 P w K mg base 3 "_law_trimmed" s_law_trimmed ["_law_chain"] [] [] spTmd := by
  have nd := sc_law_trimmed.nd
  refine D.okP sc_law_trimmed (fun vs H Q E h => ?_) (fun f cdv A outer s H vs Q E hr h => ?_)
  · obtain ⟨c, ps, L, rfl, _⟩ := h
    rfl
  · obtain ⟨c, ps, L, rfl, ⟨hc, hl⟩, k⟩ := h
    have hu := hu64 hr
    refine ⟨_, (pss_cons (ps_for PassesOwn.never rfl (pi_range1 rfl T.range (pa_cons (pe_callB (callLenK (K := K) (by rfl)) (by rfl) T.len (by decide +kernel) (pa_cons (pv 0) pa_nil)) pa_nil)) (pg_name (i := 1) nd rfl (Or.inl rfl))
      (pss_one (ps_if (pt_val (pe_ix (ixSeqK (K := K) (by rfl)) (pe_ix (ixSeqK (K := K) (by rfl)) (pv 0) (pv 1) (fun _ _ => rfl)) pe_int (fun _ _ => rfl)))
      (pss_one (ps_ret (pe_slice (slAnyK (K := K) (by rfl)) (pv 0) (po_some (pv 1)) po_none)))
      pss_nil)))
    (pss_one (ps_ret (pe_lst pa_nil)))), ?_⟩
    try dsimp only [L2.cxOf, L2.Cx.nox]
    simp only [L2.start, N_law_trimmed, List.map_cons, List.map_nil, List.length_cons, List.length_nil, Nat.reduceAdd, Nat.reduceSub, List.replicate_succ, List.replicate_zero, List.cons_append, List.nil_append]

    have hpl := hc.len
    walk_at "gos"
    refine Gx.for1 [] (fun i σ' H' => ∃ s1, σ' = [some (.ref c), s1] ∧ ∀ j x, j < i → L[j]? = some x → x.l = false) (by omega) ⟨_, rfl, by simp⟩ ?_ ?_
    · rintro i σ' H' hi e ⟨s1, rfl, hj⟩
      have hc' : ChC H' c ps L := inferInstance
      walk_at "gos"
      refine hc'.ix (by omega) fun p x h1 h2 h3 => ?_
      walk_at "gos"
      · rename_i hI q H2 n2 e2 hq
        rw [Gx.cutFrom] at hq
        rw [trimE_at hj h2 hI] at k
        exact k q _ _ Gx.new Gx.rel (hc'.dp e2 hq.eq)
      · exact Gx.li ⟨_, rfl, fun j y hji hy => by
          by_cases h : j < i
          · exact hj j y h hy
          · obtain rfl : j = i := by omega
            rw [h2] at hy
            cases hy
            simpa using ‹_›⟩
    · rintro σ' H' e ⟨s1, rfl, hj⟩
      walk_at "gos"
      rename_i q H2 n2 e2 hq
      rw [trimE_nil (by intro j x hx; exact hj j x (by omega))] at k
      exact k q _ _ Gx.new Gx.rel (ChC.nil hq.eq)
local macro_rules | `(tactic| walk_at "call") => `(tactic| ((with_reducible show spTmd _ _ _ _); refine ⟨_, _, _, rfl, ⟨inferInstance, by omega⟩, ?_⟩; intro p_ qs_ H_ np_ e_ hC_))
/-- the carries of the law: how many, and the chain behind -/
def moveE (p : Int) : Nat → List LE → Nat × List LE
  | 0, L => (0, L)
  | n + 1, L => match L with
    | [] => (0, [])
    | x :: r => if ((r.length + 1 : Nat) : Int) < p then ((moveE p n (trimE (r ++ [x]))).1 + 1, (moveE p n (trimE (r ++ [x]))).2) else (0, x :: r)
theorem moveE_cons {p : Int} {n : Nat} {x : LE} {r : List LE} : moveE p (n + 1) (x :: r) = if ((r.length + 1 : Nat) : Int) < p then ((moveE p n (trimE (r ++ [x]))).1 + 1, (moveE p n (trimE (r ++ [x]))).2) else (0, x :: r) := rfl
theorem move_en {p : Int} : ∀ {n : Nat} {L : List LE}, carryL p n (L.map LE.en) = ((moveE p n L).1, (moveE p n L).2.map LE.en)
  | 0, _ => rfl
  | n + 1, [] => rfl
  | n + 1, x :: r => by
    show (if (((r.map LE.en).length + 1 : Nat) : Int) < p then _ else _ : Nat × List En) = _
    rw [List.length_map, moveE_cons]
    by_cases h : ((r.length + 1 : Nat) : Int) < p
    · rw [if_pos h, if_pos h, show r.map LE.en ++ [x.en] = (r ++ [x]).map LE.en from by rw [List.map_append]; rfl, trim_en, move_en]
    · rw [if_neg h, if_neg h]
      rfl
theorem moveE_len {p : Int} : ∀ {n : Nat} {L : List LE}, (moveE p n L).2.length ≤ L.length
  | 0, _ => Nat.le_refl _
  | n + 1, [] => Nat.le_refl _
  | n + 1, x :: r => by
    rw [moveE_cons]
    by_cases h : ((r.length + 1 : Nat) : Int) < p
    · have h1 := moveE_len (p := p) (n := n) (L := trimE (r ++ [x]))
      have h2 := trimE_len (r ++ [x])
      rw [List.length_append, List.length_singleton] at h2
      rw [if_pos h, List.length_cons]
      show (moveE p n (trimE (r ++ [x]))).2.length ≤ _
      omega
    · rw [if_neg h]
      exact Nat.le_refl _
def spMvd : Sp := fun vs H Q _ => ∃ (c : Addr) (ps : List Addr) (L : List LE) (p : Int) (n : Nat), vs = [.ref c, .int p, .int (n : Nat)] ∧ (ChC H c ps L ∧ L.length ≤ 500 ∧ n ≤ 1000) ∧
  ∀ t d qs H', Nw H t → Ex H H' → At H' t (.tup [.ref d, .int ((moveE p n L).1 : Nat)]) → ChC H' d qs (moveE p n L).2 → Q (.ref t) H'
abbrev s_law_moved : Stmt := (top 40)
abbrev N_law_moved : List Str := ["_law_chain", "_law_span", "_law_tally_here", "_law_made", "_law_k"]
theorem sc_law_moved : FnScope N_law_moved ["_law_chain", "_law_span", "_law_tally_here"] (defScope s_law_moved) := ⟨rfl, rfl, rfl, by decide +kernel, rfl, by decide +kernel, by decide +kernel⟩
theorem cl_law_moved (T : Bl mg) (Z : EcF P K mg c_StoreError c_InvalidInput c_KeyLimit c_UnknownKey c_BadChoice c_Stalled) (R : RdF K mg c_Round) (W_RingLog : Gx.ClsF K mg c_RingLog "RingLog" ["entries"]) (W_Ring : Gx.ClsF K mg c_Ring "Ring" ["_places", "_limit", "_budgets", "_late", "_readers", "_log", "_done", "_phase", "_carried", "_last_wait", "_opened", "_open"]) (N_KEY : Gx.GlI mg "KEY" 0) (N_VALUE : Gx.GlI mg "VALUE" 1) (N_LIVING : Gx.GlI mg "LIVING" 2) (N_READERS : Gx.GlI mg "READERS" 3) (N_KEY_LENGTH : Gx.GlI mg "KEY_LENGTH" 12) (N_KEY_CHARACTERS : Gx.GlS mg "KEY_CHARACTERS" "abcdefghijklmnopqrstuvwxyz0123456789") (D : DfG K mg "_law_moved" s_law_moved [] []) (C_law_trimmed : ClG CX0 P w K mg base 3 "_law_trimmed" s_law_trimmed ["_law_chain"] [] [] spTmd) : ClG CX0 P w K mg base 5 "_law_moved" s_law_moved ["_law_chain", "_law_span", "_law_tally_here"] [] [] spMvd := by
  have nd := sc_law_moved.nd
  refine D.okP sc_law_moved (fun vs H Q E h => ?_) (fun f cdv A outer s H vs Q E hr h => ?_)
  · obtain ⟨c, ps, L, p, n, rfl, _⟩ := h
    rfl
  · obtain ⟨c, ps, L, p, n, rfl, ⟨hc, hl, hn⟩, k⟩ := h
    have hu := hu64 hr
    refine ⟨_, (pss_cons (ps_set (i := 3) nd rfl (Or.inl rfl) pe_int)
    (pss_cons (ps_for PassesOwn.never rfl (pi_range1 rfl T.range (pa_cons (pv 2) pa_nil)) (pg_name (i := 4) nd rfl (Or.inl rfl))
      (pss_cons (ps_if (PW.pt (pw_or (pt_cmpR (opEqK (K := K) (by rfl) (by exact hu)) (pe_callB (callLenK (K := K) (by rfl)) (by rfl) T.len (by decide +kernel) (pa_cons (pv 0) pa_nil)) pe_int (nomark _)) (pw_or1 (pt_cmpR opGe (pe_callB (callLenK (K := K) (by rfl)) (by rfl) T.len (by decide +kernel) (pa_cons (pv 0) pa_nil)) (pv 1) (nomark _)))))
      (pss_one (ps_ret (pe_tup (pa_cons (pv 0) (pa_cons (pv 3) pa_nil)))))
      pss_nil)
    (pss_cons (ps_set (i := 0) nd rfl (Or.inl rfl) (pe_g C_law_trimmed (by exact hr.mono (by decide)) (E := fun _ => E0) (fun σ => passC0 σ) (fun _ _ _ _ _ _ us hl => match us, hl with | [_], _ => rfl) (pa_cons (pe_op (opAddK (K := K) (by rfl)) (pe_slice (slAnyK (K := K) (by rfl)) (pv 0) (po_some pe_int) po_none) (pe_slice (slAnyK (K := K) (by rfl)) (pv 0) po_none (po_some pe_int))) pa_nil)))
    (pss_one (ps_set (i := 3) nd rfl (Or.inl rfl) (pe_op (opAddK (K := K) (by rfl)) (pv 3) pe_int))))))
    (pss_one (ps_ret (pe_tup (pa_cons (pv 0) (pa_cons (pv 3) pa_nil))))))), ?_⟩
    try dsimp only [L2.cxOf, L2.Cx.nox]
    simp only [L2.start, N_law_moved, List.map_cons, List.map_nil, List.length_cons, List.length_nil, Nat.reduceAdd, Nat.reduceSub, List.replicate_succ, List.replicate_zero, List.cons_append, List.nil_append]

    walk_at "gos"
    refine Gx.for1 [] (fun i σ' H' => ∃ (d : Addr) (qs : List Addr) (M : List LE) (s4 : Option V), σ' = [some (.ref d), some (.int p), some (.int (n : Nat)), some (.int (i : Nat)), s4] ∧ ChC H' d qs M ∧ M.length ≤ L.length ∧ i ≤ n ∧ moveE p n L = ((moveE p (n - i) M).1 + i, (moveE p (n - i) M).2)) (by omega) ⟨c, ps, L, none, rfl, inferInstance, Nat.le_refl _, by omega, rfl⟩ ?_ ?_
    · rintro i σ' H' hi e ⟨d, qs, M, s4, rfl, hd, hM, hin, hmv⟩
      have hql := hd.len
      have hqm : (qs.map V.ref).length = M.length := by rw [List.length_map, hql]
      obtain ⟨m, hm⟩ : ∃ m, n - i = m + 1 := ⟨n - i - 1, by omega⟩
      rw [hm] at hmv
      walk_at "gos"
      · rename_i hI t H2 n2 e2 h2
        obtain rfl : M = [] := List.eq_nil_of_length_eq_zero (by omega)
        have hmv : moveE p n L = (0 + i, []) := hmv
        rw [hmv, Nat.zero_add] at k
        exact k t d qs _ Gx.new Gx.rel h2 inferInstance
      · rename_i hI hJ t H2 n2 e2 h2
        cases M with
        | nil => simp at hqm; simp [hqm] at hI
        | cons x r =>
          rw [moveE_cons, if_neg (by have hcl : (x :: r).length = r.length + 1 := rfl; omega)] at hmv
          have hmv : moveE p n L = (0 + i, x :: r) := hmv
          rw [hmv, Nat.zero_add] at k
          exact k t d qs _ Gx.new Gx.rel h2 inferInstance
      · rename_i hI hJ a H2 n2 e2 ha b H3 n3 e3 hb
        cases M with
        | nil => simp at hqm; simp [hqm] at hI
        | cons x r =>
          rw [Gx.cut1] at ha
          rw [show (some (1 : Int)) = some ((1 : Nat) : Int) from rfl, Gx.cutTo] at hb
          rw [moveE_cons, if_pos (by have hcl : (x :: r).length = r.length + 1 := rfl; omega)] at hmv
          have hmv : moveE p n L = ((moveE p m (trimE (r ++ [x]))).1 + 1 + i, (moveE p m (trimE (r ++ [x]))).2) := hmv
          have hA : ChC H2 a (qs.drop 1) r := hd.dp e2 ha.eq
          have hB : ChC H3 b (qs.take 1) [x] := (show ChC H2 d qs (x :: r) from inferInstance).tk e3 hb.eq
          refine Gx.g_cat (by simp; omega) fun q H4 n4 e4 hq => ?_
          have hC : ChC H4 q (qs.drop 1 ++ qs.take 1) (r ++ [x]) := (show ChC H3 a _ _ from inferInstance : ChC H3 a (qs.drop 1) r).app hB e4 e4 (by rw [List.map_append]; exact hq.eq)
          have hln : (r ++ [x]).length = r.length + 1 := by simp
          rw [List.length_cons] at hM
          walk_at "gos"
          rename_i d2 qs2 H5 n5 e5 hC5
          have htl := trimE_len (r ++ [x])
          exact Gx.li ⟨d2, qs2, trimE (r ++ [x]), _, rfl, hC5, by omega, by omega, by rw [hmv, show n - (i + 1) = m from by omega, Nat.add_assoc, Nat.add_comm 1 i]⟩
    · rintro σ' H' e ⟨d, qs, M, s4, rfl, hd, hM, hin, hmv⟩
      walk_at "gos"
      rename_i t H2 n2 e2 h2
      have hmv : moveE p n L = (n, M) := by
        rw [hmv]
        simp [moveE]
      rw [hmv] at k
      exact k t d qs _ Gx.new Gx.rel (by simpa using h2) inferInstance
local macro_rules | `(tactic| walk_at "call") => `(tactic| ((with_reducible show spMvd _ _ _ _); refine ⟨_, _, _, _, _, rfl, ⟨inferInstance, by omega, by omega⟩, ?_⟩; intro t_ d_ qs_ H_ np_ e_ ht_ hC_))

theorem flat_liv (L : List LE) : (L.map fun (x : LE) => [x.l]).flatten = L.map LE.l := by
  induction L with
  | nil => rfl
  | cons x r ih => rw [List.map_cons, List.flatten_cons, ih]; rfl
theorem str_bit (b : Bool) : Str.ofString (toString (if b = true then (1 : Int) else 0)) = Gx.tx [b] := by cases b <;> decide +kernel
def spWdE : Sp := fun vs H Q _ => ∃ (c : Addr) (ps : List Addr) (L : List LE), vs = [.ref c] ∧ (ChC H c ps L ∧ L.length ≤ 1000) ∧ ∀ H', Ex H H' → Q (.str (Gx.tx (L.map LE.l))) H'
/-- the names that live -/
def livs (L : List LE) : List Str := (L.filter fun e => e.l).map LE.k
theorem livs_len (L : List LE) : (livs L).length ≤ L.length := by unfold livs; rw [List.length_map]; exact List.length_filter_le ..
theorem livs_take {L : List LE} {i : Nat} {x : LE} (h : L[i]? = some x) : livs (L.take (i + 1)) = livs (L.take i) ++ if x.l = true then [x.k] else [] := by
  unfold livs
  rw [List.take_succ, h, List.filter_append, List.map_append]
  congr 1
  cases hx : x.l <;> simp [hx]
local macro_rules | `(tactic| walk_at "call") => `(tactic| ((with_reducible show spWdE _ _ _ _); refine ⟨_, _, _, rfl, ⟨inferInstance, by omega⟩, ?_⟩; intro H_ e_))
/-- where a name lives, counted among the living ones -/
def ixE (z : Str) (L : List LE) : Option Nat := if z ∈ livs L then some ((livs L).idxOf z) else none
theorem inV_str {z : Str} : ∀ zs : List Str, inV (.str z) (zs.map V.str) = decide (z ∈ zs)
  | [] => by simp [inV]
  | n :: r => by
    have ih := inV_str (z := z) r
    unfold inV at *
    rw [List.map_cons, List.any_cons, ih]
    show ((n == z) || decide (z ∈ r)) = _
    rw [Bool.eq_iff_iff]
    simp only [Bool.or_eq_true, beq_iff_eq, decide_eq_true_eq, List.mem_cons]
    exact ⟨fun h => h.imp Eq.symm _root_.id, fun h => h.imp Eq.symm _root_.id⟩
theorem g_inZ {K : PySem.W.Frag} {H : Hp} {Q : VK} {p : Addr} {zs : List Str} {z : Str} [h : SqC K H p (zs.map V.str)] (q : Q (.bl (decide (z ∈ zs))) H) : rIn K false (.str z) (.ref p) H Q :=
  Gx.g_inL rfl flat_strs (inV_str zs) (by rw [if_neg Bool.false_ne_true]; exact q)
theorem g_ninZ {K : PySem.W.Frag} {H : Hp} {Q : VK} {p : Addr} {zs : List Str} {z : Str} [h : SqC K H p (zs.map V.str)] (q : Q (.bl (!decide (z ∈ zs))) H) : rIn K true (.str z) (.ref p) H Q :=
  Gx.g_inL rfl flat_strs (inV_str zs) (by rw [if_pos rfl]; exact q)
theorem g_idxZ {K : PySem.W.Frag} {H : Hp} {Q : VK} {p : Addr} {zs : List Str} {z : Str} [h : SqC K H p (zs.map V.str)] (hz : z ∈ zs) (q : Q (.int (zs.idxOf z : Nat)) H) : rIndex K (.ref p) [.str z] H Q := by
  have hl := List.idxOf_lt_length_of_mem hz
  refine ⟨p, _, _, zs.idxOf z, .str z, rfl, rfl, h.sq, rfl, flat_strs, ?_, ?_, ?_⟩
  · rw [List.getElem?_map, List.getElem?_eq_getElem hl, List.getElem_idxOf]
    rfl
  · show (z == z) = true
    exact beq_self_eq_true z
  · refine ⟨fun m y hm hy => ?_, q⟩
    rw [List.getElem?_map] at hy
    cases hym : zs[m]? with
    | none => rw [hym] at hy; cases hy
    | some w =>
      rw [hym] at hy
      cases hy
      show (w == z) = false
      obtain ⟨hml, rfl⟩ := List.getElem?_eq_some_iff.mp hym
      simpa using List.not_of_lt_findIdx (p := (· == z)) hm
def spIxE : Sp := fun vs H Q _ => ∃ (c : Addr) (ps : List Addr) (L : List LE) (z : Str), vs = [.ref c, .str z] ∧ (ChC H c ps L ∧ L.length ≤ 1000) ∧ ∀ H', Ex H H' → Q (oV (ixE z L)) H'
local macro_rules | `(tactic| walk_at "call") => `(tactic| ((with_reducible show spIxE _ _ _ _); refine ⟨_, _, _, _, rfl, ⟨inferInstance, by omega⟩, ?_⟩; intro H_ e_))

/-- what the law keeps of the ring -/
structure WS where
  T : Tm
  C : List LE
  turn : Int
  dn : Int
  sum : Int
  wait : Int
  bk : Addr
  B : List (Str × Int)
abbrev WS.kvs (W : WS) (c d : Addr) : List (Key × V) := [(.inr "span", .int W.T.p), (.inr "cap", .int W.T.lim), (.inr "cycle", .ref c), (.inr "rear", .bl W.T.lt), (.inr "chain", .ref d), (.inr "book", .ref W.bk), (.inr "turn", .int W.turn), (.inr "done", .int W.dn)]
/-- the book's entries -/
abbrev bookK (B : List (Str × Int)) : List (Key × V) := B.map fun p => (.inr p.1, .int p.2)
local macro_rules | `(tactic| walk_at "call") => `(tactic| first
  | (refine Gx.g_disp ?_; intro p_ H_ n_ e_ h_)
  | (refine Gx.g_dispE (by simp) ?_; intro H_ e_ h_)
  | (refine Gx.g_dnewK ?_; intro p_ H_ n_ e_ h_)
  | (refine Gx.g_dgetK rfl ?_))
def spWld : Sp := fun vs H Q _ => ∃ (t c : Addr) (T : Tm), vs = [.ref t] ∧ (At H t (.lst [.int T.p, .int T.lim, .ref c, .bl T.lt]) ∧ At H c (.lst (T.bs.map V.int))) ∧
  ∀ a d bk H', Nw H a → Nw H d → Nw H bk → Gx.NeC a bk → Ex H H' → At H' a (.dK ((WS.mk T [] 0 0 0 0 bk []).kvs c d)) → ChC H' d [] [] → At H' bk (.dK []) → Q (.ref a) H'
abbrev s_law_world : Stmt := (top 38)
abbrev N_law_world : List Str := ["_law_terms_here"]
theorem sc_law_world : FnScope N_law_world ["_law_terms_here"] (defScope s_law_world) := ⟨rfl, rfl, rfl, by decide +kernel, rfl, by decide +kernel, by decide +kernel⟩
theorem cl_law_world (T : Bl mg) (Z : EcF P K mg c_StoreError c_InvalidInput c_KeyLimit c_UnknownKey c_BadChoice c_Stalled) (R : RdF K mg c_Round) (W_RingLog : Gx.ClsF K mg c_RingLog "RingLog" ["entries"]) (W_Ring : Gx.ClsF K mg c_Ring "Ring" ["_places", "_limit", "_budgets", "_late", "_readers", "_log", "_done", "_phase", "_carried", "_last_wait", "_opened", "_open"]) (N_KEY : Gx.GlI mg "KEY" 0) (N_VALUE : Gx.GlI mg "VALUE" 1) (N_LIVING : Gx.GlI mg "LIVING" 2) (N_READERS : Gx.GlI mg "READERS" 3) (N_KEY_LENGTH : Gx.GlI mg "KEY_LENGTH" 12) (N_KEY_CHARACTERS : Gx.GlS mg "KEY_CHARACTERS" "abcdefghijklmnopqrstuvwxyz0123456789") (D : DfG K mg "_law_world" s_law_world [] [])  : ClG CX0 P w K mg base 3 "_law_world" s_law_world ["_law_terms_here"] [] [] spWld := by
  have nd := sc_law_world.nd
  refine D.okP sc_law_world (fun vs H Q E h => ?_) (fun f cdv A outer s H vs Q E hr h => ?_)
  · obtain ⟨t, c, T, rfl, _⟩ := h
    rfl
  · obtain ⟨t, c, T, rfl, ⟨ht, hc⟩, k⟩ := h
    have hu := hu64 hr
    refine ⟨_, (pss_one (ps_ret (pe_disp (pps_cons pe_str (pe_ix (ixSeqK (K := K) (by rfl)) (pv 0) pe_int (fun _ _ => rfl)) (pps_cons pe_str (pe_ix (ixSeqK (K := K) (by rfl)) (pv 0) pe_int (fun _ _ => rfl)) (pps_cons pe_str (pe_ix (ixSeqK (K := K) (by rfl)) (pv 0) pe_int (fun _ _ => rfl)) (pps_cons pe_str (pe_ix (ixSeqK (K := K) (by rfl)) (pv 0) pe_int (fun _ _ => rfl)) (pps_cons pe_str (pe_lst pa_nil) (pps_cons pe_str pe_dnewK (pps_cons pe_str pe_int (pps_cons pe_str pe_int pps_nil)))))))) (by rfl) (by rfl) (by simp) (by decide)))), ?_⟩
    try dsimp only [L2.cxOf, L2.Cx.nox]
    simp only [L2.start, N_law_world, List.map_cons, List.map_nil, List.length_cons, List.length_nil, Nat.reduceAdd, Nat.reduceSub, List.replicate_succ, List.replicate_zero, List.cons_append, List.nil_append]

    walk_at "gos"
    rename_i a H1 n1 e1 h1 d H2 n2 e2 h2 bk H3 n3 e3 h3 H4 e4 h4
    exact k a d bk H4 Gx.new Gx.new Gx.new inferInstance Gx.rel h4 (ChC.nil (Gx.at_ (p := d)).eq) inferInstance
local macro_rules | `(tactic| walk_at "call") => `(tactic| ((with_reducible show spWld _ _ _ _); refine ⟨_, _, _, rfl, ⟨inferInstance, inferInstance⟩, ?_⟩; intro a_ d_ bk_ H_ na_ nd_ nb_ ne_ e_ ha_ hd_ hb_))

/-- the world at a, the cycle at c, the chain at d -/
class WdC (H : Hp) (a : Addr) (W : outParam WS) (c d : outParam Addr) (ps : outParam (List Addr)) : Prop where
  dic : At H a (.dK (W.kvs c d))
  cyc : At H c (.lst (W.T.bs.map V.int))
  chn : ChC H d ps W.C
section
variable {K : PySem.W.Frag} {H H1 : Hp} {Q : VK} {a c d : Addr} {W : WS} {ps : List Addr}
instance (priority := low) wdStep [r : Chg [] H1 H] [h : WdC H1 a W c d ps] : WdC H a W c d ps := by
  obtain ⟨h1, h2, h3⟩ := h
  exact ⟨inferInstance, inferInstance, inferInstance⟩
end
local macro_rules | `(tactic| walk_at "call") => `(tactic| (refine Gx.g_dgetK rfl ?_))
def relE (z : Str) (L : List LE) : List LE := L.map fun e => ⟨e.k, e.w, e.l && decide (e.k ≠ z)⟩
/-- the chain ahead of the carries -/
def ahdE (W : WS) (z : Str) (w : Option Int) : List LE := trimE (relE z W.C ++ if W.T.lt = true then [⟨z, w, w.isSome⟩] else [])
def othW (W : WS) (z : Str) (w : Option Int) : Int := ((ahdE W z w).countP LE.l : Nat) - (if W.T.lt = true ∧ w.isSome = true then 1 else 0)
def mstW (W : WS) (z : Str) (w : Option Int) : Int := if othW W z w < nth W.T.bs W.turn then othW W z w else nth W.T.bs W.turn
def ChE (H : Hp) (qs : List Addr) (L : List LE) : Prop := qs.length = L.length ∧ ∀ (i : Nat) p, qs[i]? = some p → ∃ e, L[i]? = some e ∧ H p = some (.tup e.vs)
theorem ChE.at {H : Hp} {D : Addr} {qs : List Addr} {L : List LE} (h : ChE H qs L) (hp : H D = some (.lst (qs.map V.ref))) : ChC H D qs L := ⟨hp, h.1, h.2⟩
theorem ChE.snoc {H H2 : Hp} {bs : List Addr} {p : Addr} {qs : List Addr} {L : List LE} {e : LE} (h : ChE H qs L) (r : Chg bs H H2) (hp : H2 p = some (.tup e.vs)) : ChE H2 (qs ++ [p]) (L ++ [e]) := ⟨by rw [List.length_append, List.length_append, h.1]; rfl, fun i q hq => by
  by_cases hi : i < qs.length
  · rw [List.getElem?_append_left hi] at hq
    obtain ⟨x, g1, g2⟩ := h.2 _ q hq
    exact ⟨x, by rw [List.getElem?_append_left (by rw [← h.1]; exact hi)]; exact g1, r.imm _ _ (.inl ⟨_, rfl⟩) g2⟩
  · rw [List.getElem?_append_right (by omega)] at hq
    have hz : i - qs.length = 0 := by
      have := (List.getElem?_eq_some_iff.mp hq).1
      simp at this
      omega
    rw [hz] at hq
    obtain rfl : p = q := by simpa using hq
    exact ⟨e, by rw [List.getElem?_append_right (by rw [← h.1]; omega), ← h.1, hz]; rfl, hp⟩⟩
theorem relE_take {z : Str} {L : List LE} {i : Nat} {x : LE} (h : L[i]? = some x) : relE z (L.take (i + 1)) = relE z (L.take i) ++ [⟨x.k, x.w, x.l && decide (x.k ≠ z)⟩] := by
  unfold relE
  rw [List.take_succ, h, List.map_append]
  rfl
def spAhd : Sp := fun vs H Q _ => ∃ (a : Addr) (W : WS) (c d : Addr) (ps : List Addr) (z : Str) (w : Option Int), vs = [.ref a, .str z, cV w] ∧ (WdC H a W c d ps ∧ W.C.length ≤ 500 ∧ 0 ≤ W.turn ∧ W.turn < (W.T.bs.length : Nat)) ∧
  ∀ t q qs H', Nw H t → Ex H H' → At H' t (.tup [.ref q, .int (mstW W z w)]) → ChC H' q qs (ahdE W z w) → Q (.ref t) H'
abbrev s_law_ahead : Stmt := (top 41)
abbrev N_law_ahead : List Str := ["_law_world_here", "_law_name_here", "_law_worth_here", "_law_chain", "_law_entry", "_law_others"]
theorem sc_law_ahead : FnScope N_law_ahead ["_law_world_here", "_law_name_here", "_law_worth_here"] (defScope s_law_ahead) := ⟨rfl, rfl, rfl, by decide +kernel, rfl, by decide +kernel, by decide +kernel⟩
theorem cl_law_ahead (T : Bl mg) (Z : EcF P K mg c_StoreError c_InvalidInput c_KeyLimit c_UnknownKey c_BadChoice c_Stalled) (R : RdF K mg c_Round) (W_RingLog : Gx.ClsF K mg c_RingLog "RingLog" ["entries"]) (W_Ring : Gx.ClsF K mg c_Ring "Ring" ["_places", "_limit", "_budgets", "_late", "_readers", "_log", "_done", "_phase", "_carried", "_last_wait", "_opened", "_open"]) (N_KEY : Gx.GlI mg "KEY" 0) (N_VALUE : Gx.GlI mg "VALUE" 1) (N_LIVING : Gx.GlI mg "LIVING" 2) (N_READERS : Gx.GlI mg "READERS" 3) (N_KEY_LENGTH : Gx.GlI mg "KEY_LENGTH" 12) (N_KEY_CHARACTERS : Gx.GlS mg "KEY_CHARACTERS" "abcdefghijklmnopqrstuvwxyz0123456789") (D : DfG K mg "_law_ahead" s_law_ahead [] []) (C_law_trimmed : ClG CX0 P w K mg base 3 "_law_trimmed" s_law_trimmed ["_law_chain"] [] [] spTmd) : ClG CX0 P w K mg base 5 "_law_ahead" s_law_ahead ["_law_world_here", "_law_name_here", "_law_worth_here"] [] [] spAhd := by
  have nd := sc_law_ahead.nd
  refine D.okP sc_law_ahead (fun vs H Q E h => ?_) (fun f cdv A outer s H vs Q E hr h => ?_)
  · obtain ⟨a, W, c, d, ps, z, w, rfl, _⟩ := h
    rfl
  · obtain ⟨a, W, c, d, ps, z, w, rfl, ⟨hW, hl, t0, t1⟩, k⟩ := h
    have hu := hu64 hr
    refine ⟨_, (pss_cons (ps_setLc (i := 3) (own := [("_law_entry", 4)]) (g := gName 4) rfl nd rfl rfl (sw_true rfl rfl rfl (by decide +kernel)) (pi_listK (K := K) (by rfl) (pe_dget (hu1 (by exact hu)) (pv 0) pe_str (fun _ _ => rfl))) (blkOk_by (own := [("_law_entry", 4)]) (N := N_law_ahead) (sc := defScope s_law_ahead) (by decide +kernel)) (fun _ _ _ _ _ => (pg_name (i := 4) nd rfl (Or.inl rfl))) (fun _ _ _ _ _ => pts_nil) (fun _ _ _ _ _ => (pe_tup (pa_cons (pe_ix (ixSeqK (K := K) (by rfl)) (pv 4) pe_int (fun _ _ => rfl)) (pa_cons (pe_ix (ixSeqK (K := K) (by rfl)) (pv 4) pe_int (fun _ _ => rfl)) (pa_cons (pe_and (pe_ix (ixSeqK (K := K) (by rfl)) (pv 4) pe_int (fun _ _ => rfl)) (pe_one (pe_cmpR (opNeK (K := K) (by rfl) (by exact hu)) (pe_ix (ixSeqK (K := K) (by rfl)) (pv 4) pe_int (fun _ _ => rfl)) (pv 1) (nomark _)))) pa_nil))))))
    (pss_cons (ps_if (pt_val (pe_dget (hu1 (by exact hu)) (pv 0) pe_str (fun _ _ => rfl)))
      (pss_one (ps_set (i := 3) nd rfl (Or.inl rfl) (pe_op (opAddK (K := K) (by rfl)) (pv 3) (pe_lst (pa_cons (pe_tup (pa_cons (pv 1) (pa_cons (pv 2) (pa_cons (pe_cmpR opNotN (pv 2) pe_non (nomark _)) pa_nil)))) pa_nil)))))
      pss_nil)
    (pss_cons (ps_set (i := 3) nd rfl (Or.inl rfl) (pe_g C_law_trimmed (by exact hr.mono (by decide)) (E := fun _ => E0) (fun σ => passC0 σ) (fun _ _ _ _ _ _ us hl => match us, hl with | [_], _ => rfl) (pa_cons (pv 3) pa_nil)))
    (pss_cons (ps_set (i := 5) nd rfl (Or.inl rfl) (pe_op opSub (pe_callB (callLenK (K := K) (by rfl)) (by rfl) T.len (by decide +kernel) (pa_cons (pe_lc (own := [("_law_entry", 4)]) (g := gName 4) rfl nd (pi_listK (K := K) (by rfl) (pv 3)) (blkOk_by (own := [("_law_entry", 4)]) (N := N_law_ahead) (sc := defScope s_law_ahead) (by decide +kernel)) (fun _ _ _ _ _ => (pg_name (i := 4) nd rfl (Or.inl rfl))) (fun _ _ _ _ _ => (pts_one (pt_val (pe_ix (ixSeqK (K := K) (by rfl)) (pv 4) pe_int (fun _ _ => rfl))))) (fun _ _ _ _ _ => (pv 4))) pa_nil)) (pe_callTy callInt (by rfl) T.int (by decide +kernel) (pa_cons (pe_and (pe_dget (hu1 (by exact hu)) (pv 0) pe_str (fun _ _ => rfl)) (pe_one (pe_cmpR opNotN (pv 2) pe_non (nomark _)))) pa_nil))))
    (pss_one (ps_ret (pe_tup (pa_cons (pv 3) (pa_cons (pe_callB (callMin2 rfl) (by rfl) T.min (by decide +kernel) (pa_cons (pe_ix (ixSeqK (K := K) (by rfl)) (pe_dget (hu1 (by exact hu)) (pv 0) pe_str (fun _ _ => rfl)) (pe_dget (hu1 (by exact hu)) (pv 0) pe_str (fun _ _ => rfl)) (fun _ _ => rfl)) (pa_cons (pv 5) pa_nil))) pa_nil))))))))), ?_⟩
    try dsimp only [L2.cxOf, L2.Cx.nox]
    simp only [L2.start, N_law_ahead, List.map_cons, List.map_nil, List.length_cons, List.length_nil, Nat.reduceAdd, Nat.reduceSub, List.replicate_succ, List.replicate_zero, List.cons_append, List.nil_append]

    obtain ⟨hd, hcy, hch⟩ := hW
    have hpl := hch.len
    walk_at "go"
    refine Gx.lcL_P (fun D i acc H' => ∃ qs : List Addr, acc = qs.map V.ref ∧ ChE H' qs (relE z (W.C.take i))) (fun D H1 _ _ h => ⟨[], rfl, rfl, fun i p hp => by simp at hp⟩) (fun D i v acc H' hv hD e1 hp hA => ?_) (fun D acc H' hD e1 hp hA => ?_)
    · rw [List.getElem?_map] at hv
      cases hpi : ps[i]? with
      | none => rw [hpi] at hv; cases hv
      | some p =>
        rw [hpi] at hv
        cases hv
        obtain ⟨x, hx, hE⟩ := hch.ent i p hpi
        have hE : At H' p (.tup x.vs) := ⟨e1.imm _ _ (.inl ⟨_, rfl⟩) hE⟩
        obtain ⟨qs, rfl, hC⟩ := hA
        have hql := hC.1
        have hrl : (relE z (W.C.take i)).length ≤ 500 := by
          unfold relE
          rw [List.length_map, List.length_take]
          omega
        walk_at "gos"
        all_goals
          rename_i t H7 n7 e7 h7 H8 e8 hq
          have h8 : At H8 t _ := inferInstance
          refine ⟨Gx.rel, _, (List.map_append (f := V.ref) (l₂ := [_])).symm, ?_⟩
          rw [relE_take hx]
          refine hC.snoc (bs := [D]) Gx.rel (h8.eq.trans ?_)
          simp [*]
    · obtain ⟨qs, rfl, hC⟩ := hA
      rw [List.length_map, hpl, List.take_of_length_le (Nat.le_refl _)] at hC
      have hC : ChC H' D qs (relE z W.C) := hC.at hp.eq
      have hql := hC.len
      have hrl : (relE z W.C).length = W.C.length := List.length_map ..
      have hqm : (qs.map V.ref).length = qs.length := List.length_map ..
      walk_at "gos"
      · rename_i hI t H2 n2 e2 h2 b H3 n3 e3 h3 q H4 n4 e4 hq
        have hB : ChC H3 b [t] [⟨z, w, w.isSome⟩] := ChE.at (ChE.snoc (qs := []) (L := []) (bs := []) ⟨rfl, fun i p hp => by simp at hp⟩ (Gx.rel (H := H3) (H' := H3)) (Gx.At.eq (self := (inferInstance : At H3 t _)))) h3.eq
        have hC2 : ChC H4 q (qs ++ [t]) (relE z W.C ++ [⟨z, w, w.isSome⟩]) := (inferInstance : ChC H3 D qs (relE z W.C)).app hB e4 e4 (by rw [List.map_append]; exact hq.eq)
        have hl2 : (relE z W.C ++ [(⟨z, w, w.isSome⟩ : LE)]).length = W.C.length + 1 := by rw [List.length_append, hrl]; rfl
        walk_at "gos"
        rename_i q qs2 H6 n6 e6 hC6
        have hC6 : ChC H6 q qs2 (ahdE W z w) := by
          unfold ahdE
          rw [if_pos hI]
          exact hC6
        have hq2 := hC6.len
        have hla : (ahdE W z w).length ≤ 501 := by
          have h9 := trimE_len (relE z W.C ++ if W.T.lt = true then [⟨z, w, w.isSome⟩] else [])
          have h8 : (if W.T.lt = true then [(⟨z, w, w.isSome⟩ : LE)] else []).length ≤ 1 := by split <;> simp
          rw [List.length_append, show (relE z W.C).length = W.C.length from List.length_map ..] at h9
          unfold ahdE
          omega
        refine Gx.lcL_P (fun D i acc H' => acc.length = ((ahdE W z w).take i).countP LE.l) (fun D H1 _ _ _ => by simp) (fun D i v acc H' hv hD e1 hp hA => ?_) (fun D acc H' hD e1 hp hA => ?_)
        · rw [List.getElem?_map] at hv
          cases hpi : qs2[i]? with
          | none => rw [hpi] at hv; cases hv
          | some p =>
            rw [hpi] at hv
            cases hv
            obtain ⟨x, hx, hE⟩ := hC6.ent i p hpi
            have hE : At H' p (.tup x.vs) := ⟨e1.imm _ _ (.inl ⟨_, rfl⟩) hE⟩
            have hca := List.countP_le_length (p := LE.l) (l := (ahdE W z w).take i)
            have hct := List.length_take_le i (ahdE W z w)
            have hpl9 := (List.getElem?_eq_some_iff.mp hpi).1
            walk_at "gos"
            · exact ⟨Gx.rel, by rw [List.length_append, hA, List.take_succ, hx, List.countP_append]; simp [*]⟩
            · exact ⟨Gx.rel, by rw [hA, List.take_succ, hx, List.countP_append]; simp [*]⟩
        · rw [List.length_map, hq2, List.take_of_length_le (Nat.le_refl _)] at hA
          have hca := List.countP_le_length (p := LE.l) (l := ahdE W z w)
          have hnt : W.T.bs.getD W.turn.toNat 0 = nth W.T.bs W.turn := by unfold nth; rw [Int.emod_eq_of_lt t0 t1]
          walk_at "gos"
          all_goals
            rename_i t9 H9 n9 e9 h9
            first
              | exact absurd ((‹W.T.lt = true›).symm.trans ‹W.T.lt = false›) (by decide)
              | exact k t9 q _ H9 Gx.new Gx.rel (by
                  unfold mstW othW
                  rw [hA, hnt] at h9
                  have h9 := h9
                  first
                    | (simp [*] at h9 ⊢; done)
                    | (simp [*] at h9 ⊢; exact h9)) inferInstance
      · rename_i hJ q0 qs0 H0 n0 e0 hC0
        have hC6 : ChC H0 q0 qs0 (ahdE W z w) := by
          unfold ahdE
          rw [if_neg (by simp [*]), List.append_nil]
          exact hC0
        have hq2 := hC6.len
        have hla : (ahdE W z w).length ≤ 501 := by
          have h9 := trimE_len (relE z W.C ++ if W.T.lt = true then [⟨z, w, w.isSome⟩] else [])
          have h8 : (if W.T.lt = true then [(⟨z, w, w.isSome⟩ : LE)] else []).length ≤ 1 := by split <;> simp
          rw [List.length_append, show (relE z W.C).length = W.C.length from List.length_map ..] at h9
          unfold ahdE
          omega
        refine Gx.lcL_P (fun D i acc H' => acc.length = ((ahdE W z w).take i).countP LE.l) (fun D H1 _ _ _ => by simp) (fun D i v acc H' hv hD e1 hp hA => ?_) (fun D acc H' hD e1 hp hA => ?_)
        · rw [List.getElem?_map] at hv
          cases hpi : qs0[i]? with
          | none => rw [hpi] at hv; cases hv
          | some p =>
            rw [hpi] at hv
            cases hv
            obtain ⟨x, hx, hE⟩ := hC6.ent i p hpi
            have hE : At H' p (.tup x.vs) := ⟨e1.imm _ _ (.inl ⟨_, rfl⟩) hE⟩
            have hca := List.countP_le_length (p := LE.l) (l := (ahdE W z w).take i)
            have hct := List.length_take_le i (ahdE W z w)
            have hpl9 := (List.getElem?_eq_some_iff.mp hpi).1
            walk_at "gos"
            · exact ⟨Gx.rel, by rw [List.length_append, hA, List.take_succ, hx, List.countP_append]; simp [*]⟩
            · exact ⟨Gx.rel, by rw [hA, List.take_succ, hx, List.countP_append]; simp [*]⟩
        · rw [List.length_map, hq2, List.take_of_length_le (Nat.le_refl _)] at hA
          have hca := List.countP_le_length (p := LE.l) (l := ahdE W z w)
          have hnt : W.T.bs.getD W.turn.toNat 0 = nth W.T.bs W.turn := by unfold nth; rw [Int.emod_eq_of_lt t0 t1]
          walk_at "gos"
          all_goals
            rename_i t9 H9 n9 e9 h9
            first
              | exact absurd ((‹W.T.lt = true›).symm.trans ‹W.T.lt = false›) (by decide)
              | exact k t9 q0 _ H9 Gx.new Gx.rel (by
                  unfold mstW othW
                  rw [hA, hnt] at h9
                  have h9 := h9
                  first
                    | (simp [*] at h9 ⊢; done)
                    | (simp [*] at h9 ⊢; exact h9)) inferInstance
local macro_rules | `(tactic| walk_at "call") => `(tactic| ((with_reducible show spAhd _ _ _ _); refine ⟨_, _, _, _, _, _, _, rfl, ⟨inferInstance, by omega, by omega, by omega⟩, ?_⟩; intro t_ q_ qs_ H_ n_ e_ ht_ hC_))

/-! the law's log against the ring's, plainly -/
theorem mem_livs {z : Str} {C : List LE} : z ∈ livs C ↔ ∃ e ∈ C, e.l = true ∧ e.k = z := by
  unfold livs
  rw [List.mem_map]
  constructor
  · rintro ⟨e, he, rfl⟩
    obtain ⟨h1, h2⟩ := List.mem_filter.mp he
    exact ⟨e, h1, h2, rfl⟩
  · rintro ⟨e, h1, h2, h3⟩
    exact ⟨e, List.mem_filter.mpr ⟨h1, h2⟩, h3⟩
theorem livs_cons {x : LE} {r : List LE} : livs (x :: r) = (if x.l = true then [x.k] else []) ++ livs r := by
  unfold livs
  rw [List.filter_cons]
  split <;> rfl
theorem livs_app {A B : List LE} : livs (A ++ B) = livs A ++ livs B := by
  unfold livs
  rw [List.filter_append, List.map_append]
theorem findL_en {z : Str} {C : List LE} : findL z (C.map LE.en) = C.findIdx? fun e => e.l && decide (e.k = z) := by
  unfold findL
  rw [List.findIdx?_map]
  rfl
theorem findL_none {z : Str} {C : List LE} : findL z (C.map LE.en) = none ↔ z ∉ livs C := by
  rw [findL_en, List.findIdx?_eq_none_iff, mem_livs]
  constructor
  · rintro h ⟨e, h1, h2, h3⟩
    have := h e h1
    simp [h2, h3] at this
  · intro h e he
    cases hl : e.l with
    | false => rfl
    | true =>
      rw [Bool.true_and]
      exact decide_eq_false fun hk => h ⟨e, he, hl, hk⟩
theorem cnt_livs (C : List LE) : (C.map LE.en).countP En.l = (livs C).length := by
  unfold livs
  rw [List.length_map, List.countP_map, List.countP_eq_length_filter]
  rfl
theorem cnt_need (C : List LE) : (C.map LE.en).countP En.need = C.countP LE.l := by
  rw [List.countP_map]
  congr 1
  funext e
  exact en_need e
theorem cnt_liv (C : List LE) : C.countP LE.l = (livs C).length := by
  unfold livs
  rw [List.length_map, List.countP_eq_length_filter]
theorem rel_id {z : Str} {C : List LE} (h : z ∉ livs C) : relE z C = C := by
  unfold relE
  conv => rhs; rw [← List.map_id C]
  refine List.map_congr_left fun e he => ?_
  cases hl : e.l with
  | false => cases e; cases hl; rfl
  | true =>
    have : e.k ≠ z := fun hk => h (mem_livs.mpr ⟨e, he, hl, hk⟩)
    cases e
    cases hl
    simp_all
theorem kill_rel {z : Str} : ∀ {C : List LE} {i : Nat}, (livs C).Nodup → findL z (C.map LE.en) = some i → kill (C.map LE.en) i = (relE z C).map LE.en
  | [], i, _, h => by cases h
  | x :: r, i, hn, h => by
    rw [findL_en, List.findIdx?_cons] at h
    rw [livs_cons] at hn
    cases hx : (x.l && decide (x.k = z)) with
    | true =>
      rw [hx, if_pos rfl] at h
      cases h
      simp only [Bool.and_eq_true, decide_eq_true_eq] at hx
      rw [if_pos hx.1] at hn
      have hz : z ∉ livs r := fun hz => (List.nodup_cons.mp hn).1 (hx.2 ▸ hz)
      show kill (x.en :: r.map LE.en) 0 = _
      rw [show relE z (x :: r) = ⟨x.k, x.w, x.l && decide (x.k ≠ z)⟩ :: relE z r from rfl, rel_id hz, hx.2]
      unfold kill LE.en
      simp [hx.2]
    | false =>
      rw [hx, if_neg (by simp)] at h
      rw [← findL_en] at h
      cases hj : findL z (r.map LE.en) with
      | none => rw [hj] at h; cases h
      | some j =>
        rw [hj] at h
        cases h
        have hn2 : (livs r).Nodup := (List.nodup_append.mp hn).2.1
        have ih := kill_rel hn2 hj
        show kill (x.en :: r.map LE.en) (j + 1) = (⟨x.k, x.w, x.l && decide (x.k ≠ z)⟩ : LE).en :: (relE z r).map LE.en
        rw [← ih]
        have hx2 : (x.l && decide (x.k ≠ z)) = x.l := by
          cases hl : x.l with
          | false => rfl
          | true =>
            rw [hl, Bool.true_and] at hx
            have : x.k ≠ z := by simpa using hx
            simpa using this
        rw [hx2]
        rfl
theorem trimE_idem (L : List LE) : trimE (trimE L) = trimE L := by
  induction L with
  | nil => rfl
  | cons x r ih =>
    unfold trimE at *
    by_cases h : x.l = true
    · rw [List.dropWhile_cons_of_neg (by simp [h]), List.dropWhile_cons_of_neg (by simp [h])]
    · rw [List.dropWhile_cons_of_pos (by simp [h])]
      exact ih
theorem livs_trim (L : List LE) : livs (trimE L) = livs L := by
  induction L with
  | nil => rfl
  | cons x r ih =>
    unfold trimE at *
    by_cases h : x.l = true
    · rw [List.dropWhile_cons_of_neg (by simp [h])]
    · rw [List.dropWhile_cons_of_pos (by simp [h]), ih, livs_cons, if_neg h]
      rfl
theorem trimE_mem {L : List LE} {e : LE} (h : e ∈ trimE L) : e ∈ L := (List.dropWhile_sublist _).subset h
theorem trimE_head {x : LE} {r : List LE} (h : trimE (x :: r) = x :: r) : x.l = true := by
  unfold trimE at h
  by_cases hx : x.l = true
  · exact hx
  · rw [List.dropWhile_cons_of_pos (by simp [hx])] at h
    have h1 := congrArg List.length h
    have h2 := (List.dropWhile_sublist (l := r) fun e : LE => !e.l).length_le
    simp at h1
    omega
theorem trimE_app {L M : List LE} (h : trimE L = L) (h0 : L ≠ []) : trimE (L ++ M) = L ++ M := by
  cases L with
  | nil => exact absurd rfl h0
  | cons x r =>
    have := trimE_head h
    unfold trimE
    rw [List.cons_append, List.dropWhile_cons_of_neg (by simp [this])]
theorem trimE_one {L : List LE} {x : LE} (h : trimE L = L) (hx : x.l = true) : trimE (L ++ [x]) = L ++ [x] := by
  cases L with
  | nil =>
    unfold trimE
    rw [List.nil_append, List.dropWhile_cons_of_neg (by simp [hx])]
  | cons y r => exact trimE_app h (by simp)
theorem moveE_trim {p : Int} : ∀ {n : Nat} {L : List LE}, trimE L = L → trimE (moveE p n L).2 = (moveE p n L).2
  | 0, _, h => h
  | n + 1, [], _ => rfl
  | n + 1, x :: r, h => by
    rw [moveE_cons]
    split
    · exact moveE_trim (trimE_idem _)
    · exact h
theorem moveE_perm {p : Int} : ∀ {n : Nat} {L : List LE}, (livs (moveE p n L).2).Perm (livs L)
  | 0, _ => .refl _
  | n + 1, [] => .refl _
  | n + 1, x :: r => by
    rw [moveE_cons]
    split
    · refine (moveE_perm (n := n)).trans ?_
      rw [livs_trim, livs_app, show x :: r = [x] ++ r from rfl, livs_app]
      exact List.perm_append_comm
    · exact .refl _
theorem moveE_mem {p : Int} : ∀ {n : Nat} {L : List LE} {e : LE}, e ∈ (moveE p n L).2 → e ∈ L
  | 0, _, _, h => h
  | n + 1, [], _, h => h
  | n + 1, x :: r, e, h => by
    rw [moveE_cons] at h
    split at h
    · have := trimE_mem (moveE_mem h)
      rcases List.mem_append.mp this with h | h
      · exact List.mem_cons_of_mem _ h
      · rw [List.mem_singleton.mp h]
        exact List.mem_cons_self ..
    · exact h
theorem moveE_le {p : Int} : ∀ {n : Nat} {L : List LE}, (moveE p n L).1 ≤ n
  | 0, _ => Nat.le_refl _
  | n + 1, [] => Nat.zero_le _
  | n + 1, x :: r => by
    rw [moveE_cons]
    split
    · exact Nat.succ_le_succ moveE_le
    · exact Nat.zero_le _
theorem moveE_self {p : Int} : ∀ {n : Nat} {L : List LE}, moveE p (moveE p n L).1 L = moveE p n L
  | 0, _ => rfl
  | n + 1, [] => rfl
  | n + 1, x :: r => by
    rw [moveE_cons]
    by_cases h : ((r.length + 1 : Nat) : Int) < p
    · rw [if_pos h]
      show moveE p ((moveE p n (trimE (r ++ [x]))).1 + 1) (x :: r) = _
      rw [moveE_cons, if_pos h, moveE_self]
    · rw [if_neg h]
      rfl
/-! the state -/
abbrev WS.rs (W : WS) : RS := ⟨W.T.p, W.T.lim, W.T.bs, W.T.lt, W.T.rd, W.C.map LE.en, W.dn, W.turn, W.sum, W.wait, 0, []⟩
structure WOk (n : Int) (W : WS) : Prop where
  tm : TmOk W.T
  nd : (livs W.C).Nodup
  tr : trimE W.C = W.C
  ln : (W.C.length : Int) ≤ W.T.p
  t0 : 0 ≤ W.turn
  t1 : W.turn < (W.T.bs.length : Nat)
  d0 : 0 ≤ W.dn
  d1 : W.dn ≤ n
  s0 : 0 ≤ W.sum
  s1 : W.sum ≤ 100 * n
  w0 : 0 ≤ W.wait
  w1 : W.wait ≤ 100
  en : ∀ e ∈ W.C, KeyOk e.k ∧ (e.l = true → ∃ v, e.w = some v ∧ -(2 ^ 100) < v ∧ v < 2 ^ 100)
theorem WOk.rg {n : Int} {W : WS} (h : WOk n W) (hn : n < 2 ^ 59) : RgOk W.rs := by
  have h1 := h.tm.p2
  have h2 := h.ln
  have h3 := h.d1
  refine ⟨?_, ?_, h.tm.bud.rb, h.t0, h.d0, ?_⟩
  · show (W.C.map LE.en).length ≤ 500
    rw [List.length_map]
    omega
  · show trimL (W.C.map LE.en) = W.C.map LE.en
    rw [trim_en, h.tr]
  · show W.dn < 2 ^ 60
    omega
theorem modify_app {f : En → En} {B : List En} : ∀ {A : List En} {i : Nat}, i < A.length → (A ++ B).modify i f = A.modify i f ++ B
  | [], i, h => absurd h (Nat.not_lt_zero _)
  | x :: r, 0, _ => rfl
  | x :: r, i + 1, h => by
    have ih := modify_app (f := f) (B := B) (A := r) (i := i) (by simpa using h)
    rw [List.cons_append, List.modify_succ_cons, ih, List.modify_succ_cons, List.cons_append]
theorem lg2_en {n : Int} {W : WS} {z : Str} {w : Option Int} (h : WOk n W) : lg2 W.rs (⟨z, w, w.isSome⟩ : LE).en = (ahdE W z w).map LE.en := by
  unfold lg2 lg1 ahdE
  show (match findL z (W.C.map LE.en) with | some i => trimL (kill (if W.T.lt = true then trimL (W.C.map LE.en ++ [(⟨z, w, w.isSome⟩ : LE).en]) else W.C.map LE.en) i) | none => if W.T.lt = true then trimL (W.C.map LE.en ++ [(⟨z, w, w.isSome⟩ : LE).en]) else W.C.map LE.en) = _
  cases hf : findL z (W.C.map LE.en) with
  | none =>
    have hz := findL_none.mp hf
    rw [rel_id hz]
    by_cases hl : W.T.lt = true
    · simp only [if_pos hl]
      rw [show W.C.map LE.en ++ [(⟨z, w, w.isSome⟩ : LE).en] = (W.C ++ [(⟨z, w, w.isSome⟩ : LE)]).map LE.en from by rw [List.map_append]; rfl, trim_en]
    · simp only [if_neg hl]
      rw [List.append_nil, h.tr]
  | some i =>
    have hk := kill_rel h.nd hf
    have hi := findL_lt hf
    have hne : W.C.map LE.en ≠ [] := by
      intro hz
      rw [hz] at hi
      exact absurd hi (Nat.not_lt_zero _)
    have htr : trimL (W.C.map LE.en) = W.C.map LE.en := by rw [trim_en, h.tr]
    by_cases hl : W.T.lt = true
    · simp only [if_pos hl]
      have hka : kill (W.C.map LE.en ++ [(⟨z, w, w.isSome⟩ : LE).en]) i = kill (W.C.map LE.en) i ++ [(⟨z, w, w.isSome⟩ : LE).en] := by
        unfold kill
        exact modify_app hi
      rw [trim_app htr hne, hka, hk, show (relE z W.C).map LE.en ++ [(⟨z, w, w.isSome⟩ : LE).en] = (relE z W.C ++ [(⟨z, w, w.isSome⟩ : LE)]).map LE.en from by rw [List.map_append]; rfl, trim_en]
    · simp only [if_neg hl]
      rw [hk, trim_en, List.append_nil]
theorem oth_en {n : Int} {W : WS} {z : Str} {w : Option Int} (h : WOk n W) (hn : n < 2 ^ 59) : ((oth W.rs (⟨z, w, w.isSome⟩ : LE).en : Nat) : Int) = othW W z w := by
  have hp := lg2_pos (x := (⟨z, w, w.isSome⟩ : LE).en) (h.rg hn)
  unfold oth othW
  show (((if W.T.lt = true ∧ w.isSome = true then (lg2 W.rs (⟨z, w, w.isSome⟩ : LE).en).countP En.need - 1 else (lg2 W.rs (⟨z, w, w.isSome⟩ : LE).en).countP En.need : Nat)) : Int) = _
  by_cases hh : W.T.lt = true ∧ w.isSome = true
  · have := hp hh.1 hh.2 rfl
    rw [if_pos hh, if_pos hh]
    rw [lg2_en h, cnt_need] at this ⊢
    omega
  · rw [if_neg hh, if_neg hh, lg2_en h, cnt_need]
    omega
theorem mst_en {n : Int} {W : WS} {z : Str} {w : Option Int} (h : WOk n W) (hn : n < 2 ^ 59) : mstL W.T.bs W.turn (oth W.rs (⟨z, w, w.isSome⟩ : LE).en) = mstW W z w := by
  unfold mstL mstW
  rw [oth_en h hn]
theorem oth_le {W : WS} {z : Str} {w : Option Int} : othW W z w ≤ (W.C.length : Nat) + 1 := by
  unfold othW
  have h1 := List.countP_le_length (p := LE.l) (l := ahdE W z w)
  have h2 := trimE_len (relE z W.C ++ if W.T.lt = true then [⟨z, w, w.isSome⟩] else [])
  have h3 : (relE z W.C).length = W.C.length := List.length_map ..
  have h4 : (if W.T.lt = true then [(⟨z, w, w.isSome⟩ : LE)] else []).length ≤ 1 := by split <;> simp
  rw [List.length_append, h3] at h2
  have h5 : (ahdE W z w).length ≤ W.C.length + 1 := by
    unfold ahdE
    omega
  split <;> omega
theorem mst_le {W : WS} {z : Str} {w : Option Int} : mstW W z w ≤ othW W z w := by
  unfold mstW
  split <;> omega
theorem mst_0 {n : Int} {W : WS} {z : Str} {w : Option Int} (h : WOk n W) (hn : n < 2 ^ 59) : 0 ≤ mstW W z w := by
  have h1 := oth_en (z := z) (w := w) h hn
  have h2 := nth_b (t := W.turn) h.tm.bud.rb
  unfold mstW
  split <;> omega
def askW (W : WS) (z : Str) (w c : Option Int) : Int := askd c (mstW W z w)
def movW (W : WS) (z : Str) (w c : Option Int) : Nat × List LE := moveE W.T.p (askW W z w c).toNat (ahdE W z w)
def resE (W : WS) (z : Str) (w c : Option Int) : List LE := if W.T.lt = true then (movW W z w c).2 else trimE ((movW W z w c).2 ++ [⟨z, w, w.isSome⟩])
def nextW (W : WS) (z : Str) (w c : Option Int) : WS := { W with C := resE W z w c, turn := (W.turn + 1) % (W.T.bs.length : Nat), dn := W.dn + 1, sum := W.sum + ((movW W z w c).1 : Nat), wait := ((movW W z w c).1 : Nat) }
/-- the deed completes -/
structure Dn (W : WS) (z : Str) (w c : Option Int) : Prop where
  ex : w = none → z ∈ livs W.C
  cap : z ∉ livs W.C → ((livs W.C).length : Int) < W.T.lim
  st1 : W.T.lt = true → (W.C.length : Int) < W.T.p
  a0 : 0 ≤ askW W z w c
  a1 : askW W z w c ≤ mstW W z w
  mv : c.isSome = true → askW W z w c ≤ ((movW W z w c).1 : Nat)
  st2 : W.T.lt = false → ((movW W z w c).2.length : Int) < W.T.p
theorem lg3_en {n : Int} {W : WS} {z : Str} {w c : Option Int} (h : WOk n W) (hn : n < 2 ^ 59) : lg3 W.rs (⟨z, w, w.isSome⟩ : LE).en c = ((movW W z w c).1, (movW W z w c).2.map LE.en) := by
  unfold lg3 wnt
  show carryL W.T.p (askd c (mstL W.T.bs W.turn (oth W.rs (⟨z, w, w.isSome⟩ : LE).en))).toNat (lg2 W.rs (⟨z, w, w.isSome⟩ : LE).en) = _
  rw [mst_en h hn, lg2_en h, move_en]
  rfl
theorem next_en {n : Int} {W : WS} {z : Str} {w c : Option Int} (h : WOk n W) (hn : n < 2 ^ 59) : nextR W.rs (⟨z, w, w.isSome⟩ : LE).en c = (nextW W z w c).rs := by
  have h3 := lg3_en (z := z) (w := w) (c := c) h hn
  have h4 : lg4 W.rs (⟨z, w, w.isSome⟩ : LE).en c = (resE W z w c).map LE.en := by
    unfold lg4 resE
    rw [h3]
    show (if W.T.lt = true then (movW W z w c).2.map LE.en else trimL ((movW W z w c).2.map LE.en ++ [(⟨z, w, w.isSome⟩ : LE).en])) = _
    by_cases hl : W.T.lt = true
    · rw [if_pos hl, if_pos hl]
    · rw [if_neg hl, if_neg hl, ← trim_en, List.map_append]
      rfl
  unfold nextR
  rw [h4, h3]
  rfl
theorem bad_en {n : Int} {W : WS} {z : Str} {w c : Option Int} (h : WOk n W) (hn : n < 2 ^ 59) : badC W.rs (⟨z, w, w.isSome⟩ : LE).en c ↔ ¬ (0 ≤ askW W z w c ∧ askW W z w c ≤ mstW W z w ∧ (c.isSome = true → askW W z w c ≤ ((movW W z w c).1 : Nat))) := by
  unfold badC
  show (∃ i, c = some i ∧ (i < 0 ∨ mstL W.T.bs W.turn (oth W.rs (⟨z, w, w.isSome⟩ : LE).en) < i ∨ ((carryL W.T.p i.toNat (lg2 W.rs (⟨z, w, w.isSome⟩ : LE).en)).1 : Int) < i)) ↔ _
  rw [mst_en h hn, lg2_en h]
  cases c with
  | none =>
    have := mst_0 (z := z) (w := w) h hn
    constructor
    · rintro ⟨i, hi, _⟩
      cases hi
    · intro hh
      exact absurd ⟨this, Int.le_refl _, fun hz => by cases hz⟩ hh
  | some i =>
    have e1 : askW W z w (some i) = i := rfl
    have e2 : (carryL W.T.p i.toNat ((ahdE W z w).map LE.en)).1 = (movW W z w (some i)).1 := by
      rw [move_en]
      rfl
    constructor
    · rintro ⟨j, hj, hh⟩ ⟨g1, g2, g3⟩
      cases hj
      rw [e2] at hh
      have g3 := g3 rfl
      rw [e1] at g1 g2 g3
      omega
    · intro hh
      refine ⟨i, rfl, ?_⟩
      rw [e2]
      refine Decidable.byContradiction fun hc => hh ⟨?_, ?_, fun _ => ?_⟩ <;> rw [e1] <;> omega

/-! the deed keeps the state -/
theorem rel_mem {z : Str} {C : List LE} {e : LE} (h : e ∈ relE z C) : ∃ x ∈ C, e.k = x.k ∧ e.w = x.w ∧ (e.l = true → x.l = true ∧ x.k ≠ z) := by
  unfold relE at h
  obtain ⟨x, hx, rfl⟩ := List.mem_map.mp h
  exact ⟨x, hx, rfl, rfl, fun hl => by simpa using hl⟩
theorem livs_rel {z : Str} (C : List LE) : livs (relE z C) = (livs C).filter fun k => decide (k ≠ z) := by
  induction C with
  | nil => rfl
  | cons x r ih =>
    rw [show relE z (x :: r) = ⟨x.k, x.w, x.l && decide (x.k ≠ z)⟩ :: relE z r from rfl, livs_cons, livs_cons, ih, List.filter_append]
    congr 1
    cases hl : x.l with
    | false => rfl
    | true =>
      by_cases hk : x.k = z <;> simp [hk]
/-- the names behind the deed -/
def livN (W : WS) (z : Str) (w : Option Int) : List Str := (livs W.C).filter (fun k => decide (k ≠ z)) ++ if w.isSome = true then [z] else []
theorem one_livs {z : Str} {w : Option Int} : livs [(⟨z, w, w.isSome⟩ : LE)] = if w.isSome = true then [z] else [] := by
  rw [livs_cons]
  cases w <;> rfl
theorem res_perm {W : WS} {z : Str} {w c : Option Int} : (livs (resE W z w c)).Perm (livN W z w) := by
  unfold resE livN
  by_cases hl : W.T.lt = true
  · rw [if_pos hl]
    refine moveE_perm.trans ?_
    unfold ahdE
    rw [if_pos hl, livs_trim, livs_app, livs_rel, one_livs]
  · rw [if_neg hl, livs_trim, livs_app, one_livs]
    refine List.Perm.append ?_ (.refl _)
    refine moveE_perm.trans ?_
    unfold ahdE
    rw [if_neg hl, List.append_nil, livs_trim, livs_rel]
theorem livN_nd {n : Int} {W : WS} {z : Str} {w : Option Int} (h : WOk n W) : (livN W z w).Nodup := by
  unfold livN
  refine List.nodup_append.mpr ⟨h.nd.filter _, ?_, ?_⟩
  · split <;> simp
  · intro a ha b hb
    split at hb
    · rw [List.mem_singleton.mp hb]
      simpa using (List.mem_filter.mp ha).2
    · cases hb
theorem ahd_mem {W : WS} {z : Str} {w : Option Int} {e : LE} (h : e ∈ ahdE W z w) : e ∈ relE z W.C ∨ e = ⟨z, w, w.isSome⟩ := by
  unfold ahdE at h
  rcases List.mem_append.mp (trimE_mem h) with h | h
  · exact .inl h
  · split at h
    · exact .inr (List.mem_singleton.mp h)
    · cases h
theorem res_mem {W : WS} {z : Str} {w c : Option Int} {e : LE} (h : e ∈ resE W z w c) : e ∈ relE z W.C ∨ e = ⟨z, w, w.isSome⟩ := by
  unfold resE at h
  split at h
  · exact ahd_mem (moveE_mem h)
  · rcases List.mem_append.mp (trimE_mem h) with h | h
    · exact ahd_mem (moveE_mem h)
    · exact .inr (List.mem_singleton.mp h)
theorem ahd_len {n : Int} {W : WS} {z : Str} {w : Option Int} (h : WOk n W) : ((ahdE W z w).length : Int) ≤ W.C.length + if W.T.lt = true then 1 else 0 := by
  have h2 := trimE_len (relE z W.C ++ if W.T.lt = true then [⟨z, w, w.isSome⟩] else [])
  have h3 : (relE z W.C).length = W.C.length := List.length_map ..
  rw [List.length_append, h3] at h2
  unfold ahdE
  split at h2 <;> simp_all <;> omega
theorem ahd_trim {W : WS} {z : Str} {w : Option Int} : trimE (ahdE W z w) = ahdE W z w := trimE_idem _
theorem ask_le {n : Int} {W : WS} {z : Str} {w c : Option Int} (h : WOk n W) (hd : Dn W z w c) : askW W z w c ≤ 65 := by
  have h1 := hd.a1
  have h2 := mst_le (W := W) (z := z) (w := w)
  have h3 := oth_le (W := W) (z := z) (w := w)
  have h4 := h.ln
  have h5 := h.tm.p2
  omega
theorem mov_le {W : WS} {z : Str} {w c : Option Int} (h0 : 0 ≤ askW W z w c) : (((movW W z w c).1 : Nat) : Int) ≤ askW W z w c := by
  have := moveE_le (p := W.T.p) (n := (askW W z w c).toNat) (L := ahdE W z w)
  unfold movW
  omega
def WthOk (w : Option Int) : Prop := ∀ v, w = some v → -(2 ^ 100) < v ∧ v < 2 ^ 100
theorem WOk.next {n : Int} {W : WS} {z : Str} {w c : Option Int} (h : WOk n W) (hz : KeyOk z) (hw : WthOk w) (hd : Dn W z w c) : WOk (n + 1) (nextW W z w c) := by
  have hb1 := h.tm.bud.1
  have ha := ask_le h hd
  have hm := mov_le hd.a0
  have hal := ahd_len (z := z) (w := w) h
  have hml := moveE_len (p := W.T.p) (n := (askW W z w c).toNat) (L := ahdE W z w)
  refine ⟨h.tm, res_perm.nodup_iff.mpr (livN_nd h), ?_, ?_, Int.emod_nonneg _ (by omega), Int.emod_lt_of_pos _ (by omega), ?_, ?_, ?_, ?_, ?_, ?_, ?_⟩
  · show trimE (resE W z w c) = resE W z w c
    unfold resE
    split
    · exact moveE_trim ahd_trim
    · exact trimE_idem _
  · show ((resE W z w c).length : Int) ≤ W.T.p
    unfold resE
    by_cases hl : W.T.lt = true
    · rw [if_pos hl]
      rw [if_pos hl] at hal
      have := hd.st1 hl
      unfold movW
      omega
    · rw [if_neg hl]
      have := hd.st2 (by simpa using hl)
      have h2 := trimE_len ((movW W z w c).2 ++ [⟨z, w, w.isSome⟩])
      rw [List.length_append, List.length_singleton] at h2
      omega
  · show 0 ≤ W.dn + 1
    have := h.d0
    omega
  · show W.dn + 1 ≤ n + 1
    have := h.d1
    omega
  · show 0 ≤ W.sum + ((movW W z w c).1 : Nat)
    have := h.s0
    omega
  · show W.sum + ((movW W z w c).1 : Nat) ≤ 100 * (n + 1)
    have := h.s1
    omega
  · show (0 : Int) ≤ ((movW W z w c).1 : Nat)
    omega
  · show (((movW W z w c).1 : Nat) : Int) ≤ 100
    omega
  · intro e he
    rcases res_mem he with he | rfl
    · obtain ⟨x, hx, h1, h2, h3⟩ := rel_mem he
      rw [h1, h2]
      exact ⟨(h.en x hx).1, fun hl => (h.en x hx).2 (h3 hl).1⟩
    · refine ⟨hz, fun hl => ?_⟩
      obtain ⟨v, rfl⟩ := Option.isSome_iff_exists.mp hl
      exact ⟨v, rfl, hw v rfl⟩
theorem WOk.mono {n m : Int} {W : WS} (h : WOk n W) (hm : n ≤ m) : WOk m W := ⟨h.tm, h.nd, h.tr, h.ln, h.t0, h.t1, h.d0, by have := h.d1; omega, h.s0, by have := h.s1; omega, h.w0, h.w1, h.en⟩
theorem WOk.start {W : WS} (h : TmOk W.T) (hC : W.C = []) (g1 : W.turn = 0) (g2 : W.dn = 0) (g3 : W.sum = 0) (g4 : W.wait = 0) : WOk 0 W := by
  have h1 := h.bud.1
  have h2 := h.p1
  exact ⟨h, by simp [livs, hC], (by rw [hC]; rfl), (by rw [hC]; simp; omega), (by omega), (by omega), (by omega), (by omega), (by omega), (by omega), (by omega), (by omega), fun e he => by rw [hC] at he; cases he⟩
theorem WOk.pl {n : Int} {W : WS} (_ : WOk n W) : Plain W.rs := ⟨rfl, fun en he => by
  obtain ⟨e, _, rfl⟩ := List.mem_map.mp he
  rfl⟩

/-! frames -/
/-- a plain ring -/
class PlainC (S : RS) : Prop where
  out : Plain S
instance {p lim : Int} {bs : List Int} {lt : Bool} {rd : Int} {C : List LE} {dn ph ca lw op : Int} : PlainC ⟨p, lim, bs, lt, rd, C.map LE.en, dn, ph, ca, lw, op, []⟩ := ⟨rfl, fun en he => by
  obtain ⟨e, _, rfl⟩ := List.mem_map.mp he
  rfl⟩
/-- no part of a plain ring -/
class OthC (H : Hp) (b : Addr) : Prop where
  ex : ∃ w, H b = some w ∧ Oth w
/-- no list of references -/
class NrfC (H : Hp) (b : Addr) : Prop where
  ex : ∃ w, H b = some w ∧ ∀ ps : List Addr, w ≠ .lst (ps.map V.ref)
section
variable {K : PySem.W.Frag} {H H1 : Hp} {Q : VK} {a b c d p : Addr} {W : WS} {ps bs : List Addr} {C CL CR : Addr} {S : RS} {L : List LE} {kv : List (Key × V)} {zs : List Str}
instance [h : Bg b H] : OthC H b := ⟨by
  obtain ⟨x, y, z, h⟩ := h.ex
  exact ⟨_, h, .inl ⟨_, _, rfl⟩⟩⟩
instance othWd [h : WdC H a W c d ps] : OthC H a := ⟨_, h.dic.eq, .inr ⟨(fun _ z => by cases z), (fun _ _ _ z => by cases z)⟩⟩
instance [h : OthC H b] : NrfC H b := ⟨by
  obtain ⟨w, h1, h2⟩ := h.ex
  exact ⟨w, h1, fun ps z => oth_refs h2 z.symm⟩⟩
instance [h : RgC C CL CR H a S] : NrfC H a := ⟨by
  obtain ⟨b, d, o, h1, _⟩ := h.ex
  obtain ⟨dx, h1⟩ := h1.ex
  exact ⟨_, h1, fun ps z => by cases z⟩⟩
instance (priority := low) rgFrame [r : Chg [b] H1 H] [o : OthC H1 b] [h : RgC C CL CR H1 a S] [p : PlainC S] : RgC C CL CR H a S := by
  obtain ⟨w, h1, h2⟩ := o.ex
  exact h.frame r h1 h2 p.out
instance (priority := low) chFrame [r : Chg [b] H1 H] [o : NrfC H1 b] [h : ChC H1 c ps L] : ChC H c ps L := by
  obtain ⟨w, h1, h2⟩ := o.ex
  exact h.mv r (keepB r h1 h.lst (h2 ps).symm)
instance (priority := low) wdFrame [r : Chg [b] H1 H] [o : NrfC H1 b] [n : Gx.NeC a b] [m : Gx.NeC c b] [h : WdC H1 a W c d ps] : WdC H a W c d ps := by
  obtain ⟨h1, h2, h3⟩ := h
  exact ⟨inferInstance, inferInstance, inferInstance⟩
instance wdLive [h : WdC H a W c d ps] : Live H a := ⟨⟨_, h.dic.eq⟩⟩
end
/-- ways that meet again in one goal -/
theorem join {C G B : Prop} (h1 : (C → G) → B) (h2 : C → G) : B := h1 h2
instance {c : Option Int} {H : Hp} {Q : VK} : Step (rIsN (cV c) .non H Q) (Q (.bl (!c.isSome)) H) := ⟨fun q => by
  cases c with
  | none => exact ⟨rfl, q⟩
  | some i => exact ⟨rfl, q⟩⟩
theorem g_ninT {K : PySem.W.Frag} {H : Hp} {Q : VK} {p : Addr} {zs : List Str} {z : Str} [h : SqC K H p (zs.map V.str)] (hz : z ∈ zs) (q : Q (.bl false) H) : rIn K true (.str z) (.ref p) H Q := g_ninZ (by rw [decide_eq_true hz]; exact q)
theorem g_ninF {K : PySem.W.Frag} {H : Hp} {Q : VK} {p : Addr} {zs : List Str} {z : Str} [h : SqC K H p (zs.map V.str)] (hz : z ∉ zs) (q : Q (.bl true) H) : rIn K true (.str z) (.ref p) H Q := g_ninZ (by rw [decide_eq_false hz]; exact q)
theorem use_ahd {a c d : Addr} {W : WS} {ps : List Addr} {z : Str} {w : Option Int} {n : Int} {vw : V} {H : Hp} {Q : VK} {E : XK} [h : WdC H a W c d ps] (hv : vw = cV w) (hok : WOk n W) (hn : n < 2 ^ 59)
    (k : ∀ t q qs H' (m : Nat), Nw H t → Ex H H' → At H' t (.tup [.ref q, .int (m : Nat)]) → ChC H' q qs (ahdE W z w) → mstW W z w = (m : Nat) → m ≤ 65 → (ahdE W z w).length ≤ 65 → Q (.ref t) H') : spAhd ([.ref a, .str z, vw] ++ []) H Q E := by
  have h1 := hok.ln
  have h2 := hok.tm.p2
  have h3 := mst_0 (z := z) (w := w) hok hn
  have h4 := oth_le (W := W) (z := z) (w := w)
  have h5 := mst_le (W := W) (z := z) (w := w)
  have h6 := ahd_len (z := z) (w := w) hok
  refine ⟨a, W, c, d, ps, z, w, by rw [hv]; rfl, ⟨h, by omega, hok.t0, hok.t1⟩, fun t q qs H' n1 e1 g1 g2 => ?_⟩
  refine k t q qs H' (mstW W z w).toNat n1 e1 ?_ g2 (by omega) (by omega) (by split at h6 <;> omega)
  rw [Int.toNat_of_nonneg h3]
  exact g1
theorem use_mvd {c : Addr} {ps : List Addr} {L : List LE} {p i : Int} {H : Hp} {Q : VK} {E : XK} [h : ChC H c ps L] (hl : L.length ≤ 500) (h0 : 0 ≤ i) (h1 : i ≤ 1000)
    (k : ∀ t d qs H', Nw H t → Ex H H' → At H' t (.tup [.ref d, .int ((moveE p i.toNat L).1 : Nat)]) → ChC H' d qs (moveE p i.toNat L).2 → qs.length = (moveE p i.toNat L).2.length → qs.length ≤ L.length → Q (.ref t) H') : spMvd ([.ref c, .int p, .int i] ++ []) H Q E :=
  ⟨c, ps, L, p, i.toNat, by rw [Int.toNat_of_nonneg h0]; rfl, ⟨h, hl, by omega⟩, fun t d qs H' n1 e1 g1 g2 => k t d qs H' n1 e1 g1 g2 g2.len (by rw [g2.len]; exact moveE_len)⟩
local macro_rules | `(tactic| walk_at "call") => `(tactic| first
  | (refine Gx.g_dgetK rfl ?_)
  | (refine g_ninT (by assumption) ?_)
  | (refine g_ninF (by assumption) ?_)
  | ((with_reducible show spMvd _ _ _ _); refine use_mvd (by omega) (by omega) (by omega) ?_; intro t_ d_ qs_ H_ np_ e_ ht_ hC_ hl_ hl2_))
local macro_rules | `(tactic| walk_at "dead") => `(tactic| first | (exfalso; omega) | contradiction | exact absurd ((‹Tm.lt (WS.T _) = true›).symm.trans ‹Tm.lt (WS.T _) = false›) (by decide))
section
variable {W : WS} {z : Str} {w c : Option Int} {i : Int} {m k : Nat}
theorem nd_ex (hw : (!w.isSome) = true) (hz : z ∉ livs W.C) : ¬ Dn W z w c := fun h => hz (h.ex (by cases w <;> simp_all))
theorem nd_cap (hz : z ∉ livs W.C) (h : W.T.lim ≤ ((livs W.C).length : Nat)) : ¬ Dn W z w c := fun hd => by have := hd.cap hz; omega
theorem nd_st1 (hl : W.T.lt = true) (hk : k = W.C.length) (h : W.T.p ≤ (k : Nat)) : ¬ Dn W z w c := fun hd => by have := hd.st1 hl; omega
theorem nd_a0 (h : i < 0) : ¬ Dn W z w (some i) := fun hd => by have h2 : 0 ≤ i := hd.a0; omega
theorem nd_a1 (hm : mstW W z w = (m : Nat)) (h : (m : Int) < i) : ¬ Dn W z w (some i) := fun hd => by have h2 : i ≤ mstW W z w := hd.a1; omega
theorem nd_mv (h : ((moveE W.T.p i.toNat (ahdE W z w)).1 : Int) < i) : ¬ Dn W z w (some i) := fun hd => by have h2 : i ≤ ((moveE W.T.p i.toNat (ahdE W z w)).1 : Nat) := hd.mv rfl; omega
theorem nd_2s (hl : W.T.lt = false) (hk : k = (moveE W.T.p i.toNat (ahdE W z w)).2.length) (h : W.T.p ≤ (k : Nat)) : ¬ Dn W z w (some i) := fun hd => by have h2 : ((moveE W.T.p i.toNat (ahdE W z w)).2.length : Int) < W.T.p := hd.st2 hl; omega
theorem mov_n (hm : mstW W z w = (m : Nat)) : movW W z w none = moveE W.T.p ((m : Nat) : Int).toNat (ahdE W z w) := by
  unfold movW askW
  rw [← hm]
  rfl
theorem nd_2n (hm : mstW W z w = (m : Nat)) (hl : W.T.lt = false) (hk : k = (moveE W.T.p ((m : Nat) : Int).toNat (ahdE W z w)).2.length) (h : W.T.p ≤ (k : Nat)) : ¬ Dn W z w none := fun hd => by have h2 := hd.st2 hl; rw [mov_n hm] at h2; omega
theorem res_l (hl : W.T.lt = true) : resE W z w c = (movW W z w c).2 := if_pos hl
theorem res_e (hl : W.T.lt = false) : resE W z w c = trimE ((movW W z w c).2 ++ [⟨z, w, w.isSome⟩]) := if_neg (by simp [hl])
end
theorem cV_n : cV none = .non := rfl
theorem cV_s {i : Int} : cV (some i) = .int i := rfl
theorem use_tmdA {d p t : Addr} {qs : List Addr} {L : List LE} {e : LE} {H1 H : Hp} {Q : VK} {E : XK} (hC : ChC H1 d qs L) (r : Chg [] H1 H) [ht : At H t (.tup e.vs)] (hp : At H p (.lst (qs.map V.ref ++ [V.ref t]))) (hl : L.length ≤ 500)
    (k : ∀ u us H', Nw H u → Ex H H' → ChC H' u us (trimE (L ++ [e])) → Q (.ref u) H') : spTmd ([.ref p] ++ []) H Q E := by
  have h : ChC H p (qs ++ [t]) (L ++ [e]) := ChE.at (ChE.snoc (bs := []) ⟨hC.len, hC.ent⟩ r ht.eq) (by rw [List.map_append]; exact hp.eq)
  exact ⟨p, _, _, rfl, ⟨h, by rw [List.length_append]; simp; omega⟩, fun u us H' n1 e1 g1 => k u us H' n1 e1 g1⟩
theorem mov_s {W : WS} {z : Str} {w : Option Int} {i : Int} : movW W z w (some i) = moveE W.T.p i.toNat (ahdE W z w) := rfl
theorem dn_n {W : WS} {z : Str} {w : Option Int} {m : Nat} (g1 : w = none → z ∈ livs W.C) (g2 : z ∉ livs W.C → ((livs W.C).length : Int) < W.T.lim) (g3 : W.T.lt = true → (W.C.length : Int) < W.T.p) (hm : mstW W z w = (m : Nat))
    (h4 : W.T.lt = false → ((moveE W.T.p ((m : Nat) : Int).toNat (ahdE W z w)).2.length : Int) < W.T.p) : Dn W z w none :=
  ⟨g1, g2, g3, by show 0 ≤ mstW W z w; omega, Int.le_refl _, (fun h => by cases h), fun hl => by rw [mov_n hm]; exact h4 hl⟩
theorem dn_s {W : WS} {z : Str} {w : Option Int} {m : Nat} {i : Int} (g1 : w = none → z ∈ livs W.C) (g2 : z ∉ livs W.C → ((livs W.C).length : Int) < W.T.lim) (g3 : W.T.lt = true → (W.C.length : Int) < W.T.p) (hm : mstW W z w = (m : Nat))
    (a0 : ¬ i < 0) (a1 : ¬ (m : Int) < i) (a2 : ¬ ((moveE W.T.p i.toNat (ahdE W z w)).1 : Int) < i) (h4 : W.T.lt = false → ((moveE W.T.p i.toNat (ahdE W z w)).2.length : Int) < W.T.p) : Dn W z w (some i) :=
  ⟨g1, g2, g3, by show 0 ≤ i; omega, by show i ≤ mstW W z w; omega, fun _ => by show i ≤ ((moveE W.T.p i.toNat (ahdE W z w)).1 : Nat); omega, h4⟩
theorem lt_no {W : WS} {B : Prop} (h : W.T.lt = true) : W.T.lt = false → B := fun h2 => absurd (h.symm.trans h2) (by decide)
def spDue : Sp := fun vs H Q _ => ∃ (a : Addr) (W : WS) (c0 d : Addr) (ps : List Addr) (z : Str) (w c : Option Int) (n : Int), vs = [.ref a, .str z, cV w, cV c] ∧ (WdC H a W c0 d ps ∧ WOk n W ∧ n < 2 ^ 59 ∧ TlOk c) ∧
  (Dn W z w c → ∀ t q qs H', Nw H t → Ex H H' → At H' t (.tup [.str "done", .non, .ref q, .int ((movW W z w c).1 : Nat)]) → ChC H' q qs (resE W z w c) → Q (.ref t) H') ∧
  (¬ Dn W z w c → ∀ (t : Addr) (s : Str) (x y : V) H', Nw H t → Ex H H' → At H' t (.tup [.str s, x, y, .int 0]) → s ≠ "done" → Q (.ref t) H')
abbrev s_law_due : Stmt := (top 42)
abbrev N_law_due : List Str := ["_law_world_here", "_law_name_here", "_law_worth_here", "_law_tally_here", "_law_chain", "_law_lived", "_law_entry", "_law_ahead_here", "_law_asked", "_law_moved_here"]
theorem sc_law_due : FnScope N_law_due ["_law_world_here", "_law_name_here", "_law_worth_here", "_law_tally_here"] (defScope s_law_due) := ⟨rfl, rfl, rfl, by decide +kernel, rfl, by decide +kernel, by decide +kernel⟩
theorem cl_law_due (T : Bl mg) (Z : EcF P K mg c_StoreError c_InvalidInput c_KeyLimit c_UnknownKey c_BadChoice c_Stalled) (R : RdF K mg c_Round) (W_RingLog : Gx.ClsF K mg c_RingLog "RingLog" ["entries"]) (W_Ring : Gx.ClsF K mg c_Ring "Ring" ["_places", "_limit", "_budgets", "_late", "_readers", "_log", "_done", "_phase", "_carried", "_last_wait", "_opened", "_open"]) (N_KEY : Gx.GlI mg "KEY" 0) (N_VALUE : Gx.GlI mg "VALUE" 1) (N_LIVING : Gx.GlI mg "LIVING" 2) (N_READERS : Gx.GlI mg "READERS" 3) (N_KEY_LENGTH : Gx.GlI mg "KEY_LENGTH" 12) (N_KEY_CHARACTERS : Gx.GlS mg "KEY_CHARACTERS" "abcdefghijklmnopqrstuvwxyz0123456789") (D : DfG K mg "_law_due" s_law_due [] []) (C_law_trimmed : ClG CX0 P w K mg base 3 "_law_trimmed" s_law_trimmed ["_law_chain"] [] [] spTmd) (C_law_moved : ClG CX0 P w K mg base 5 "_law_moved" s_law_moved ["_law_chain", "_law_span", "_law_tally_here"] [] [] spMvd) (C_law_ahead : ClG CX0 P w K mg base 5 "_law_ahead" s_law_ahead ["_law_world_here", "_law_name_here", "_law_worth_here"] [] [] spAhd) : ClG CX0 P w K mg base 7 "_law_due" s_law_due ["_law_world_here", "_law_name_here", "_law_worth_here", "_law_tally_here"] [] [] spDue := by
  have nd := sc_law_due.nd
  refine D.okP sc_law_due (fun vs H Q E h => ?_) (fun f cdv A outer s H vs Q E hr h => ?_)
  · obtain ⟨a, W, c0, d, ps, z, w, c, n, rfl, _⟩ := h
    rfl
  · obtain ⟨a, W, c0, d, ps, z, w, c, n, rfl, ⟨hW, hok, hn, hc⟩, k1, k2⟩ := h
    have hu := hu64 hr
    refine ⟨_, (pss_cons (ps_set (i := 4) nd rfl (Or.inl rfl) (pe_dget (hu1 (by exact hu)) (pv 0) pe_str (fun _ _ => rfl)))
    (pss_cons (ps_setLc (i := 5) (own := [("_law_entry", 6)]) (g := gName 6) rfl nd rfl rfl (sw_true rfl rfl rfl (by decide +kernel)) (pi_listK (K := K) (by rfl) (pv 4)) (blkOk_by (own := [("_law_entry", 6)]) (N := N_law_due) (sc := defScope s_law_due) (by decide +kernel)) (fun _ _ _ _ _ => (pg_name (i := 6) nd rfl (Or.inl rfl))) (fun _ _ _ _ _ => (pts_one (pt_val (pe_ix (ixSeqK (K := K) (by rfl)) (pv 6) pe_int (fun _ _ => rfl))))) (fun _ _ _ _ _ => (pe_ix (ixSeqK (K := K) (by rfl)) (pv 6) pe_int (fun _ _ => rfl))))
    (pss_cons (ps_if (PW.pt (pw_and (pt_cmpR opIsN (pv 2) pe_non (nomark _)) (pw_and1 (pt_cmpR (opNotInK (K := K) (by rfl)) (pv 1) (pv 5) (by rfl)))))
      (pss_one (ps_ret (pe_tup (pa_cons pe_str (pa_cons (pv 1) (pa_cons (pv 4) (pa_cons pe_int pa_nil)))))))
      pss_nil)
    (pss_cons (ps_if (PW.pt (pw_and (pt_cmpR (opNotInK (K := K) (by rfl)) (pv 1) (pv 5) (by rfl)) (pw_and1 (pt_cmpR opGe (pe_callB (callLenK (K := K) (by rfl)) (by rfl) T.len (by decide +kernel) (pa_cons (pv 5) pa_nil)) (pe_dget (hu1 (by exact hu)) (pv 0) pe_str (fun _ _ => rfl)) (nomark _)))))
      (pss_one (ps_ret (pe_tup (pa_cons pe_str (pa_cons (pe_dget (hu1 (by exact hu)) (pv 0) pe_str (fun _ _ => rfl)) (pa_cons (pv 4) (pa_cons pe_int pa_nil)))))))
      pss_nil)
    (pss_cons (ps_if (PW.pt (pw_and (pt_val (pe_dget (hu1 (by exact hu)) (pv 0) pe_str (fun _ _ => rfl))) (pw_and1 (pt_cmpR opGe (pe_callB (callLenK (K := K) (by rfl)) (by rfl) T.len (by decide +kernel) (pa_cons (pv 4) pa_nil)) (pe_dget (hu1 (by exact hu)) (pv 0) pe_str (fun _ _ => rfl)) (nomark _)))))
      (pss_one (ps_ret (pe_tup (pa_cons pe_str (pa_cons (pe_dget (hu1 (by exact hu)) (pv 0) pe_str (fun _ _ => rfl)) (pa_cons (pv 4) (pa_cons pe_int pa_nil)))))))
      pss_nil)
    (pss_cons (ps_set (i := 7) nd rfl (Or.inl rfl) (pe_g C_law_ahead (by exact hr.mono (by decide)) (E := fun _ => E0) (fun σ => passC0 σ) (fun _ _ _ _ _ _ us hl => match us, hl with | [_, _, _], _ => rfl) (pa_cons (pv 0) (pa_cons (pv 1) (pa_cons (pv 2) pa_nil)))))
    (pss_cons (ps_set (i := 8) nd rfl (Or.inl rfl) (pe_ix (ixSeqK (K := K) (by rfl)) (pv 7) pe_int (fun _ _ => rfl)))
    (pss_cons (ps_if (pt_cmpR opNotN (pv 3) pe_non (nomark _))
      (pss_one (ps_set (i := 8) nd rfl (Or.inl rfl) (pv 3)))
      pss_nil)
    (pss_cons (ps_if (PW.pt (pw_or (pt_cmpR opLt (pv 8) pe_int (nomark _)) (pw_or1 (pt_cmpR opGt (pv 8) (pe_ix (ixSeqK (K := K) (by rfl)) (pv 7) pe_int (fun _ _ => rfl)) (nomark _)))))
      (pss_one (ps_ret (pe_tup (pa_cons pe_str (pa_cons (pv 8) (pa_cons (pv 4) (pa_cons pe_int pa_nil)))))))
      pss_nil)
    (pss_cons (ps_set (i := 9) nd rfl (Or.inl rfl) (pe_g C_law_moved (by exact hr.mono (by decide)) (E := fun _ => E0) (fun σ => passC0 σ) (fun _ _ _ _ _ _ us hl => match us, hl with | [_, _, _], _ => rfl) (pa_cons (pe_ix (ixSeqK (K := K) (by rfl)) (pv 7) pe_int (fun _ _ => rfl)) (pa_cons (pe_dget (hu1 (by exact hu)) (pv 0) pe_str (fun _ _ => rfl)) (pa_cons (pv 8) pa_nil)))))
    (pss_cons (ps_if (PW.pt (pw_and (pt_cmpR opNotN (pv 3) pe_non (nomark _)) (pw_and1 (pt_cmpR opLt (pe_ix (ixSeqK (K := K) (by rfl)) (pv 9) pe_int (fun _ _ => rfl)) (pv 8) (nomark _)))))
      (pss_one (ps_ret (pe_tup (pa_cons pe_str (pa_cons (pv 8) (pa_cons (pv 4) (pa_cons pe_int pa_nil)))))))
      pss_nil)
    (pss_cons (ps_if (pt_val (pe_dget (hu1 (by exact hu)) (pv 0) pe_str (fun _ _ => rfl)))
      (pss_one (ps_ret (pe_tup (pa_cons pe_str (pa_cons pe_non (pa_cons (pe_ix (ixSeqK (K := K) (by rfl)) (pv 9) pe_int (fun _ _ => rfl)) (pa_cons (pe_ix (ixSeqK (K := K) (by rfl)) (pv 9) pe_int (fun _ _ => rfl)) pa_nil)))))))
      pss_nil)
    (pss_cons (ps_if (pt_cmpR opGe (pe_callB (callLenK (K := K) (by rfl)) (by rfl) T.len (by decide +kernel) (pa_cons (pe_ix (ixSeqK (K := K) (by rfl)) (pv 9) pe_int (fun _ _ => rfl)) pa_nil)) (pe_dget (hu1 (by exact hu)) (pv 0) pe_str (fun _ _ => rfl)) (nomark _))
      (pss_one (ps_ret (pe_tup (pa_cons pe_str (pa_cons (pe_dget (hu1 (by exact hu)) (pv 0) pe_str (fun _ _ => rfl)) (pa_cons (pv 4) (pa_cons pe_int pa_nil)))))))
      pss_nil)
    (pss_one (ps_ret (pe_tup (pa_cons pe_str (pa_cons pe_non (pa_cons (pe_g C_law_trimmed (by exact hr.mono (by decide)) (E := fun _ => E0) (fun σ => passC0 σ) (fun _ _ _ _ _ _ us hl => match us, hl with | [_], _ => rfl) (pa_cons (pe_op (opAddK (K := K) (by rfl)) (pe_ix (ixSeqK (K := K) (by rfl)) (pv 9) pe_int (fun _ _ => rfl)) (pe_lst (pa_cons (pe_tup (pa_cons (pv 1) (pa_cons (pv 2) (pa_cons (pe_cmpR opNotN (pv 2) pe_non (nomark _)) pa_nil)))) pa_nil))) pa_nil)) (pa_cons (pe_ix (ixSeqK (K := K) (by rfl)) (pv 9) pe_int (fun _ _ => rfl)) pa_nil)))))))))))))))))))), ?_⟩
    try dsimp only [L2.cxOf, L2.Cx.nox]
    simp only [L2.start, N_law_due, List.map_cons, List.map_nil, List.length_cons, List.length_nil, Nat.reduceAdd, Nat.reduceSub, List.replicate_succ, List.replicate_zero, List.cons_append, List.nil_append]

    obtain ⟨hd, hcy, hch⟩ := (show WdC H a W c0 d ps from hW)
    have hpl := hch.len
    walk_at "go"
    refine Gx.lcL_F (fun i => (livs (W.C.take i)).map V.str) rfl (fun i hi => by
      have hln := hok.ln
      have hp2 := hok.tm.p2
      have := livs_len (W.C.take i)
      have h2 := List.length_take_le' i W.C
      rw [List.length_map]
      omega) (fun D i v H' hv hD e1 hp hz => ?_) (fun D H' hD e1 hp => ?_)
    · rw [List.getElem?_map] at hv
      cases hpi : ps[i]? with
      | none => rw [hpi] at hv; cases hv
      | some p =>
        rw [hpi] at hv
        cases hv
        obtain ⟨x, hx, hE⟩ := hch.ent i p hpi
        have hE : At H' p (.tup x.vs) := ⟨e1.imm _ _ (.inl ⟨_, rfl⟩) hE⟩
        walk_at "gos"
        · exact ⟨Gx.rel, by rw [livs_take hx, List.map_append]; simp [*]⟩
        · exact ⟨Gx.rel, by rw [livs_take hx, List.map_append]; simp [*]⟩
    · rw [List.length_map, hpl, List.take_of_length_le (Nat.le_refl _)] at hp
      apply join (C := (w = none → z ∈ livs W.C) ∧ (z ∉ livs W.C → ((livs W.C).length : Int) < W.T.lim) ∧ (W.T.lt = true → (W.C.length : Int) < W.T.p))
      case' h1 =>
        intro hG
        by_cases hz : z ∈ livs W.C
        case' pos => walk_at "gos"
        case' neg => walk_at "gos"
        all_goals try first
          | exact hG ⟨fun _ => hz, fun h => absurd hz h, fun h => by omega⟩
          | exact hG ⟨fun _ => hz, fun h => absurd hz h, fun h => absurd (h.symm.trans ‹W.T.lt = false›) (by decide)⟩
          | exact hG ⟨fun h => absurd ‹(!w.isSome) = false› (by rw [h]; decide), fun _ => by omega, fun h => by omega⟩
          | exact hG ⟨fun h => absurd ‹(!w.isSome) = false› (by rw [h]; decide), fun _ => by omega, fun h => absurd (h.symm.trans ‹W.T.lt = false›) (by decide)⟩
          | exact k2 (nd_ex ‹_› hz) _ _ _ _ _ Gx.new Gx.rel (by assumption) (by decide)
          | exact k2 (nd_cap hz ‹_›) _ _ _ _ _ Gx.new Gx.rel (by assumption) (by decide)
          | exact k2 (nd_st1 ‹_› hpl ‹_›) _ _ _ _ _ Gx.new Gx.rel (by assumption) (by decide)
      rintro ⟨g1, g2, g3⟩
      refine use_ahd (w := w) rfl hok hn fun t q qs H9 m n9 e9 ht hC hm hm2 hla => ?_
      cases c
      all_goals simp only [cV_n, cV_s]
      all_goals walk_at "gos"
      all_goals try first
        | exact k2 (nd_a0 ‹_›) _ _ _ _ _ Gx.new Gx.rel (by assumption) (by decide)
        | exact k2 (nd_a1 hm ‹_›) _ _ _ _ _ Gx.new Gx.rel (by assumption) (by decide)
        | exact k2 (nd_mv ‹_›) _ _ _ _ _ Gx.new Gx.rel (by assumption) (by decide)
        | exact k2 (nd_2s ‹_› ‹_› ‹_›) _ _ _ _ _ Gx.new Gx.rel (by assumption) (by decide)
        | exact k2 (nd_2n hm ‹_› ‹_› ‹_›) _ _ _ _ _ Gx.new Gx.rel (by assumption) (by decide)
        | exact k1 (dn_n g1 g2 g3 hm (lt_no ‹_›)) _ _ _ _ Gx.new Gx.rel (by rw [mov_n hm]; assumption) (by rw [res_l ‹_›, mov_n hm]; infer_instance)
        | exact k1 (dn_s g1 g2 g3 hm ‹_› ‹_› ‹_› (lt_no ‹_›)) _ _ _ _ Gx.new Gx.rel (by rw [mov_s]; assumption) (by rw [res_l ‹_›, mov_s]; infer_instance)
      all_goals refine use_tmdA (e := ⟨z, w, w.isSome⟩) ‹ChC _ _ _ (moveE _ _ _).2› Gx.rel ‹_› (by omega) fun u us H7 n7 e7 h7 => ?_
      all_goals walk_at "gos"
      · exact k1 (dn_n g1 g2 g3 hm fun _ => by omega) _ _ _ _ Gx.new Gx.rel (by rw [mov_n hm]; assumption) (by rw [res_e ‹_›, mov_n hm]; infer_instance)
      · exact k1 (dn_s g1 g2 g3 hm ‹_› ‹_› ‹_› fun _ => by omega) _ _ _ _ Gx.new Gx.rel (by rw [mov_s]; assumption) (by rw [res_e ‹_›, mov_s]; infer_instance)

/-! lists of texts against the empty one -/
theorem key_sok {z : Str} (h : KeyOk z) : PyData.strOk z = true := by
  unfold PyData.strOk
  rw [← Array.all_toList, List.all_eq_true]
  intro c hc
  have h1 : ∀ c ∈ ("abcdefghijklmnopqrstuvwxyz0123456789" : Str).cps.toList, c < 0x110000 := by decide +kernel
  exact decide_eq_true (h1 c (h.2.2 c hc))
theorem dpStrs {K : PySem.W.Frag} {H : Hp} : ∀ zs : List Str, DpAll K H (zs.map V.str) (zs.map PyData.str)
  | [] => .nil
  | z :: r => .cons (.str z) (dpStrs r)
theorem shp_strs : ∀ {zs : List Str}, (∀ z ∈ zs, KeyOk z) → PyData.canLayAll0 (zs.map PyData.str) = true ∧ PyData.depthAll (zs.map PyData.str) ≤ 1
  | [], _ => ⟨rfl, Nat.zero_le _⟩
  | z :: r, h => by
    obtain ⟨h1, h2⟩ := shp_strs (zs := r) fun x hx => h x (List.mem_cons_of_mem _ hx)
    have h3 := key_sok (h z (List.mem_cons_self ..))
    refine ⟨?_, ?_⟩
    · show (PyData.canLay0 (.str z) && PyData.canLayAll0 (r.map PyData.str)) = true
      rw [h1, Bool.and_true]
      simpa [PyData.canLay0] using h3
    · show max (PyData.depth (.str z)) (PyData.depthAll (r.map PyData.str)) ≤ 1
      exact Nat.max_le.mpr ⟨by simp [PyData.depth], h2⟩
theorem g_neZ {K : PySem.W.Frag} {H : Hp} {Q : VK} {p q : Addr} {zs : List Str} [h1 : SqC K H p (zs.map V.str)] [h2 : SqC K H q []] (hz : ∀ z ∈ zs, KeyOk z) (k : Q (.bl (!decide (zs = []))) H) : Gx.rNeX K (.ref p) (.ref q) H Q := by
  haveI : Gx.DatsC K H (zs.map V.str) (zs.map PyData.str) := ⟨dpStrs zs⟩
  obtain ⟨s1, s2⟩ := shp_strs hz
  refine Gx.g_neD (b := decide (zs = [])) (d := .list (zs.map PyData.str)) (e := .list []) ?_ rfl ?_ k
  · show (PyData.canLayAll0 (zs.map PyData.str) && decide (PyData.depthAll (zs.map PyData.str) + 1 ≤ 64)) = true
    rw [s1, Bool.true_and]
    exact decide_eq_true (by omega)
  · cases zs <;> simp [PyData.eqv, PyData.eqvAll]
theorem g_neZt {K : PySem.W.Frag} {H : Hp} {Q : VK} {p q : Addr} {zs : List Str} [h1 : SqC K H p (zs.map V.str)] [h2 : SqC K H q []] (hz : zs = []) (k : Q (.bl false) H) : Gx.rNeX K (.ref p) (.ref q) H Q := g_neZ (K := K) (H := H) (p := p) (q := q) (zs := zs) (by rw [hz]; exact fun z h => by cases h) (by rw [decide_eq_true hz]; exact k)
theorem g_neZf {K : PySem.W.Frag} {H : Hp} {Q : VK} {p q : Addr} {zs : List Str} [h1 : SqC K H p (zs.map V.str)] [h2 : SqC K H q []] (hz : ¬ zs = []) (hk : ∀ z ∈ zs, KeyOk z) (k : Q (.bl true) H) : Gx.rNeX K (.ref p) (.ref q) H Q := g_neZ (K := K) (H := H) (p := p) (q := q) (zs := zs) hk (by rw [decide_eq_false hz]; exact k)
theorem ix_strN {K : PySem.W.Frag} {H : Hp} {Q : VK} {p : Addr} {zs : List Str} [h : SqC K H p (zs.map V.str)] (h0 : 0 < zs.length) (q : ∀ z, z ∈ zs → Q (.str z) H) : rIx K (.ref p) (.int (-1)) H Q := by
  have hn : zs.length - 1 < zs.length := by omega
  refine Gx.g_ixL (v := .str zs[zs.length - 1]) ?_ (q _ (List.getElem_mem _))
  unfold atI ixN
  rw [if_neg (by decide), if_pos (by rw [List.length_map]; omega), List.length_map]
  show (zs.map V.str)[((zs.length : Int) + -1).toNat]? = _
  rw [show ((zs.length : Int) + -1).toNat = zs.length - 1 from by omega, List.getElem?_map, List.getElem?_eq_getElem hn]
  rfl
theorem ifg {c : Prop} [Decidable c] {A B : Prop} (h1 : c → A) (h2 : ¬ c → B) : if c then A else B := by
  by_cases h : c
  · rw [if_pos h]; exact h1 h
  · rw [if_neg h]; exact h2 h
/-! the pick -/
local macro_rules | `(tactic| walk_at "call") => `(tactic| first
  | (refine g_neZt (by assumption) ?_)
  | (refine g_neZf (by assumption) (by assumption) ?_)
  | (refine ix_str (by omega) (by omega) ?_; intro z_ hz_)
  | (refine ix_strN (by omega) ?_; intro z_ hz_)
  | (refine Gx.g_inT rfl rfl rfl ?_))
theorem livs_key {n : Int} {W : WS} (h : WOk n W) : ∀ k ∈ livs W.C, KeyOk k := fun k hk => by
  obtain ⟨e, he, _, rfl⟩ := mem_livs.mp hk
  exact (h.en e he).1
def spPck : Sp := fun vs H Q _ => ∃ (b d p : Addr) (ps : List Addr) (L : List LE) (zs : List Str), vs = [.ref b, .ref d, .ref p] ∧ (Bg b H ∧ ChC H d ps L ∧ At H p (.lst (zs.map V.str)) ∧ Gx.NeC p b ∧ L.length ≤ 100 ∧ 1 ≤ zs.length ∧ zs.length ≤ 100 ∧ (∀ z ∈ zs, KeyOk z) ∧ ∀ k ∈ livs L, KeyOk k) ∧
  ∀ t z w H', Nw H t → ExB b H H' → Bg b H' → At H' t (.tup [.str z, cV w]) → KeyOk z → WthOk w → Q (.ref t) H'
abbrev s_law_pick : Stmt := (top 43)
abbrev N_law_pick : List Str := ["_law_purse_here", "_law_chain", "_law_pool_here", "_law_way", "_law_name_here", "_law_lived", "_law_entry"]
theorem sc_law_pick : FnScope N_law_pick ["_law_purse_here", "_law_chain", "_law_pool_here"] (defScope s_law_pick) := ⟨rfl, rfl, rfl, by decide +kernel, rfl, by decide +kernel, by decide +kernel⟩
theorem cl_law_pick (T : Bl mg) (Z : EcF P K mg c_StoreError c_InvalidInput c_KeyLimit c_UnknownKey c_BadChoice c_Stalled) (R : RdF K mg c_Round) (W_RingLog : Gx.ClsF K mg c_RingLog "RingLog" ["entries"]) (W_Ring : Gx.ClsF K mg c_Ring "Ring" ["_places", "_limit", "_budgets", "_late", "_readers", "_log", "_done", "_phase", "_carried", "_last_wait", "_opened", "_open"]) (N_KEY : Gx.GlI mg "KEY" 0) (N_VALUE : Gx.GlI mg "VALUE" 1) (N_LIVING : Gx.GlI mg "LIVING" 2) (N_READERS : Gx.GlI mg "READERS" 3) (N_KEY_LENGTH : Gx.GlI mg "KEY_LENGTH" 12) (N_KEY_CHARACTERS : Gx.GlS mg "KEY_CHARACTERS" "abcdefghijklmnopqrstuvwxyz0123456789") (D : DfG K mg "_law_pick" s_law_pick [] []) (C_law_worth : ClG CX0 P w K mg base 7 "_law_worth" s_law_worth ["_law_purse_here"] [] [] spWth) (C_law_take : ClG CX0 P w K mg base 5 "_law_take" s_law_take ["_law_purse_here", "_law_many"] [] [] spTake) : ClG CX0 P w K mg base 9 "_law_pick" s_law_pick ["_law_purse_here", "_law_chain", "_law_pool_here"] [] [] spPck := by
  have nd := sc_law_pick.nd
  refine D.okP sc_law_pick (fun vs H Q E h => ?_) (fun f cdv A outer s H vs Q E hr h => ?_)
  · obtain ⟨b, d, p, ps, L, zs, rfl, _⟩ := h
    rfl
  · obtain ⟨b, d, p, ps, L, zs, rfl, ⟨hb, hd, hp, hpb, hl, hz1, hz2, hzk, hlk⟩, k⟩ := h
    have hu := hu64 hr
    refine ⟨_, (pss_cons (ps_set (i := 3) nd rfl (Or.inl rfl) (pe_g C_law_take (by exact hr.mono (by decide)) (E := fun _ => E0) (fun σ => passC0 σ) (fun _ _ _ _ _ _ us hl => match us, hl with | [_, _], _ => rfl) (pa_cons (pv 0) (pa_cons pe_int pa_nil))))
    (pss_cons (ps_set (i := 4) nd rfl (Or.inl rfl) (pe_ix (ixSeqK (K := K) (by rfl)) (pv 2) (pe_g C_law_take (by exact hr.mono (by decide)) (E := fun _ => E0) (fun σ => passC0 σ) (fun _ _ _ _ _ _ us hl => match us, hl with | [_, _], _ => rfl) (pa_cons (pv 0) (pa_cons (pe_callB (callLenK (K := K) (by rfl)) (by rfl) T.len (by decide +kernel) (pa_cons (pv 2) pa_nil)) pa_nil))) (fun _ _ => rfl)))
    (pss_cons (ps_setLc (i := 5) (own := [("_law_entry", 6)]) (g := gName 6) rfl nd rfl rfl (sw_true rfl rfl rfl (by decide +kernel)) (pi_listK (K := K) (by rfl) (pv 1)) (blkOk_by (own := [("_law_entry", 6)]) (N := N_law_pick) (sc := defScope s_law_pick) (by decide +kernel)) (fun _ _ _ _ _ => (pg_name (i := 6) nd rfl (Or.inl rfl))) (fun _ _ _ _ _ => (pts_one (pt_val (pe_ix (ixSeqK (K := K) (by rfl)) (pv 6) pe_int (fun _ _ => rfl))))) (fun _ _ _ _ _ => (pe_ix (ixSeqK (K := K) (by rfl)) (pv 6) pe_int (fun _ _ => rfl))))
    (pss_cons (ps_if (PW.pt (pw_and (pt_cmpR (opNeK (K := K) (by rfl) (by exact hu)) (pv 5) (pe_lst pa_nil) (nomark _)) (pw_and1 (pt_cmpR (opInK (K := K) (by rfl)) (pv 3) (pe_tup (pa_cons pe_int (pa_cons pe_int (pa_cons pe_int pa_nil)))) (by rfl)))))
      (pss_one (ps_set (i := 4) nd rfl (Or.inl rfl) (pe_ix (ixSeqK (K := K) (by rfl)) (pv 5) (pe_un un_neg pe_int) (fun _ _ => rfl))))
      pss_nil)
    (pss_cons (ps_if (PW.pt (pw_and (pt_cmpR (opNeK (K := K) (by rfl) (by exact hu)) (pv 5) (pe_lst pa_nil) (nomark _)) (pw_and1 (pt_cmpR (opEqK (K := K) (by rfl) (by exact hu)) (pv 3) pe_int (nomark _)))))
      (pss_one (ps_set (i := 4) nd rfl (Or.inl rfl) (pe_ix (ixSeqK (K := K) (by rfl)) (pv 5) pe_int (fun _ _ => rfl))))
      pss_nil)
    (pss_cons (ps_if (PW.pt (pw_and (pt_cmpR (opNeK (K := K) (by rfl) (by exact hu)) (pv 5) (pe_lst pa_nil) (nomark _)) (pw_and1 (pt_cmpR (opEqK (K := K) (by rfl) (by exact hu)) (pv 3) pe_int (nomark _)))))
      (pss_one (ps_set (i := 4) nd rfl (Or.inl rfl) (pe_ix (ixSeqK (K := K) (by rfl)) (pv 5) (pe_g C_law_take (by exact hr.mono (by decide)) (E := fun _ => E0) (fun σ => passC0 σ) (fun _ _ _ _ _ _ us hl => match us, hl with | [_, _], _ => rfl) (pa_cons (pv 0) (pa_cons (pe_callB (callLenK (K := K) (by rfl)) (by rfl) T.len (by decide +kernel) (pa_cons (pv 5) pa_nil)) pa_nil))) (fun _ _ => rfl))))
      pss_nil)
    (pss_cons (ps_if (pt_cmpR opGt (pv 3) pe_int (nomark _))
      (pss_one (ps_ret (pe_tup (pa_cons (pv 4) (pa_cons pe_non pa_nil)))))
      pss_nil)
    (pss_one (ps_ret (pe_tup (pa_cons (pv 4) (pa_cons (pe_g C_law_worth (by exact hr.mono (by decide)) (E := fun _ => E0) (fun σ => passC0 σ) (fun _ _ _ _ _ _ us hl => match us, hl with | [_], _ => rfl) (pa_cons (pv 0) pa_nil)) pa_nil)))))))))))), ?_⟩
    try dsimp only [L2.cxOf, L2.Cx.nox]
    simp only [L2.start, N_law_pick, List.map_cons, List.map_nil, List.length_cons, List.length_nil, Nat.reduceAdd, Nat.reduceSub, List.replicate_succ, List.replicate_zero, List.cons_append, List.nil_append]

    have hpl := hd.len
    have hzl : (zs.map V.str).length = zs.length := List.length_map ..
    walk_at "go"
    rename_i d1 H1 d10 d11 e1 hB1 d2 H2 d20 d21 e2 hB2 z0 hz0
    have hk0 := hzk z0 hz0
    refine Gx.lcL_F (fun i => (livs (L.take i)).map V.str) rfl (fun i hi => by
      have := livs_len (L.take i)
      have h2 := List.length_take_le' i L
      rw [List.length_map]
      omega) (fun D i v H' hv hD e1 hp hz => ?_) (fun D H' hD e3 hp3 => ?_)
    · rw [List.getElem?_map] at hv
      cases hpi : ps[i]? with
      | none => rw [hpi] at hv; cases hv
      | some p =>
        rw [hpi] at hv
        cases hv
        have hd2 : ChC H2 d ps L := inferInstance
        obtain ⟨x, hx, hE⟩ := hd2.ent i p hpi
        have hE : At H' p (.tup x.vs) := ⟨e1.imm _ _ (.inl ⟨_, rfl⟩) hE⟩
        walk_at "gos"
        · exact ⟨Gx.rel, by rw [livs_take hx, List.map_append]; simp [*]⟩
        · exact ⟨Gx.rel, by rw [livs_take hx, List.map_append]; simp [*]⟩
    · rw [List.length_map, hpl, List.take_of_length_le (Nat.le_refl _)] at hp3
      have hln := livs_len L
      have hlm : ((livs L).map V.str).length = (livs L).length := List.length_map ..
      walk_at "go"
      have w0 : WthOk none := fun v h => by cases h
      have ws : ∀ v : Int, -(2 ^ 100) < v → v < 2 ^ 100 → WthOk (some v) := fun v a b u h => by cases h; exact ⟨a, b⟩
      by_cases hL : livs L = []
      · walk_at "gos"
        · exact k _ z0 none _ Gx.new Gx.rel inferInstance (by assumption) hk0 w0
        · exact k _ z0 (some _) _ Gx.new Gx.rel inferInstance (by assumption) hk0 (ws _ (by omega) (by omega))
      · have hl0 : 0 < (livs L).length := Nat.pos_of_ne_zero fun h => hL (List.eq_nil_of_length_eq_zero h)
        have Bgo : Bg b H' := inferInstance
        have ho : ExB b H H' := Gx.rel
        walk_at "go"
        refine ite_join (fun σ' H'' => ∃ z, σ' = [some (.ref b), some (.ref d), some (.ref p), some (.int d1), some (.str z), some (.ref D), none] ∧ KeyOk z ∧ ExB b H H'' ∧ Bg b H'' ∧ At H'' D (.lst ((livs L).map V.str))) (fun N hk => ?_) ?_
        · refine ifg (fun hI => ?_) (fun hI => ?_)
          · walk_at "go"
            exact hk _ _ ⟨_, rfl, hlk _ (by assumption), Gx.rel, inferInstance, inferInstance⟩
          · walk_at "go"
            exact hk _ _ ⟨z0, rfl, hk0, Gx.rel, inferInstance, inferInstance⟩
        rintro σ' H5 ⟨z5, rfl, hk5, e5, hB5, hD5⟩
        walk_at "go"
        refine ite_join (fun σ' H'' => ∃ z, σ' = [some (.ref b), some (.ref d), some (.ref p), some (.int d1), some (.str z), some (.ref D), none] ∧ KeyOk z ∧ ExB b H H'' ∧ Bg b H'' ∧ At H'' D (.lst ((livs L).map V.str))) (fun N hk => ?_) ?_
        · refine ifg (fun hI => ?_) (fun hI => ?_)
          · walk_at "go"
            exact hk _ _ ⟨_, rfl, hlk _ (by assumption), Gx.rel, inferInstance, inferInstance⟩
          · walk_at "go"
            exact hk _ _ ⟨z5, rfl, hk5, Gx.rel, inferInstance, inferInstance⟩
        rintro σ' H6 ⟨z6, rfl, hk6, e6, hB6, hD6⟩
        walk_at "go"
        refine ite_join (fun σ' H'' => ∃ z, σ' = [some (.ref b), some (.ref d), some (.ref p), some (.int d1), some (.str z), some (.ref D), none] ∧ KeyOk z ∧ ExB b H H'' ∧ Bg b H'' ∧ At H'' D (.lst ((livs L).map V.str))) (fun N hk => ?_) ?_
        · refine ifg (fun hI => ?_) (fun hI => ?_)
          · walk_at "go"
            exact hk _ _ ⟨_, rfl, hlk _ (by assumption), Gx.rel, inferInstance, inferInstance⟩
          · walk_at "go"
            exact hk _ _ ⟨z6, rfl, hk6, Gx.rel, inferInstance, inferInstance⟩
        rintro σ' H7 ⟨z7, rfl, hk7, e7, hB7, hD7⟩
        walk_at "gos"
        · exact k _ z7 none _ Gx.new Gx.rel inferInstance (by assumption) hk7 w0
        · exact k _ z7 (some _) _ Gx.new Gx.rel inferInstance (by assumption) hk7 (ws _ (by omega) (by omega))

/-! the deed -/
section
variable {C CL CR cS cB a : Addr} {W : WS} {z : Str} {w c : Option Int} {n : Int} {H : Hp} {Q : VK} {E : XK}
theorem cpl_of (h : WOk n W) (hn : n < 2 ^ 59) (hex : w = none → z ∈ livs W.C) (hcap : z ∉ livs W.C → ((livs W.C).length : Int) < W.T.lim)
    (k1 : Dn W z w c → ∀ H', ExB a H H' → RgC C CL CR H' a (nextW W z w c).rs → Q .non H') (k2 : ¬ Dn W z w c → ∀ f v, RaiF cS f v H E) (k3 : ¬ Dn W z w c → ∀ f v, RaiF cB f v H E) : CplW C CL CR cS cB a W.rs (⟨z, w, w.isSome⟩ : LE).en c H Q E := by
  have hlen : (W.C.map LE.en).length = W.C.length := List.length_map ..
  have h3 := lg3_en (z := z) (w := w) (c := c) h hn
  have hb := bad_en (z := z) (w := w) (c := c) h hn
  refine ⟨fun hl hp => k2 (nd_st1 hl hlen hp) _ _, fun _ i hc hh => k3 (fun hD => ?_) _ _, fun hl _ hp => k2 (fun hD => ?_) _ _, fun g1 g2 g3 H' e hR => ?_⟩
  · exact hb.mp ⟨i, hc, hh⟩ ⟨hD.a0, hD.a1, hD.mv⟩
  · have h4 := hD.st2 hl
    rw [h3] at hp
    have hp : W.T.p ≤ ((((movW W z w c).2.map LE.en).length : Nat) : Int) := hp
    rw [List.length_map] at hp
    omega
  · rw [next_en h hn] at hR
    have g4 := Decidable.not_not.mp fun hh => g2 (hb.mpr hh)
    refine k1 ⟨hex, hcap, fun hl => ?_, g4.1, g4.2.1, g4.2.2, fun hl => ?_⟩ H' e hR
    · have := g1 hl
      have this : (((W.C.map LE.en).length : Nat) : Int) < W.T.p := this
      rw [hlen] at this
      exact this
    · have := g3 hl
      rw [h3] at this
      have this : ((((movW W z w c).2.map LE.en).length : Nat) : Int) < W.T.p := this
      rw [List.length_map] at this
      exact this
end
def spDed (C CL CR : Addr) : Sp := fun vs H Q _ => ∃ (a : Addr) (W : WS) (z : Str) (w c : Option Int) (n : Int), vs = [.ref a, .str z, cV w, cV c] ∧ (RgC C CL CR H a W.rs ∧ WOk n W ∧ n < 2 ^ 59 ∧ KeyOk z ∧ WthOk w ∧ TlOk c) ∧
  (Dn W z w c → ∀ H', ExB a H H' → RgC C CL CR H' a (nextW W z w c).rs → Q (.int 1) H') ∧ (¬ Dn W z w c → ∀ H', Ex H H' → Q (.int 0) H')

abbrev s_law_deed : Stmt := (top 45)
abbrev N_law_deed : List Str := ["_law_ring_here", "_law_name_here", "_law_worth_here", "_law_tally_here", "_law_told"]
theorem sc_law_deed : FnScope N_law_deed ["_law_ring_here", "_law_name_here", "_law_worth_here", "_law_tally_here"] (defScope s_law_deed) := ⟨rfl, rfl, rfl, by decide +kernel, rfl, by decide +kernel, by decide +kernel⟩
theorem cl_law_deed (T : Bl mg) (Z : EcF P K mg c_StoreError c_InvalidInput c_KeyLimit c_UnknownKey c_BadChoice c_Stalled) (R : RdF K mg c_Round) (W_RingLog : Gx.ClsF K mg c_RingLog "RingLog" ["entries"]) (W_Ring : Gx.ClsF K mg c_Ring "Ring" ["_places", "_limit", "_budgets", "_late", "_readers", "_log", "_done", "_phase", "_carried", "_last_wait", "_opened", "_open"]) (N_KEY : Gx.GlI mg "KEY" 0) (N_VALUE : Gx.GlI mg "VALUE" 1) (N_LIVING : Gx.GlI mg "LIVING" 2) (N_READERS : Gx.GlI mg "READERS" 3) (N_KEY_LENGTH : Gx.GlI mg "KEY_LENGTH" 12) (N_KEY_CHARACTERS : Gx.GlS mg "KEY_CHARACTERS" "abcdefghijklmnopqrstuvwxyz0123456789") (D : DfG K mg "_law_deed" s_law_deed [] []) (C_Ring_delete : ClM (L2.CX P w) P w K mg base 13 c_Ring "delete" "Ring.delete" s_Ring_delete ["self", "key", "count"] [.non] [] (spDel c_Ring c_RingLog c_Round c_Stalled c_BadChoice c_UnknownKey)) (C_Ring_put : ClM (L2.CX P w) P w K mg base 13 c_Ring "put" "Ring.put" s_Ring_put ["self", "key", "value", "count"] [.non] [] (spPut c_Ring c_RingLog c_Round c_Stalled c_BadChoice c_KeyLimit)) : ClG CX0 P w K mg base 15 "_law_deed" s_law_deed ["_law_ring_here", "_law_name_here", "_law_worth_here", "_law_tally_here"] [] [] (spDed c_Ring c_RingLog c_Round) := by
  have nd := sc_law_deed.nd
  refine D.okP sc_law_deed (fun vs H Q E h => ?_) (fun f cdv A outer s H vs Q E hr h => ?_)
  · obtain ⟨a, W, z, w, c, n, rfl, _⟩ := h
    rfl
  · obtain ⟨a, W, z, w, c, n, rfl, ⟨hR, hok, hn, hz, hw, hc⟩, k1, k2⟩ := h
    have hu := hu64 hr
    refine ⟨_, (pss_cons (ps_set (i := 4) nd rfl (Or.inl rfl) pe_non)
    (pss_cons (ps_try_only (c := .ref c_StoreError) rfl rfl ⟨by rfl, by decide, .inl Z.g_StoreError⟩ takes0 (fun W pn xe tk po => (pss_one (ps_if (PW.pt (pw_and (pt_cmpR opIsN (pv 2) pe_non (nomark _)) (pw_and1 (pt_cmpR opIsN (pv 3) pe_non (nomark _)))))
      (pss_one (ps_set (i := 4) nd rfl (Or.inl rfl) (pe_mD1 C_Ring_delete W_Ring.c (by exact hr.mono (by decide)) (fun σ => passC tk σ) 2 0 (by decide) (by decide) (fun _ _ _ _ _ _ _ us its h1 h2 => match us, its, h1, h2 with | [_, _], [_], _, _ => ⟨_, rfl, rfl⟩) (pv 0) (pa_cons (pv 1) pa_nil))))
      (pss_one (ps_if (pt_cmpR opIsN (pv 2) pe_non (nomark _))
      (pss_one (ps_set (i := 4) nd rfl (Or.inl rfl) (pe_mD1 C_Ring_delete W_Ring.c (by exact hr.mono (by decide)) (fun σ => passC tk σ) 3 1 (by decide) (by decide) (fun _ _ _ _ _ _ _ us its h1 h2 => match us, its, h1, h2 with | [_, _, _], [_], _, _ => ⟨_, rfl, rfl⟩) (pv 0) (pa_cons (pv 1) (pa_cons (pv 3) pa_nil)))))
      (pss_one (ps_if (pt_cmpR opIsN (pv 3) pe_non (nomark _))
      (pss_one (ps_set (i := 4) nd rfl (Or.inl rfl) (pe_mD1 C_Ring_put W_Ring.c (by exact hr.mono (by decide)) (fun σ => passC tk σ) 3 0 (by decide) (by decide) (fun _ _ _ _ _ _ _ us its h1 h2 => match us, its, h1, h2 with | [_, _, _], [_], _, _ => ⟨_, rfl, rfl⟩) (pv 0) (pa_cons (pv 1) (pa_cons (pv 2) pa_nil)))))
      (pss_one (ps_set (i := 4) nd rfl (Or.inl rfl) (pe_mD1 C_Ring_put W_Ring.c (by exact hr.mono (by decide)) (fun σ => passC tk σ) 4 1 (by decide) (by decide) (fun _ _ _ _ _ _ _ us its h1 h2 => match us, its, h1, h2 with | [_, _, _, _], [_], _, _ => ⟨_, rfl, rfl⟩) (pv 0) (pa_cons (pv 1) (pa_cons (pv 2) (pa_cons (pv 3) pa_nil)))))))))))))
      (fun a oe cls d pn hz hf => (pss_one (ps_ret pe_int))))
    (pss_cons (ps_if (pt_cmpR opIsN (pv 4) pe_non (nomark _))
      (pss_one (ps_ret pe_int))
      pss_nil)
    (pss_one (ps_ret pe_int))))), ?_⟩
    try dsimp only [L2.cxOf, L2.Cx.nox]
    simp only [L2.start, N_law_deed, List.map_cons, List.map_nil, List.length_cons, List.length_nil, Nat.reduceAdd, Nat.reduceSub, List.replicate_succ, List.replicate_zero, List.cons_append, List.nil_append]

    cases w with
    | none =>
      cases c with
      | none =>
        walk_at "gos"
        refine ⟨a, W.rs, z, none, rfl, ⟨hR, hok.rg hn, hz, hc⟩, fun hf d H' n1 e1 h1 => ?_, fun hf => cpl_of (w := none) hok hn (fun _ => Decidable.not_not.mp fun hh => hf (findL_none.mpr hh)) (fun hh => absurd (findL_none.mpr hh) hf) (fun hD H' e1 hR1 => ?_) (fun hD f v d H' n1 e1 h1 => ?_) (fun hD f v d H' n1 e1 h1 => ?_)⟩
        · walk_at "gos"
          exact k2 (fun hD => findL_none.mp hf (hD.ex rfl)) _ e1
        · walk_at "gos"
          exact k1 hD _ e1 hR1
        · walk_at "gos"
          exact k2 hD _ e1
        · walk_at "gos"
          exact k2 hD _ e1
      | some i =>
        walk_at "gos"
        refine ⟨a, W.rs, z, (some i), rfl, ⟨hR, hok.rg hn, hz, hc⟩, fun hf d H' n1 e1 h1 => ?_, fun hf => cpl_of (w := none) hok hn (fun _ => Decidable.not_not.mp fun hh => hf (findL_none.mpr hh)) (fun hh => absurd (findL_none.mpr hh) hf) (fun hD H' e1 hR1 => ?_) (fun hD f v d H' n1 e1 h1 => ?_) (fun hD f v d H' n1 e1 h1 => ?_)⟩
        · walk_at "gos"
          exact k2 (fun hD => findL_none.mp hf (hD.ex rfl)) _ e1
        · walk_at "gos"
          exact k1 hD _ e1 hR1
        · walk_at "gos"
          exact k2 hD _ e1
        · walk_at "gos"
          exact k2 hD _ e1
    | some v =>
      have hl1 := hok.tm.l1
      have hl2 := hok.tm.l2
      have hl3 := hok.tm.p2
      cases c with
      | none =>
        walk_at "gos"
        refine ⟨a, W.rs, z, v, none, rfl, ⟨hR, hok.rg hn, by show 0 ≤ W.T.lim; omega, by show W.T.lim < 2 ^ 100; omega, hz, hc⟩, fun hf hm d H' n1 e1 h1 => ?_, fun hm => cpl_of (w := some v) hok hn (fun h => by cases h) (fun hh => ?_) (fun hD H' e1 hR1 => ?_) (fun hD f v d H' n1 e1 h1 => ?_) (fun hD f v d H' n1 e1 h1 => ?_)⟩
        · walk_at "gos"
          have hm : W.T.lim ≤ (((W.C.map LE.en).countP En.l : Nat) : Int) := hm
          rw [cnt_livs] at hm
          exact k2 (nd_cap (findL_none.mp hf) hm) _ e1
        · have hm : (((W.C.map LE.en).countP En.l : Nat) : Int) < W.T.lim := hm (findL_none.mpr hh)
          rw [cnt_livs] at hm
          exact hm
        · walk_at "gos"
          exact k1 hD _ e1 hR1
        · walk_at "gos"
          exact k2 hD _ e1
        · walk_at "gos"
          exact k2 hD _ e1
      | some i =>
        walk_at "gos"
        refine ⟨a, W.rs, z, v, (some i), rfl, ⟨hR, hok.rg hn, by show 0 ≤ W.T.lim; omega, by show W.T.lim < 2 ^ 100; omega, hz, hc⟩, fun hf hm d H' n1 e1 h1 => ?_, fun hm => cpl_of (w := some v) hok hn (fun h => by cases h) (fun hh => ?_) (fun hD H' e1 hR1 => ?_) (fun hD f v d H' n1 e1 h1 => ?_) (fun hD f v d H' n1 e1 h1 => ?_)⟩
        · walk_at "gos"
          have hm : W.T.lim ≤ (((W.C.map LE.en).countP En.l : Nat) : Int) := hm
          rw [cnt_livs] at hm
          exact k2 (nd_cap (findL_none.mp hf) hm) _ e1
        · have hm : (((W.C.map LE.en).countP En.l : Nat) : Int) < W.T.lim := hm (findL_none.mpr hh)
          rw [cnt_livs] at hm
          exact hm
        · walk_at "gos"
          exact k1 hD _ e1 hR1
        · walk_at "gos"
          exact k2 hD _ e1
        · walk_at "gos"
          exact k2 hD _ e1

/-! the book, plainly -/
def putB (B : List (Str × Int)) (z : Str) (v : Int) : List (Str × Int) := if z ∈ B.map (·.1) then B.map (fun p => if p.1 = z then (p.1, v) else p) else B ++ [(z, v)]
def dropB (B : List (Str × Int)) (z : Str) : List (Str × Int) := B.filter fun p => decide (p.1 ≠ z)
theorem put_book {B : List (Str × Int)} {z : Str} {v : Int} : putK (bookK B) (.inr z) (.int v) = bookK (putB B z v) := by
  unfold putK putB bookK
  by_cases h : z ∈ B.map (·.1)
  · rw [if_pos h, if_pos]
    · rw [List.map_map, List.map_map]
      refine List.map_congr_left fun p _ => ?_
      by_cases hp : p.1 = z
      · simp [hp]
      · simp [hp]
    · obtain ⟨p, hp, rfl⟩ := List.mem_map.mp h
      exact List.any_eq_true.mpr ⟨_, List.mem_map.mpr ⟨p, hp, rfl⟩, decide_eq_true rfl⟩
  · rw [if_neg h, if_neg]
    · rw [List.map_append]
      rfl
    · intro hh
      obtain ⟨q, hq, he⟩ := List.any_eq_true.mp hh
      obtain ⟨p, hp, rfl⟩ := List.mem_map.mp hq
      have := of_decide_eq_true he
      exact h (List.mem_map.mpr ⟨p, hp, Sum.inr.inj this⟩)
theorem drop_book {B : List (Str × Int)} {z : Str} : dropK (bookK B) (.inr z) = bookK (dropB B z) := by
  unfold dropK dropB bookK
  rw [List.filter_map]
  congr 1
  refine List.filter_congr fun p _ => ?_
  show decide ((Sum.inr p.1 : Key) ≠ Sum.inr z) = decide (p.1 ≠ z)
  rw [decide_eq_decide]
  exact ⟨fun h e => h (by rw [e]), fun h e => h (Sum.inr.inj e)⟩
theorem val_book {B : List (Str × Int)} {z : Str} : valV (bookK B) (.inr z) = (B.find? fun p => decide (p.1 = z)).map fun p => V.int p.2 := by
  unfold valV bookK
  rw [List.find?_map, Option.map_map]
  congr 1
  congr 1
  funext p
  show decide ((Sum.inr p.1 : Key) = Sum.inr z) = decide (p.1 = z)
  rw [decide_eq_decide]
  exact ⟨fun h => Sum.inr.inj h, fun h => by rw [h]⟩
theorem find_book {B : List (Str × Int)} {z : Str} {v : Int} (hn : (B.map (·.1)).Nodup) (h : (z, v) ∈ B) : B.find? (fun p => decide (p.1 = z)) = some (z, v) := by
  induction B with
  | nil => cases h
  | cons p r ih =>
    rw [List.map_cons] at hn
    obtain ⟨h1, h2⟩ := List.nodup_cons.mp hn
    rcases List.mem_cons.mp h with e | h
    · subst e
      rw [List.find?_cons_of_pos (by simp)]
    · have : p.1 ≠ z := fun e => h1 (List.mem_map.mpr ⟨_, h, e.symm⟩)
      rw [List.find?_cons_of_neg (by simpa using this)]
      exact ih h2 h
theorem find_not {B : List (Str × Int)} {z : Str} (h : z ∉ B.map (·.1)) : B.find? (fun p => decide (p.1 = z)) = none :=
  List.find?_eq_none.mpr fun p hp => by
    have : p.1 ≠ z := fun e => h (List.mem_map.mpr ⟨p, hp, e⟩)
    simpa using this
structure BkOk (W : WS) : Prop where
  nd : (W.B.map (·.1)).Nodup
  mem : ∀ z, z ∈ W.B.map (·.1) ↔ z ∈ livs W.C
  val : ∀ e ∈ W.C, e.l = true → ∃ v, e.w = some v ∧ (e.k, v) ∈ W.B
theorem BkOk.get {W : WS} (h : BkOk W) {e : LE} (he : e ∈ W.C) (hl : e.l = true) : valV (bookK W.B) (.inr e.k) = some (.int (e.w.getD 0)) := by
  obtain ⟨v, h1, h2⟩ := h.val e he hl
  rw [val_book, find_book h.nd h2, h1]
  rfl
theorem BkOk.at {W : WS} (h : BkOk W) {z : Str} (hz : z ∈ livs W.C) : ∃ e ∈ W.C, e.l = true ∧ e.k = z ∧ valV (bookK W.B) (.inr z) = some (.int (e.w.getD 0)) := by
  obtain ⟨e, h1, h2, rfl⟩ := mem_livs.mp hz
  exact ⟨e, h1, h2, rfl, h.get h1 h2⟩
theorem BkOk.not {W : WS} (h : BkOk W) {z : Str} (hz : z ∉ livs W.C) : valV (bookK W.B) (.inr z) = none := by
  rw [val_book, find_not fun hh => hz ((h.mem z).mp hh)]
  rfl
theorem BkOk.len {n : Int} {W : WS} (h : BkOk W) (hok : WOk n W) : W.B.length = (livs W.C).length := by
  have := ((List.perm_ext_iff_of_nodup h.nd hok.nd).mpr h.mem).length_eq
  rwa [List.length_map] at this
def nextV (W : WS) (z : Str) (w c : Option Int) : WS := { nextW W z w c with B := match w with | some v => putB W.B z v | none => dropB W.B z }
theorem WOk.setB {n : Int} {W : WS} (h : WOk n W) (B : List (Str × Int)) : WOk n { W with B := B } := ⟨h.tm, h.nd, h.tr, h.ln, h.t0, h.t1, h.d0, h.d1, h.s0, h.s1, h.w0, h.w1, h.en⟩
theorem putB_keys {B : List (Str × Int)} {z : Str} {v : Int} : (putB B z v).map (·.1) = if z ∈ B.map (·.1) then B.map (·.1) else B.map (·.1) ++ [z] := by
  unfold putB
  split
  · rw [List.map_map]
    refine List.map_congr_left fun p _ => ?_
    show (if p.1 = z then (p.1, v) else p).1 = p.1
    split <;> rfl
  · rw [List.map_append]
    rfl
theorem livN_mem {W : WS} {z y : Str} {w : Option Int} : y ∈ livN W z w ↔ (y ∈ livs W.C ∧ y ≠ z) ∨ (w.isSome = true ∧ y = z) := by
  unfold livN
  rw [List.mem_append, List.mem_filter]
  refine or_congr (and_congr_right fun _ => by simp) ?_
  split
  · rename_i h
    simp [h]
  · rename_i h
    simp [h]
theorem BkOk.next {n : Int} {W : WS} {z : Str} {w c : Option Int} (h : BkOk W) (hok : WOk n W) : BkOk (nextV W z w c) := by
  have hm : ∀ y, y ∈ livs (resE W z w c) ↔ (y ∈ livs W.C ∧ y ≠ z) ∨ (w.isSome = true ∧ y = z) := fun y => by rw [← livN_mem]; exact res_perm.mem_iff
  have hv : ∀ e ∈ resE W z w c, e.l = true → (∃ v, e.w = some v ∧ (e.k, v) ∈ W.B ∧ e.k ≠ z) ∨ e = ⟨z, w, w.isSome⟩ := fun e he hl => by
    rcases res_mem he with he | he
    · obtain ⟨x, hx, h1, h2, h3⟩ := rel_mem he
      obtain ⟨h4, h5⟩ := h3 hl
      obtain ⟨v, g1, g2⟩ := h.val x hx h4
      exact .inl ⟨v, by rw [h2, g1], by rw [h1]; exact g2, by rw [h1]; exact h5⟩
    · exact .inr he
  cases w with
  | none =>
    refine ⟨?_, fun y => ?_, fun e he hl => ?_⟩
    · show ((dropB W.B z).map (·.1)).Nodup
      exact h.nd.sublist (List.Sublist.map _ List.filter_sublist)
    · show y ∈ (dropB W.B z).map (·.1) ↔ y ∈ livs (resE W z none c)
      rw [hm]
      constructor
      · intro hy
        obtain ⟨p, hp, rfl⟩ := List.mem_map.mp hy
        obtain ⟨g1, g2⟩ := List.mem_filter.mp hp
        exact .inl ⟨(h.mem _).mp (List.mem_map.mpr ⟨p, g1, rfl⟩), of_decide_eq_true g2⟩
      · rintro (⟨g1, g2⟩ | ⟨g1, _⟩)
        · obtain ⟨p, hp, rfl⟩ := List.mem_map.mp ((h.mem _).mpr g1)
          exact List.mem_map.mpr ⟨p, List.mem_filter.mpr ⟨hp, decide_eq_true g2⟩, rfl⟩
        · cases g1
    · rcases hv e he hl with ⟨v, g1, g2, g3⟩ | rfl
      · exact ⟨v, g1, List.mem_filter.mpr ⟨g2, decide_eq_true g3⟩⟩
      · cases hl
  | some u =>
    refine ⟨?_, fun y => ?_, fun e he hl => ?_⟩
    · show ((putB W.B z u).map (·.1)).Nodup
      rw [putB_keys]
      split
      · exact h.nd
      · rename_i hz
        exact List.nodup_append.mpr ⟨h.nd, by simp, fun a ha b hb e => by rw [List.mem_singleton.mp hb] at e; exact hz (e ▸ ha)⟩
    · show y ∈ (putB W.B z u).map (·.1) ↔ y ∈ livs (resE W z (some u) c)
      rw [hm, putB_keys]
      by_cases hy : y = z
      · subst hy
        constructor
        · intro _
          exact .inr ⟨rfl, rfl⟩
        · intro _
          split
          · assumption
          · simp
      · have : y ∈ livs W.C ↔ y ∈ W.B.map (·.1) := (h.mem y).symm
        split
        · rw [this]
          simp [hy]
        · rw [this, List.mem_append]
          simp [hy]
    · show ∃ v, e.w = some v ∧ (e.k, v) ∈ putB W.B z u
      rcases hv e he hl with ⟨v, g1, g2, g3⟩ | rfl
      · refine ⟨v, g1, ?_⟩
        unfold putB
        split
        · exact List.mem_map.mpr ⟨_, g2, if_neg g3⟩
        · exact List.mem_append_left _ g2
      · refine ⟨u, rfl, ?_⟩
        unfold putB
        split
        · rename_i hz
          obtain ⟨p, hp, hpz⟩ := List.mem_map.mp hz
          exact List.mem_map.mpr ⟨p, hp, by rw [if_pos hpz, hpz]⟩
        · exact List.mem_append_right _ (List.mem_singleton.mpr rfl)
theorem BkOk.start {W : WS} (hC : W.C = []) (hB : W.B = []) : BkOk W := ⟨by rw [hB]; simp, fun z => by rw [hB, hC]; simp [livs], fun e he => by rw [hC] at he; cases he⟩

local macro_rules | `(tactic| walk_at "call") => `(tactic| first
  | ((with_reducible show L2.tGYield _ _ _ _ _); refine Gx.g_yield (by walk_at "szt") ?_))

/-! what a ring tells of its living records -/
def livK (L : List En) : List Str := (L.filter En.l).map En.k
def tabK (L : List En) : List (Key × V) := (L.filter En.l).map fun e => (Sum.inr e.k, V.int e.v)
theorem tab_keys (L : List En) : (tabK L).map (·.1) = (livK L).map Sum.inr := by
  unfold tabK livK
  rw [List.map_map, List.map_map]
  rfl
theorem tab_len (L : List En) : (tabK L).length = (livK L).length := by
  unfold tabK livK
  rw [List.length_map, List.length_map]
theorem livK_len (L : List En) : (livK L).length ≤ L.length := by
  unfold livK
  rw [List.length_map]
  exact List.length_filter_le ..
theorem livK_take {L : List En} {i : Nat} {x : En} (h : L[i]? = some x) : livK (L.take (i + 1)) = livK (L.take i) ++ if x.l = true then [x.k] else [] := by
  unfold livK
  rw [List.take_succ, h, List.filter_append, List.map_append]
  congr 1
  cases hx : x.l <;> simp [hx]
theorem tabK_take {L : List En} {i : Nat} {x : En} (h : L[i]? = some x) : tabK (L.take (i + 1)) = tabK (L.take i) ++ if x.l = true then [(Sum.inr x.k, V.int x.v)] else [] := by
  unfold tabK
  rw [List.take_succ, h, List.filter_append, List.map_append]
  congr 1
  cases hx : x.l <;> simp [hx]
theorem livK_split (L : List En) (i : Nat) : livK L = livK (L.take i) ++ livK (L.drop i) := by
  unfold livK
  rw [← List.map_append, ← List.filter_append, List.take_append_drop]
theorem put_last {kvs : List (Key × V)} {k : Key} {v : V} (h : k ∉ kvs.map (·.1)) : putK kvs k v = kvs ++ [(k, v)] := by
  unfold putK
  rw [if_neg]
  intro hh
  obtain ⟨p, hp, he⟩ := List.any_eq_true.mp hh
  exact h (List.mem_map.mpr ⟨p, hp, of_decide_eq_true he⟩)
theorem live_not {L : List En} {i : Nat} {x : En} (hn : (livK L).Nodup) (h : L[i]? = some x) (hl : x.l = true) : x.k ∉ livK (L.take i) := by
  intro hm
  have h1 := livK_split L (i + 1)
  rw [livK_take h, if_pos hl] at h1
  rw [h1] at hn
  have h2 := (List.nodup_append.mp (List.nodup_append.mp hn).1).2.2
  exact h2 _ hm _ (List.mem_singleton.mpr rfl) rfl
def spTab (C CL CR : Addr) : Sp := fun vs H Q _ => ∃ (a : Addr) (S : RS), vs = [.ref a] ∧ (RgC C CL CR H a S ∧ S.L.length ≤ 1000 ∧ (livK S.L).Nodup) ∧ ∀ p H', Nw H p → Ex H H' → At H' p (.dK (tabK S.L)) → Q (.ref p) H'
abbrev s_Ring_table : Stmt := (inClass (top 23) 15)
abbrev N_Ring_table : List Str := ["self", "entry"]
theorem sc_Ring_table : FnScope N_Ring_table ["self"] (defScope s_Ring_table) := ⟨rfl, rfl, rfl, by decide +kernel, rfl, by decide +kernel, by decide +kernel⟩
theorem cl_Ring_table (T : Bl mg) (Z : EcF P K mg c_StoreError c_InvalidInput c_KeyLimit c_UnknownKey c_BadChoice c_Stalled) (R : RdF K mg c_Round) (W_RingLog : Gx.ClsF K mg c_RingLog "RingLog" ["entries"]) (W_Ring : Gx.ClsF K mg c_Ring "Ring" ["_places", "_limit", "_budgets", "_late", "_readers", "_log", "_done", "_phase", "_carried", "_last_wait", "_opened", "_open"]) (N_KEY : Gx.GlI mg "KEY" 0) (N_VALUE : Gx.GlI mg "VALUE" 1) (N_LIVING : Gx.GlI mg "LIVING" 2) (N_READERS : Gx.GlI mg "READERS" 3) (N_KEY_LENGTH : Gx.GlI mg "KEY_LENGTH" 12) (N_KEY_CHARACTERS : Gx.GlS mg "KEY_CHARACTERS" "abcdefghijklmnopqrstuvwxyz0123456789") (D : DfM K c_Ring "table" "Ring.table" s_Ring_table [] [])  : ClM CX0 P w K mg base 3 c_Ring "table" "Ring.table" s_Ring_table ["self"] [] [] (spTab c_Ring c_RingLog c_Round) := by
  have nd := sc_Ring_table.nd
  refine D.okP sc_Ring_table (fun vs H Q E h => ?_) (fun f cdv A outer s H vs Q E hr h => ?_)
  · obtain ⟨a, S, rfl, _⟩ := h
    rfl
  · obtain ⟨a, S, rfl, ⟨hR, hl, hn⟩, k⟩ := h
    have hu := hu64 hr
    refine ⟨_, (pss_one (ps_ret (pe_dc (own := [("entry", 1)]) (g := gName 1) rfl nd (pi_listK (K := K) (by rfl) (pe_fld (pe_fld (pv 0) rfl) rfl)) (blkOk_by (own := [("entry", 1)]) (N := N_Ring_table) (sc := defScope s_Ring_table) (by decide +kernel)) (fun _ _ _ _ _ => (pg_name (i := 1) nd rfl (Or.inl rfl))) (fun _ _ _ _ _ => (pts_one (pt_val (pe_ix (ixSeqK (K := K) (by rfl)) (pv 1) (pe_gI N_LIVING) (fun _ _ => rfl))))) (fun _ _ _ _ _ => (pe_ix (ixSeqK (K := K) (by rfl)) (pv 1) (pe_gI N_KEY) (fun _ _ => rfl))) (fun _ _ _ _ _ => (pe_ix (ixSeqK (K := K) (by rfl)) (pv 1) (pe_gI N_VALUE) (fun _ _ => rfl)))))), ?_⟩
    try dsimp only [L2.cxOf, L2.Cx.nox]
    simp only [L2.start, N_Ring_table, List.map_cons, List.map_nil, List.length_cons, List.length_nil, Nat.reduceAdd, Nat.reduceSub, List.replicate_succ, List.replicate_zero, List.cons_append, List.nil_append]

    obtain ⟨b, d, o, hI, hb, hd, ho⟩ := hR.ex
    obtain ⟨e, ps, h1, h2⟩ := hd.ex
    walk_at "go"
    refine Gx.dcL_P (fun D i kv H' => kv = tabK (S.L.take i)) (fun D H1 _ _ _ => rfl) (fun D i v kv H' hv hD e1 hp hA => ?_) (fun D kv H' hD e1 hp hA => ?_)
    · rw [List.getElem?_map] at hv
      cases hpi : ps[i]? with
      | none => rw [hpi] at hv; cases hv
      | some p =>
        rw [hpi] at hv
        cases hv
        obtain ⟨en, hen, hE⟩ := h2.ent i p hpi
        subst hA
        have hle := livK_len (S.L.take i)
        have hlt := tab_len (S.L.take i)
        have hct := List.length_take_le' i S.L
        walk_at "gos"
        · rename_i hI
          refine Gx.g_dcP (by omega) fun H5 e5 h5 => ⟨Gx.rel, ?_⟩
          rw [tabK_take hen, if_pos hI]
          refine put_last ?_
          rw [tab_keys]
          intro hm
          obtain ⟨y, hy, hz⟩ := List.mem_map.mp hm
          exact live_not hn hen hI (Sum.inr.inj hz ▸ hy)
        · rename_i hI
          exact ⟨Gx.rel, by rw [tabK_take hen, if_neg (by simp [hI]), List.append_nil]⟩
    · subst hA
      rw [List.length_map, h2.len, List.take_of_length_le (Nat.le_refl _)] at hp
      walk_at "go"
      exact k D H' hD e1 hp
local macro_rules | `(tactic| walk_at "call") => `(tactic| ((with_reducible show spTab _ _ _ _ _ _ _); refine ⟨_, _, rfl, ⟨by infer_instance, by omega, by assumption⟩, ?_⟩; intro p_ H_ np_ e_ hp_))
/-- the first living record of a key -/
def spRea (C CL CR cU : Addr) : Sp := fun vs H Q E => ∃ (a : Addr) (S : RS) (z : Str), vs = [.ref a, .str z] ∧ (RgC C CL CR H a S ∧ S.L.length ≤ 1000 ∧ KeyOk z) ∧ (findL z S.L = none → RaiF cU "key" (.str z) H E) ∧
  (∀ i en, findL z S.L = some i → S.L[i]? = some en → ∀ H', Ex H H' → Q (.int en.v) H')
abbrev s_Ring_read : Stmt := (inClass (top 23) 14)
abbrev N_Ring_read : List Str := ["self", "key", "index"]
theorem sc_Ring_read : FnScope N_Ring_read ["self", "key"] (defScope s_Ring_read) := ⟨rfl, rfl, rfl, by decide +kernel, rfl, by decide +kernel, by decide +kernel⟩
theorem cl_Ring_read (T : Bl mg) (Z : EcF P K mg c_StoreError c_InvalidInput c_KeyLimit c_UnknownKey c_BadChoice c_Stalled) (R : RdF K mg c_Round) (W_RingLog : Gx.ClsF K mg c_RingLog "RingLog" ["entries"]) (W_Ring : Gx.ClsF K mg c_Ring "Ring" ["_places", "_limit", "_budgets", "_late", "_readers", "_log", "_done", "_phase", "_carried", "_last_wait", "_opened", "_open"]) (N_KEY : Gx.GlI mg "KEY" 0) (N_VALUE : Gx.GlI mg "VALUE" 1) (N_LIVING : Gx.GlI mg "LIVING" 2) (N_READERS : Gx.GlI mg "READERS" 3) (N_KEY_LENGTH : Gx.GlI mg "KEY_LENGTH" 12) (N_KEY_CHARACTERS : Gx.GlS mg "KEY_CHARACTERS" "abcdefghijklmnopqrstuvwxyz0123456789") (D : DfM K c_Ring "read" "Ring.read" s_Ring_read [] []) (C_RingLog_find_living : ClM CX0 P w K mg base 3 c_RingLog "find_living" "RingLog.find_living" s_RingLog_find_living ["self", "key"] [] [] (spFnl c_RingLog)) : ClM (L2.CX P w) P w K mg base 5 c_Ring "read" "Ring.read" s_Ring_read ["self", "key"] [] [] (spRea c_Ring c_RingLog c_Round c_UnknownKey) := by
  have nd := sc_Ring_read.nd
  refine D.ok sc_Ring_read (fun vs H Q E h => ?_) (fun f cdv A outer s H vs Q E hr h => ?_)
  · obtain ⟨a, S, z, rfl, _⟩ := h
    rfl
  · obtain ⟨a, S, z, rfl, ⟨hR, hl, hz⟩, k1, k2⟩ := h
    have hu := hu64 hr
    refine ⟨_, (pss_cons (ps_set (i := 2) nd rfl (Or.inl rfl) (pe_m C_RingLog_find_living W_RingLog.c (by exact hr.mono (by decide)) pass0 (fun _ _ _ _ _ _ us hl => match us, hl with | [_, _], _ => rfl) (pe_fld (pv 0) rfl) (pa_cons (pv 1) pa_nil)))
    (pss_cons (ps_if (pt_cmpR opIsN (pv 2) pe_non (nomark _))
      (pss_one (ps_raise rfl takesX (pmk1 (ex_UnknownKey Z.d_UnknownKey) (by exact hr.mono (by decide)) rfl (pa_cons (pv 1) pa_nil))))
      pss_nil)
    (pss_one (ps_ret (pe_ix (ixSeqK (K := K) (by rfl)) (pe_ix (ixSeqK (K := K) (by rfl)) (pe_fld (pe_fld (pv 0) rfl) rfl) (pv 2) (fun _ _ => rfl)) (pe_gI N_VALUE) (fun _ _ => rfl)))))), ?_⟩
    try dsimp only [L2.cxOf, L2.Cx.nox]
    simp only [L2.start, N_Ring_read, List.map_cons, List.map_nil, List.length_cons, List.length_nil, Nat.reduceAdd, Nat.reduceSub, List.replicate_succ, List.replicate_zero, List.cons_append, List.nil_append]

    have hz1 : z.length ≤ 100 := Nat.le_trans hz.2.1 (by decide)
    have hz2 := hz.lt
    obtain ⟨b, d, o, hI, hb, hd, ho⟩ := hR.ex
    obtain ⟨e, ps, h1, h2⟩ := hd.ex
    walk_at "go"
    cases hf : findL z S.L with
    | none =>
      dsimp only [oV]
      walk_at "gos"
      rename_i H1 e1 x H2 n2 e2 h2
      exact k1 hf x H2 ⟨e1.live _ n2.eq⟩ (e1.trans e2) h2
    | some i =>
      have hi := findL_lt hf
      obtain ⟨p, hp, hE⟩ := h2.get (List.getElem?_eq_getElem hi)
      dsimp only [oV]
      walk_at "gos"
      refine Gx.g_ixN (n := i) (by rw [List.getElem?_map, hp]; rfl) ?_
      walk_at "gos"
      exact k2 i _ hf (List.getElem?_eq_getElem hi) _ Gx.rel
def spAge (C CL CR cU : Addr) : Sp := fun vs H Q E => ∃ (a : Addr) (S : RS) (z : Str), vs = [.ref a, .str z] ∧ (RgC C CL CR H a S ∧ S.L.length ≤ 1000 ∧ KeyOk z) ∧ (findL z S.L = none → RaiF cU "key" (.str z) H E) ∧
  (∀ i, findL z S.L = some i → ∀ H', Ex H H' → Q (.int ((S.L.length : Nat) - (i : Nat))) H')
abbrev s_Ring_age : Stmt := (inClass (top 23) 18)
abbrev N_Ring_age : List Str := ["self", "key", "index"]
theorem sc_Ring_age : FnScope N_Ring_age ["self", "key"] (defScope s_Ring_age) := ⟨rfl, rfl, rfl, by decide +kernel, rfl, by decide +kernel, by decide +kernel⟩
theorem cl_Ring_age (T : Bl mg) (Z : EcF P K mg c_StoreError c_InvalidInput c_KeyLimit c_UnknownKey c_BadChoice c_Stalled) (R : RdF K mg c_Round) (W_RingLog : Gx.ClsF K mg c_RingLog "RingLog" ["entries"]) (W_Ring : Gx.ClsF K mg c_Ring "Ring" ["_places", "_limit", "_budgets", "_late", "_readers", "_log", "_done", "_phase", "_carried", "_last_wait", "_opened", "_open"]) (N_KEY : Gx.GlI mg "KEY" 0) (N_VALUE : Gx.GlI mg "VALUE" 1) (N_LIVING : Gx.GlI mg "LIVING" 2) (N_READERS : Gx.GlI mg "READERS" 3) (N_KEY_LENGTH : Gx.GlI mg "KEY_LENGTH" 12) (N_KEY_CHARACTERS : Gx.GlS mg "KEY_CHARACTERS" "abcdefghijklmnopqrstuvwxyz0123456789") (D : DfM K c_Ring "age" "Ring.age" s_Ring_age [] []) (C_RingLog_find_living : ClM CX0 P w K mg base 3 c_RingLog "find_living" "RingLog.find_living" s_RingLog_find_living ["self", "key"] [] [] (spFnl c_RingLog)) : ClM (L2.CX P w) P w K mg base 5 c_Ring "age" "Ring.age" s_Ring_age ["self", "key"] [] [] (spAge c_Ring c_RingLog c_Round c_UnknownKey) := by
  have nd := sc_Ring_age.nd
  refine D.ok sc_Ring_age (fun vs H Q E h => ?_) (fun f cdv A outer s H vs Q E hr h => ?_)
  · obtain ⟨a, S, z, rfl, _⟩ := h
    rfl
  · obtain ⟨a, S, z, rfl, ⟨hR, hl, hz⟩, k1, k2⟩ := h
    have hu := hu64 hr
    refine ⟨_, (pss_cons (ps_set (i := 2) nd rfl (Or.inl rfl) (pe_m C_RingLog_find_living W_RingLog.c (by exact hr.mono (by decide)) pass0 (fun _ _ _ _ _ _ us hl => match us, hl with | [_, _], _ => rfl) (pe_fld (pv 0) rfl) (pa_cons (pv 1) pa_nil)))
    (pss_cons (ps_if (pt_cmpR opIsN (pv 2) pe_non (nomark _))
      (pss_one (ps_raise rfl takesX (pmk1 (ex_UnknownKey Z.d_UnknownKey) (by exact hr.mono (by decide)) rfl (pa_cons (pv 1) pa_nil))))
      pss_nil)
    (pss_one (ps_ret (pe_op opSub (pe_callB (callLenK (K := K) (by rfl)) (by rfl) T.len (by decide +kernel) (pa_cons (pe_fld (pe_fld (pv 0) rfl) rfl) pa_nil)) (pv 2)))))), ?_⟩
    try dsimp only [L2.cxOf, L2.Cx.nox]
    simp only [L2.start, N_Ring_age, List.map_cons, List.map_nil, List.length_cons, List.length_nil, Nat.reduceAdd, Nat.reduceSub, List.replicate_succ, List.replicate_zero, List.cons_append, List.nil_append]

    have hz1 : z.length ≤ 100 := Nat.le_trans hz.2.1 (by decide)
    have hz2 := hz.lt
    obtain ⟨b, d, o, hI, hb, hd, ho⟩ := hR.ex
    obtain ⟨e, ps, h1, h2⟩ := hd.ex
    have hpn := h2.len
    walk_at "go"
    cases hf : findL z S.L with
    | none =>
      dsimp only [oV]
      walk_at "gos"
      rename_i H1 e1 x H2 n2 e2 h2
      exact k1 hf x H2 ⟨e1.live _ n2.eq⟩ (e1.trans e2) h2
    | some i =>
      dsimp only [oV]
      walk_at "gos"
      rw [hpn]
      exact k2 i hf _ Gx.rel
/-! scan -/
/-- the pairs of these keys with their values -/
def PrsAt (H : Hp) (ys : List V) (ks : List Str) (g : Str → V) : Prop := ys.length = ks.length ∧ ∀ (i : Nat) v, ys[i]? = some v → ∃ z t, ks[i]? = some z ∧ v = .ref t ∧ H t = some (.tup [.str z, g z])
def tabV (L : List En) (z : Str) : V := (valV (tabK L) (.inr z)).getD .non
theorem PrsAt.snoc {H H2 : Hp} {bs : List Addr} {ys : List V} {ks : List Str} {g : Str → V} {z : Str} {t : Addr} (h : PrsAt H ys ks g) (r : Chg bs H H2) (ht : H2 t = some (.tup [.str z, g z])) : PrsAt H2 (ys ++ [.ref t]) (ks ++ [z]) g := ⟨by rw [List.length_append, List.length_append, h.1]; rfl, fun i v hv => by
  by_cases hi : i < ys.length
  · rw [List.getElem?_append_left hi] at hv
    obtain ⟨z', t', g1, g2, g3⟩ := h.2 i v hv
    exact ⟨z', t', by rw [List.getElem?_append_left (by rw [← h.1]; exact hi)]; exact g1, g2, r.imm _ _ (.inl ⟨_, rfl⟩) g3⟩
  · rw [List.getElem?_append_right (by omega)] at hv
    have hz : i - ys.length = 0 := by
      have := (List.getElem?_eq_some_iff.mp hv).1
      simp at this
      omega
    rw [hz] at hv
    obtain rfl : V.ref t = v := by simpa using hv
    exact ⟨z, t, by rw [List.getElem?_append_right (by rw [← h.1]; omega), ← h.1, hz]; rfl, rfl, ht⟩⟩
def spScn (C CL CR : Addr) : SpG := fun vs H Q _ => ∃ (a : Addr) (S : RS), vs = [.ref a] ∧ (RgC C CL CR H a S ∧ S.L.length ≤ 1000 ∧ (livK S.L).Nodup) ∧ ∀ (ks : List Str) ys H', Ex H H' → ks.Perm (livK S.L) → ks.Pairwise (fun a b => ¬ SrtZ.zlt b a) → PrsAt H' ys ks (tabV S.L) → Q ys H'
abbrev s_Ring_scan : Stmt := (inClass (top 23) 17)
abbrev N_Ring_scan : List Str := ["self", "found", "key"]
theorem sc_Ring_scan : GScope N_Ring_scan ["self"] (defScope s_Ring_scan) := ⟨rfl, rfl, rfl, by decide +kernel, rfl, by decide +kernel, by decide +kernel⟩
theorem cl_Ring_scan (T : Bl mg) (Z : EcF P K mg c_StoreError c_InvalidInput c_KeyLimit c_UnknownKey c_BadChoice c_Stalled) (R : RdF K mg c_Round) (W_RingLog : Gx.ClsF K mg c_RingLog "RingLog" ["entries"]) (W_Ring : Gx.ClsF K mg c_Ring "Ring" ["_places", "_limit", "_budgets", "_late", "_readers", "_log", "_done", "_phase", "_carried", "_last_wait", "_opened", "_open"]) (N_KEY : Gx.GlI mg "KEY" 0) (N_VALUE : Gx.GlI mg "VALUE" 1) (N_LIVING : Gx.GlI mg "LIVING" 2) (N_READERS : Gx.GlI mg "READERS" 3) (N_KEY_LENGTH : Gx.GlI mg "KEY_LENGTH" 12) (N_KEY_CHARACTERS : Gx.GlS mg "KEY_CHARACTERS" "abcdefghijklmnopqrstuvwxyz0123456789") (D : DfM K c_Ring "scan" "Ring.scan" s_Ring_scan [] []) (C_Ring_table : ClM CX0 P w K mg base 3 c_Ring "table" "Ring.table" s_Ring_table ["self"] [] [] (spTab c_Ring c_RingLog c_Round)) : Gx.ClMY P w K mg base 5 c_Ring "scan" "Ring.scan" s_Ring_scan ["self"] (spScn c_Ring c_RingLog c_Round) := by
  have nd := sc_Ring_scan.nd
  refine Gx.DfM.okY D sc_Ring_scan (fun vs H Q E h => ?_) (fun f cdv A outer s H vs Q E pn hr h => ?_)
  · obtain ⟨a, S, rfl, _⟩ := h
    rfl
  · obtain ⟨a, S, rfl, ⟨hR, hl, hn⟩, k⟩ := h
    have hu := hu64 hr
    refine ⟨_, (gss_cons (gs_ps (ps_set (i := 1) nd rfl (Or.inl rfl) (pe_m0 C_Ring_table W_Ring.c (by exact hr.mono (by decide)) pass0 (fun _ _ _ _ _ _ us hl => match us, hl with | [_], _ => rfl) (pv 0))))
    (gss_cons (gs_for owns_gcx rfl (pi_listK (K := K) (by rfl) (pe_callB (Gx.callSrtZ (K := K) (by rfl)) (by rfl) T.sorted (by decide +kernel) (pa_cons (pe_callTy (L2.call_list_dK rfl) (by rfl) T.list (by decide +kernel) (pa_cons (pv 1) pa_nil)) pa_nil))) (pg_name (i := 2) nd rfl (Or.inl rfl))
      (gss_cons (gs_yield (pe_tup (pa_cons (pv 2) (pa_cons (pe_dget (hu1 (by exact hu)) (pv 1) (pv 2) (fun _ _ => rfl)) pa_nil))))
    gss_nil))
    gss_nil)), ?_⟩
    try dsimp only [L2.cxOf, L2.Cx.nox, L2.gcxOf]
    simp only [L2.start, N_Ring_scan, List.map_cons, List.map_nil, List.length_cons, List.length_nil, Nat.reduceAdd, Nat.reduceSub, List.replicate_succ, List.replicate_zero, List.cons_append, List.nil_append]

    walk_at "go"
    rename_i p1 H1 n1 e1 h1
    refine Gx.g_lstD fun p2 H2 n2 e2 h2 => ?_
    have e0 : (tabK S.L).map (fun kv => kV kv.1) = (livK S.L).map V.str := by
      unfold tabK livK
      rw [List.map_map, List.map_map]
      rfl
    rw [e0] at h2
    walk_at "go"
    refine Gx.g_srtZ fun p3 ks H3 n3 e3 h3 hp ha => ?_
    have hkl := hp.length_eq
    have hll := livK_len S.L
    walk_at "go"
    refine Gx.gforL [] (fun i ys' σ' H' => (∃ s2, σ' = [some (.ref a), some (.ref p1), s2]) ∧ PrsAt H' ys' (ks.take i) (tabV S.L)) ⟨⟨_, rfl⟩, rfl, fun j v hj => by simp at hj⟩ ?_ ?_
    · rintro i x ys' σ' H' hx e ⟨⟨s2, rfl⟩, hP⟩
      obtain ⟨z, hz, rfl⟩ : ∃ z, ks[i]? = some z ∧ x = .str z := by
        rw [List.getElem?_map] at hx
        cases hk : ks[i]? with
        | none => rw [hk] at hx; cases hx
        | some z => rw [hk] at hx; exact ⟨z, rfl, (Option.some.inj hx).symm⟩
      have hi : i < ks.length := (List.getElem?_eq_some_iff.mp hz).1
      have hyl := hP.1
      rw [List.length_take] at hyl
      have hm : z ∈ livK S.L := hp.mem_iff.mp (List.mem_of_getElem? hz)
      obtain ⟨v, hv⟩ : ∃ v, valV (tabK S.L) (.inr z) = some v := by
        cases hv : valV (tabK S.L) (.inr z) with
        | some v => exact ⟨v, rfl⟩
        | none =>
          unfold valV at hv
          rw [Option.map_eq_none_iff, List.find?_eq_none] at hv
          obtain ⟨q, hq, hq2⟩ := List.mem_map.mp (show (Sum.inr z : Key) ∈ (tabK S.L).map (·.1) from by rw [tab_keys]; exact List.mem_map.mpr ⟨z, hm, rfl⟩)
          exact absurd (decide_eq_true hq2) (by simpa using hv q hq)
      have h1' : At H' p1 (.dK (tabK S.L)) := inferInstance
      walk_at "go"
      refine Gx.g_dgetK hv ?_
      walk_at "go"
      rename_i t H6 n6 e6 h6
      refine Gx.gli ⟨⟨_, rfl⟩, ?_⟩
      rw [List.take_succ, hz]
      refine hP.snoc (bs := []) Gx.rel (h6.eq.trans ?_)
      unfold tabV
      rw [hv]
      rfl
    · rintro ys' σ' H' e ⟨⟨s2, rfl⟩, hP⟩
      rw [List.length_map, List.take_of_length_le (Nat.le_refl _)] at hP
      walk_at "go"
      exact k ks ys' _ Gx.rel hp ha hP

section
variable {σ : L2.St} {H : Hp} {a c d x : Addr} {D : Ends} {W : WS} {i : Int}
theorem st_chain [h : At H a (.dK (W.kvs c d))] (C2 : List LE) (q : ∀ H2, ExB a H H2 → At H2 a (.dK ({ W with C := C2 }.kvs c x)) → D.nx σ H2) : Gx.rDPut (.ref a) (.str "chain") (.ref x) D σ H := Gx.g_dputK (kvk := W.kvs c d) (k := .inr "chain") (by simp) q
theorem st_done [h : At H a (.dK (W.kvs c d))] (q : ∀ H2, ExB a H H2 → At H2 a (.dK ({ W with dn := i }.kvs c d)) → D.nx σ H2) : Gx.rDPut (.ref a) (.str "done") (.int i) D σ H := Gx.g_dputK (kvk := W.kvs c d) (k := .inr "done") (by simp) q
theorem st_turn [h : At H a (.dK (W.kvs c d))] (q : ∀ H2, ExB a H H2 → At H2 a (.dK ({ W with turn := i }.kvs c d)) → D.nx σ H2) : Gx.rDPut (.ref a) (.str "turn") (.int i) D σ H := Gx.g_dputK (kvk := W.kvs c d) (k := .inr "turn") (by simp) q
end
theorem ne_rgwd {C CL CR r a c d : Addr} {S : RS} {W : WS} {ps : List Addr} {H : Hp} (h : RgC C CL CR H r S) (k : WdC H a W c d ps) : Gx.NeC a r ∧ Gx.NeC c r ∧ Gx.NeC r a ∧ Gx.NeC c a := by
  obtain ⟨b, e, o, h1, _⟩ := h.ex
  obtain ⟨dx, h1⟩ := h1.ex
  refine ⟨⟨?_⟩, ⟨?_⟩, ⟨?_⟩, ⟨?_⟩⟩
  · rintro rfl
    rw [k.dic.eq] at h1
    cases h1
  · rintro rfl
    rw [k.cyc.eq] at h1
    cases h1
  · rintro rfl
    rw [k.dic.eq] at h1
    cases h1
  · rintro rfl
    have := k.cyc.eq
    rw [k.dic.eq] at this
    cases this
theorem ne_bk {C CL CR r c d a bk : Addr} {S : RS} {W : WS} {ps : List Addr} {H : Hp} {kv : List (Key × V)} (h : RgC C CL CR H r S) (k : WdC H a W c d ps) (hb : At H bk (.dK kv)) : Gx.NeC bk r ∧ Gx.NeC c bk ∧ Gx.NeC r bk := by
  obtain ⟨b, e, o, h1, _⟩ := h.ex
  obtain ⟨dx, h1⟩ := h1.ex
  refine ⟨⟨?_⟩, ⟨?_⟩, ⟨?_⟩⟩
  · rintro rfl
    rw [hb.eq] at h1
    cases h1
  · rintro rfl
    have := k.cyc.eq
    rw [hb.eq] at this
    cases this
  · rintro rfl
    rw [hb.eq] at h1
    cases h1
instance othDK {H : Hp} {b : Addr} {kv : List (Key × V)} [h : At H b (.dK kv)] : OthC H b := ⟨_, h.eq, .inr ⟨(fun _ z => by cases z), (fun _ _ _ z => by cases z)⟩⟩
theorem ifn {c : Prop} [Decidable c] {A B : Prop} (h : ¬ c) (q : B) : if c then A else B := by rw [if_neg h]; exact q
theorem ifp {c : Prop} [Decidable c] {A B : Prop} (h : c) (q : A) : if c then A else B := by rw [if_pos h]; exact q
def spMove (C CL CR : Addr) : Sp := fun vs H Q _ => ∃ (r a : Addr) (W : WS) (c0 d : Addr) (ps : List Addr) (z : Str) (w c : Option Int) (n : Int), vs = [.ref r, .ref a, .str z, cV w, cV c] ∧
  (RgC C CL CR H r W.rs ∧ WdC H a W c0 d ps ∧ At H W.bk (.dK (bookK W.B)) ∧ WOk n W ∧ BkOk W ∧ Gx.NeC a W.bk ∧ n < 2 ^ 58 ∧ KeyOk z ∧ WthOk w ∧ TlOk c) ∧
  ∀ H' W' d' ps', Chg [r, a, W.bk] H H' → RgC C CL CR H' r W'.rs → WdC H' a W' c0 d' ps' → At H' W'.bk (.dK (bookK W'.B)) → WOk (n + 1) W' → BkOk W' → W'.bk = W.bk → Q (.bl true) H'
abbrev s_law_move : Stmt := (top 46)
abbrev N_law_move : List Str := ["_law_ring_here", "_law_world_here", "_law_name_here", "_law_worth_here", "_law_tally_here", "_law_due_here", "_law_book"]
theorem sc_law_move : FnScope N_law_move ["_law_ring_here", "_law_world_here", "_law_name_here", "_law_worth_here", "_law_tally_here"] (defScope s_law_move) := ⟨rfl, rfl, rfl, by decide +kernel, rfl, by decide +kernel, by decide +kernel⟩
theorem cl_law_move (T : Bl mg) (Z : EcF P K mg c_StoreError c_InvalidInput c_KeyLimit c_UnknownKey c_BadChoice c_Stalled) (R : RdF K mg c_Round) (W_RingLog : Gx.ClsF K mg c_RingLog "RingLog" ["entries"]) (W_Ring : Gx.ClsF K mg c_Ring "Ring" ["_places", "_limit", "_budgets", "_late", "_readers", "_log", "_done", "_phase", "_carried", "_last_wait", "_opened", "_open"]) (N_KEY : Gx.GlI mg "KEY" 0) (N_VALUE : Gx.GlI mg "VALUE" 1) (N_LIVING : Gx.GlI mg "LIVING" 2) (N_READERS : Gx.GlI mg "READERS" 3) (N_KEY_LENGTH : Gx.GlI mg "KEY_LENGTH" 12) (N_KEY_CHARACTERS : Gx.GlS mg "KEY_CHARACTERS" "abcdefghijklmnopqrstuvwxyz0123456789") (D : DfG K mg "_law_move" s_law_move [] []) (C_law_deed : ClG CX0 P w K mg base 15 "_law_deed" s_law_deed ["_law_ring_here", "_law_name_here", "_law_worth_here", "_law_tally_here"] [] [] (spDed c_Ring c_RingLog c_Round)) (C_law_due : ClG CX0 P w K mg base 7 "_law_due" s_law_due ["_law_world_here", "_law_name_here", "_law_worth_here", "_law_tally_here"] [] [] spDue) : ClG CX0 P w K mg base 17 "_law_move" s_law_move ["_law_ring_here", "_law_world_here", "_law_name_here", "_law_worth_here", "_law_tally_here"] [] [] (spMove c_Ring c_RingLog c_Round) := by
  have nd := sc_law_move.nd
  refine D.okP sc_law_move (fun vs H Q E h => ?_) (fun f cdv A outer s H vs Q E hr h => ?_)
  · obtain ⟨r, a, W, c0, d, ps, z, w, c, n, rfl, _⟩ := h
    rfl
  · obtain ⟨r, a, W, c0, d, ps, z, w, c, n, rfl, ⟨hR, hW, hB, hok, hbk, na, hn, hz, hw, hc⟩, k⟩ := h
    have hu := hu64 hr
    refine ⟨_, (pss_cons (ps_set (i := 5) nd rfl (Or.inl rfl) (pe_g C_law_due (by exact hr.mono (by decide)) (E := fun _ => E0) (fun σ => passC0 σ) (fun _ _ _ _ _ _ us hl => match us, hl with | [_, _, _, _], _ => rfl) (pa_cons (pv 1) (pa_cons (pv 2) (pa_cons (pv 3) (pa_cons (pv 4) pa_nil))))))
    (pss_cons (ps_if (pt_cmpR (opNeK (K := K) (by rfl) (by exact hu)) (pe_g C_law_deed (by exact hr.mono (by decide)) (E := fun _ => E0) (fun σ => passC0 σ) (fun _ _ _ _ _ _ us hl => match us, hl with | [_, _, _, _], _ => rfl) (pa_cons (pv 0) (pa_cons (pv 2) (pa_cons (pv 3) (pa_cons (pv 4) pa_nil))))) (pe_callTy callInt (by rfl) T.int (by decide +kernel) (pa_cons (pe_cmpR (opEqK (K := K) (by rfl) (by exact hu)) (pe_ix (ixSeqK (K := K) (by rfl)) (pv 5) pe_int (fun _ _ => rfl)) pe_str (nomark _)) pa_nil)) (nomark _))
      (pss_one (ps_ret pe_bl))
      pss_nil)
    (pss_cons (ps_if (pt_cmpR (opNeK (K := K) (by rfl) (by exact hu)) (pe_ix (ixSeqK (K := K) (by rfl)) (pv 5) pe_int (fun _ _ => rfl)) pe_str (nomark _))
      (pss_one (ps_ret pe_bl))
      pss_nil)
    (pss_cons (ps_set (i := 6) nd rfl (Or.inl rfl) (pe_dget (hu1 (by exact hu)) (pv 1) pe_str (fun _ _ => rfl)))
    (pss_cons (ps_if (pt_cmpR opIsN (pv 3) pe_non (nomark _))
      (pss_one (ps_expr (L2.pe_dpop1 (pv 6) (pv 2) (by exact ⟨rfl, rfl, rfl, rfl⟩))))
      (pss_one (ps_dput (hu1 (by exact hu)) (pv 6) (pv 2) (pv 3) rfl)))
    (pss_cons (ps_dput (hu1 (by exact hu)) (pv 1) pe_str (pe_ix (ixSeqK (K := K) (by rfl)) (pv 5) pe_int (fun _ _ => rfl)) rfl)
    (pss_cons (ps_dput (hu1 (by exact hu)) (pv 1) pe_str (pe_op (opAddK (K := K) (by rfl)) (pe_dget (hu1 (by exact hu)) (pv 1) pe_str (fun _ _ => rfl)) pe_int) rfl)
    (pss_cons (ps_dput (hu1 (by exact hu)) (pv 1) pe_str (pe_op opMod (pe_callTy callInt (by rfl) T.int (by decide +kernel) (pa_cons (pe_op (opAddK (K := K) (by rfl)) (pe_dget (hu1 (by exact hu)) (pv 1) pe_str (fun _ _ => rfl)) pe_int) pa_nil)) (pe_callB (callLenK (K := K) (by rfl)) (by rfl) T.len (by decide +kernel) (pa_cons (pe_dget (hu1 (by exact hu)) (pv 1) pe_str (fun _ _ => rfl)) pa_nil))) rfl)
    (pss_one (ps_ret pe_bl)))))))))), ?_⟩
    try dsimp only [L2.cxOf, L2.Cx.nox]
    simp only [L2.start, N_law_move, List.map_cons, List.map_nil, List.length_cons, List.length_nil, Nat.reduceAdd, Nat.reduceSub, List.replicate_succ, List.replicate_zero, List.cons_append, List.nil_append]

    obtain ⟨ne1, ne2, ne3, ne5⟩ := ne_rgwd hR hW
    obtain ⟨ne6, ne7, ne8⟩ := ne_bk hR hW hB
    have ne9 : Gx.NeC W.bk a := ⟨fun h => na.ne h.symm⟩
    obtain ⟨hd, hcy, hch⟩ := (show WdC H a W c0 d ps from hW)
    have hpl := hch.len
    have hln := hok.ln
    have hp2 := hok.tm.p2
    have hn9 : n < 2 ^ 59 := by omega
    walk_at "go"
    by_cases hD : Dn W z w c
    · refine ⟨a, W, c0, d, ps, z, w, c, n, rfl, ⟨inferInstance, hok, hn9, hc⟩, fun _ t q qs H3 n3 e3 ht hq => ?_, fun hh => absurd hD hh⟩
      walk_at "go"
      refine ⟨r, W, z, w, c, n, rfl, ⟨inferInstance, hok, hn9, hz, hw, hc⟩, fun _ H5 e5 hR5 => ?_, fun hh => absurd hD hh⟩
      have hW5 : WdC H5 a W c0 d ps := inferInstance
      have hB5 : At H5 W.bk (.dK (bookK W.B)) := inferInstance
      have hq5 : ChC H5 q qs (resE W z w c) := inferInstance
      obtain ⟨hd5, hcy5, hch5⟩ := (show WdC H5 a W c0 d ps from hW5)
      walk_at "go"
      refine ifn (by simp) ?_
      walk_at "go"
      refine ifn (by simp) ?_
      have hb := hok.tm.bud
      have hBl := hbk.len hok
      have hll := livs_len W.C
      have hbl : (bookK W.B).length = W.B.length := List.length_map ..
      walk_at "go"
      refine ite_join (fun σ' H8 => σ' = [some (.ref r), some (.ref a), some (.str z), some (cV w), some (cV c), some (.ref t), some (.ref W.bk)] ∧ ExB W.bk H5 H8 ∧ At H8 W.bk (.dK (bookK (nextV W z w c).B))) (fun N hk => ?_) ?_
      · cases w with
        | none =>
          obtain ⟨e0, _, _, _, hv⟩ := hbk.at (hD.ex rfl)
          refine ifp (by simp) ?_
          walk_at "go"
          refine Gx.g_dpop1 ?_
          walk_at "go"
          refine Gx.g_dpopE hv fun H8 e8 h8 => ?_
          rw [drop_book] at h8
          walk_at "go"
          exact hk _ _ ⟨rfl, e8, h8⟩
        | some v =>
          refine ifn (by simp) ?_
          simp only [cV_s]
          walk_at "go"
          refine Gx.g_dputK (by omega) fun H8 e8 h8 => ?_
          rw [put_book] at h8
          exact hk _ _ ⟨rfl, e8, h8⟩
      rintro σ' H8 ⟨rfl, e8, h8⟩
      have hcl : (List.map V.int W.T.bs).length = W.T.bs.length := List.length_map ..
      have hb1 := hb.1
      have hb2 := hb.2.1
      have hR8 : RgC c_Ring c_RingLog c_Round H8 r (nextV W z w c).rs := (inferInstance : RgC c_Ring c_RingLog c_Round H8 r (nextW W z w c).rs)
      have hW8 : WdC H8 a W c0 d ps := inferInstance
      have hq8 : ChC H8 q qs (resE W z w c) := inferInstance
      obtain ⟨hd8, hcy8, hch8⟩ := (show WdC H8 a W c0 d ps from hW8)
      walk_at "go"
      refine st_chain (resE W z w c) fun H9 e9 h9 => ?_
      walk_at "go"
      refine st_done fun H10 e10 h10 => ?_
      walk_at "go"
      refine st_turn fun H11 e11 h11 => ?_
      walk_at "go"
      exact k H11 (nextV W z w c) q qs Gx.rel (inferInstance : RgC c_Ring c_RingLog c_Round H11 r (nextV W z w c).rs) ⟨h11, inferInstance, inferInstance⟩ (inferInstance : At H11 W.bk (.dK (bookK (nextV W z w c).B))) ((hok.next hz hw hD).setB _) (hbk.next hok) rfl
    · refine ⟨a, W, c0, d, ps, z, w, c, n, rfl, ⟨inferInstance, hok, hn9, hc⟩, fun hh => absurd hh hD, fun _ t s x y H3 n3 e3 ht hs => ?_⟩
      walk_at "go"
      refine ⟨r, W, z, w, c, n, rfl, ⟨inferInstance, hok, hn9, hz, hw, hc⟩, fun hh => absurd hh hD, fun _ H5 e5 => ?_⟩
      have hW5 : WdC H5 a W c0 d ps := inferInstance
      have hR5 : RgC c_Ring c_RingLog c_Round H5 r W.rs := inferInstance
      walk_at "go"
      refine ifn (by simp [hs]) ?_
      walk_at "go"
      refine ifp (by simp [hs]) ?_
      walk_at "go"
      exact k _ W d ps Gx.rel hR5 hW5 inferInstance (hok.mono (by omega)) hbk rfl

def spRd (C CL CR : Addr) : Sp := fun vs H Q _ => ∃ (r : Addr) (W : WS) (z : Str) (n : Int), vs = [.ref r, .str z] ∧ (RgC C CL CR H r W.rs ∧ WOk n W ∧ KeyOk z) ∧
  (∀ e t H', e ∈ W.C → e.l = true → e.k = z → Nw H t → Ex H H' → At H' t (.tup [.str "value", .int (e.w.getD 0)]) → Q (.ref t) H') ∧
  (z ∉ livs W.C → ∀ t H', Nw H t → Ex H H' → At H' t (.tup [.str "unknown", .str z]) → Q (.ref t) H')
theorem find_en {z : Str} {C : List LE} {i : Nat} {en : En} (h : findL z (C.map LE.en) = some i) (hi : (C.map LE.en)[i]? = some en) : ∃ e, C[i]? = some e ∧ e.l = true ∧ e.k = z ∧ en = e.en := by
  rw [List.getElem?_map] at hi
  cases hC : C[i]? with
  | none => rw [hC] at hi; cases hi
  | some e =>
    rw [hC] at hi
    cases hi
    rw [findL_en] at h
    obtain ⟨h1, h2, _⟩ := List.findIdx?_eq_some_iff_getElem.mp h
    obtain ⟨h3, h4⟩ := List.getElem?_eq_some_iff.mp hC
    rw [h4] at h2
    simp only [Bool.and_eq_true, decide_eq_true_eq] at h2
    exact ⟨e, rfl, h2.1, h2.2, rfl⟩
abbrev s_law_read : Stmt := (top 47)
abbrev N_law_read : List Str := ["_law_ring_here", "_law_name_here", "raised"]
theorem sc_law_read : FnScope N_law_read ["_law_ring_here", "_law_name_here"] (defScope s_law_read) := ⟨rfl, rfl, rfl, by decide +kernel, rfl, by decide +kernel, by decide +kernel⟩
theorem cl_law_read (T : Bl mg) (Z : EcF P K mg c_StoreError c_InvalidInput c_KeyLimit c_UnknownKey c_BadChoice c_Stalled) (R : RdF K mg c_Round) (W_RingLog : Gx.ClsF K mg c_RingLog "RingLog" ["entries"]) (W_Ring : Gx.ClsF K mg c_Ring "Ring" ["_places", "_limit", "_budgets", "_late", "_readers", "_log", "_done", "_phase", "_carried", "_last_wait", "_opened", "_open"]) (N_KEY : Gx.GlI mg "KEY" 0) (N_VALUE : Gx.GlI mg "VALUE" 1) (N_LIVING : Gx.GlI mg "LIVING" 2) (N_READERS : Gx.GlI mg "READERS" 3) (N_KEY_LENGTH : Gx.GlI mg "KEY_LENGTH" 12) (N_KEY_CHARACTERS : Gx.GlS mg "KEY_CHARACTERS" "abcdefghijklmnopqrstuvwxyz0123456789") (D : DfG K mg "_law_read" s_law_read [] []) (C_Ring_read : ClM (L2.CX P w) P w K mg base 5 c_Ring "read" "Ring.read" s_Ring_read ["self", "key"] [] [] (spRea c_Ring c_RingLog c_Round c_UnknownKey)) : ClG CX0 P w K mg base 7 "_law_read" s_law_read ["_law_ring_here", "_law_name_here"] [] [] (spRd c_Ring c_RingLog c_Round) := by
  have nd := sc_law_read.nd
  refine D.okP sc_law_read (fun vs H Q E h => ?_) (fun f cdv A outer s H vs Q E hr h => ?_)
  · obtain ⟨r, W, z, n, rfl, _⟩ := h
    rfl
  · obtain ⟨r, W, z, n, rfl, ⟨hR, hok, hz⟩, k1, k2⟩ := h
    have hu := hu64 hr
    refine ⟨_, (pss_one (ps_try_as (c := .ref c_UnknownKey) rfl rfl nd (i := 2) rfl rfl ⟨by rfl, by decide, .inl Z.g_UnknownKey⟩ takes0 (fun W pn xe tk po => (pss_one (ps_ret (pe_tup (pa_cons pe_str (pa_cons (pe_mD C_Ring_read W_Ring.c (by exact hr.mono (by decide)) (fun σ => passC tk σ) (fun _ _ _ _ _ _ us hl => match us, hl with | [_, _], _ => rfl) (pv 0) (pa_cons (pv 1) pa_nil)) pa_nil))))))
      (fun a oe cls d pn hz hf => (pss_one (ps_ret (pe_tup (pa_cons pe_str (pa_cons (pe_xsK (K := K) (by rfl) (List.mem_cons_self ..) hz hf (pv 2)) pa_nil)))))))), ?_⟩
    try dsimp only [L2.cxOf, L2.Cx.nox]
    simp only [L2.start, N_law_read, List.map_cons, List.map_nil, List.length_cons, List.length_nil, Nat.reduceAdd, Nat.reduceSub, List.replicate_succ, List.replicate_zero, List.cons_append, List.nil_append]

    have hln := hok.ln
    have hp2 := hok.tm.p2
    have hcl : W.rs.L.length = W.C.length := List.length_map ..
    walk_at "gos"
    refine ⟨r, W.rs, z, rfl, ⟨hR, by omega, hz⟩, fun hf d H1 n1 e1 h1 => ?_, fun i en hf hi H1 e1 => ?_⟩
    · walk_at "gos"
      exact k2 (findL_none.mp hf) _ _ Gx.new Gx.rel inferInstance
    · obtain ⟨e, h1, h2, h3, rfl⟩ := find_en hf hi
      walk_at "gos"
      exact k1 e _ _ (List.mem_of_getElem? h1) h2 h3 Gx.new Gx.rel inferInstance
def depE (z : Str) (C : List LE) : Int := match findL z (C.map LE.en) with
  | some i => (C.length : Int) - (i : Nat)
  | none => 0
def spAg (C CL CR : Addr) : Sp := fun vs H Q _ => ∃ (r : Addr) (W : WS) (z : Str) (n : Int), vs = [.ref r, .str z] ∧ (RgC C CL CR H r W.rs ∧ WOk n W ∧ KeyOk z) ∧
  (z ∈ livs W.C → ∀ t H', Nw H t → Ex H H' → At H' t (.tup [.str "depth", .int (depE z W.C)]) → Q (.ref t) H') ∧
  (z ∉ livs W.C → ∀ t H', Nw H t → Ex H H' → At H' t (.tup [.str "unknown", .str z]) → Q (.ref t) H')
abbrev s_law_age : Stmt := (top 48)
abbrev N_law_age : List Str := ["_law_ring_here", "_law_name_here", "raised"]
theorem sc_law_age : FnScope N_law_age ["_law_ring_here", "_law_name_here"] (defScope s_law_age) := ⟨rfl, rfl, rfl, by decide +kernel, rfl, by decide +kernel, by decide +kernel⟩
theorem cl_law_age (T : Bl mg) (Z : EcF P K mg c_StoreError c_InvalidInput c_KeyLimit c_UnknownKey c_BadChoice c_Stalled) (R : RdF K mg c_Round) (W_RingLog : Gx.ClsF K mg c_RingLog "RingLog" ["entries"]) (W_Ring : Gx.ClsF K mg c_Ring "Ring" ["_places", "_limit", "_budgets", "_late", "_readers", "_log", "_done", "_phase", "_carried", "_last_wait", "_opened", "_open"]) (N_KEY : Gx.GlI mg "KEY" 0) (N_VALUE : Gx.GlI mg "VALUE" 1) (N_LIVING : Gx.GlI mg "LIVING" 2) (N_READERS : Gx.GlI mg "READERS" 3) (N_KEY_LENGTH : Gx.GlI mg "KEY_LENGTH" 12) (N_KEY_CHARACTERS : Gx.GlS mg "KEY_CHARACTERS" "abcdefghijklmnopqrstuvwxyz0123456789") (D : DfG K mg "_law_age" s_law_age [] []) (C_Ring_age : ClM (L2.CX P w) P w K mg base 5 c_Ring "age" "Ring.age" s_Ring_age ["self", "key"] [] [] (spAge c_Ring c_RingLog c_Round c_UnknownKey)) : ClG CX0 P w K mg base 7 "_law_age" s_law_age ["_law_ring_here", "_law_name_here"] [] [] (spAg c_Ring c_RingLog c_Round) := by
  have nd := sc_law_age.nd
  refine D.okP sc_law_age (fun vs H Q E h => ?_) (fun f cdv A outer s H vs Q E hr h => ?_)
  · obtain ⟨r, W, z, n, rfl, _⟩ := h
    rfl
  · obtain ⟨r, W, z, n, rfl, ⟨hR, hok, hz⟩, k1, k2⟩ := h
    have hu := hu64 hr
    refine ⟨_, (pss_one (ps_try_as (c := .ref c_UnknownKey) rfl rfl nd (i := 2) rfl rfl ⟨by rfl, by decide, .inl Z.g_UnknownKey⟩ takes0 (fun W pn xe tk po => (pss_one (ps_ret (pe_tup (pa_cons pe_str (pa_cons (pe_mD C_Ring_age W_Ring.c (by exact hr.mono (by decide)) (fun σ => passC tk σ) (fun _ _ _ _ _ _ us hl => match us, hl with | [_, _], _ => rfl) (pv 0) (pa_cons (pv 1) pa_nil)) pa_nil))))))
      (fun a oe cls d pn hz hf => (pss_one (ps_ret (pe_tup (pa_cons pe_str (pa_cons (pe_xsK (K := K) (by rfl) (List.mem_cons_self ..) hz hf (pv 2)) pa_nil)))))))), ?_⟩
    try dsimp only [L2.cxOf, L2.Cx.nox]
    simp only [L2.start, N_law_age, List.map_cons, List.map_nil, List.length_cons, List.length_nil, Nat.reduceAdd, Nat.reduceSub, List.replicate_succ, List.replicate_zero, List.cons_append, List.nil_append]

    have hln := hok.ln
    have hp2 := hok.tm.p2
    have hcl : W.rs.L.length = W.C.length := List.length_map ..
    walk_at "gos"
    refine ⟨r, W.rs, z, rfl, ⟨hR, by omega, hz⟩, fun hf d H1 n1 e1 h1 => ?_, fun i hf H1 e1 => ?_⟩
    · walk_at "gos"
      exact k2 (findL_none.mp hf) _ _ Gx.new Gx.rel inferInstance
    · have hf : findL z (W.C.map LE.en) = some i := hf
      have hd : depE z W.C = (W.rs.L.length : Int) - (i : Nat) := by
        unfold depE
        rw [hf, hcl]
      rw [← hd]
      walk_at "gos"
      exact k1 (Decidable.not_not.mp fun hh => by rw [findL_none.mpr hh] at hf; cases hf) _ _ Gx.new Gx.rel inferInstance
def spDep : Sp := fun vs H Q _ => ∃ (c : Addr) (ps : List Addr) (C : List LE) (z : Str), vs = [.ref c, .str z] ∧ (ChC H c ps C ∧ C.length ≤ 1000) ∧ ∀ H', Ex H H' → Q (.int (depE z C)) H'
abbrev s_law_depth : Stmt := (top 49)
abbrev N_law_depth : List Str := ["_law_chain", "_law_name_here", "_law_k"]
theorem sc_law_depth : FnScope N_law_depth ["_law_chain", "_law_name_here"] (defScope s_law_depth) := ⟨rfl, rfl, rfl, by decide +kernel, rfl, by decide +kernel, by decide +kernel⟩
theorem cl_law_depth (T : Bl mg) (Z : EcF P K mg c_StoreError c_InvalidInput c_KeyLimit c_UnknownKey c_BadChoice c_Stalled) (R : RdF K mg c_Round) (W_RingLog : Gx.ClsF K mg c_RingLog "RingLog" ["entries"]) (W_Ring : Gx.ClsF K mg c_Ring "Ring" ["_places", "_limit", "_budgets", "_late", "_readers", "_log", "_done", "_phase", "_carried", "_last_wait", "_opened", "_open"]) (N_KEY : Gx.GlI mg "KEY" 0) (N_VALUE : Gx.GlI mg "VALUE" 1) (N_LIVING : Gx.GlI mg "LIVING" 2) (N_READERS : Gx.GlI mg "READERS" 3) (N_KEY_LENGTH : Gx.GlI mg "KEY_LENGTH" 12) (N_KEY_CHARACTERS : Gx.GlS mg "KEY_CHARACTERS" "abcdefghijklmnopqrstuvwxyz0123456789") (D : DfG K mg "_law_depth" s_law_depth [] [])  : ClG CX0 P w K mg base 3 "_law_depth" s_law_depth ["_law_chain", "_law_name_here"] [] [] spDep := by
  have nd := sc_law_depth.nd
  refine D.okP sc_law_depth (fun vs H Q E h => ?_) (fun f cdv A outer s H vs Q E hr h => ?_)
  · obtain ⟨c, ps, C, z, rfl, _⟩ := h
    rfl
  · obtain ⟨c, ps, C, z, rfl, ⟨hc, hl⟩, k⟩ := h
    have hu := hu64 hr
    refine ⟨_, (pss_cons (ps_for PassesOwn.never rfl (pi_range1 rfl T.range (pa_cons (pe_callB (callLenK (K := K) (by rfl)) (by rfl) T.len (by decide +kernel) (pa_cons (pv 0) pa_nil)) pa_nil)) (pg_name (i := 2) nd rfl (Or.inl rfl))
      (pss_one (ps_if (PW.pt (pw_and (pt_val (pe_ix (ixSeqK (K := K) (by rfl)) (pe_ix (ixSeqK (K := K) (by rfl)) (pv 0) (pv 2) (fun _ _ => rfl)) pe_int (fun _ _ => rfl))) (pw_and1 (pt_cmpR (opEqK (K := K) (by rfl) (by exact hu)) (pe_ix (ixSeqK (K := K) (by rfl)) (pe_ix (ixSeqK (K := K) (by rfl)) (pv 0) (pv 2) (fun _ _ => rfl)) pe_int (fun _ _ => rfl)) (pv 1) (nomark _)))))
      (pss_one (ps_ret (pe_op opSub (pe_callB (callLenK (K := K) (by rfl)) (by rfl) T.len (by decide +kernel) (pa_cons (pv 0) pa_nil)) (pv 2))))
      pss_nil)))
    (pss_one (ps_ret pe_int))), ?_⟩
    try dsimp only [L2.cxOf, L2.Cx.nox]
    simp only [L2.start, N_law_depth, List.map_cons, List.map_nil, List.length_cons, List.length_nil, Nat.reduceAdd, Nat.reduceSub, List.replicate_succ, List.replicate_zero, List.cons_append, List.nil_append]

    have hpl := hc.len
    walk_at "gos"
    refine Gx.for1 [] (fun i σ' H' => ∃ s2, σ' = [some (.ref c), some (.str z), s2] ∧ ∀ j x, j < i → C[j]? = some x → (x.l && decide (x.k = z)) = false) (by omega) ⟨_, rfl, by simp⟩ ?_ ?_
    · rintro i σ' H' hi e ⟨s2, rfl, hj⟩
      have hc' : ChC H' c ps C := inferInstance
      have step : ∀ x, C[i]? = some x → (x.l && decide (x.k = z)) = false → ∀ j y, j < i + 1 → C[j]? = some y → (y.l && decide (y.k = z)) = false := fun x hx hf j y hji hy => by
        by_cases h : j < i
        · exact hj j y h hy
        · obtain rfl : j = i := by omega
          rw [hx] at hy
          cases hy
          exact hf
      walk_at "gos"
      refine hc'.ix (by omega) fun p x h1 h2 h3 => ?_
      walk_at "gos"
      · rename_i hI
        refine hc'.ix (by omega) fun p' x' h1' h2' h3' => ?_
        rw [h2] at h2'
        cases h2'
        walk_at "gos"
        · rename_i hI2
          have hf : findL z (C.map LE.en) = some i := by
            rw [findL_en]
            exact List.findIdx?_eq_some_iff_getElem.mpr ⟨(List.getElem?_eq_some_iff.mp h2).1, by rw [(List.getElem?_eq_some_iff.mp h2).2, hI, hI2]; simp, fun j hji => by
              have := hj j _ hji (List.getElem?_eq_getElem (by omega))
              simpa using this⟩
          have hd : depE z C = (ps.length : Int) - (i : Nat) := by
            unfold depE
            rw [hf, hpl]
          rw [← hd]
          exact k _ Gx.rel
        · exact Gx.li ⟨_, rfl, step x h2 (by simp [*])⟩
      · exact Gx.li ⟨_, rfl, step x h2 (by simp [*])⟩
    · rintro σ' H' e ⟨s2, rfl, hj⟩
      walk_at "gos"
      have hf : findL z (C.map LE.en) = none := by
        rw [findL_en]
        refine List.findIdx?_eq_none_iff.mpr fun x hx => ?_
        obtain ⟨j, hj2, rfl⟩ := List.getElem_of_mem hx
        exact hj j _ (by omega) (List.getElem?_eq_getElem hj2)
      have hd : depE z C = 0 := by
        unfold depE
        rw [hf]
      rw [← hd]
      exact k _ Gx.rel

/-! pairs of a name and a number in a list -/
def prD (ds : List (Str × Int)) : PyData := .list (ds.map fun p => .tuple [.str p.1, .int p.2])
def PrR (H : Hp) (ys : List V) (ds : List (Str × Int)) : Prop := ys.length = ds.length ∧ ∀ (i : Nat) v, ys[i]? = some v → ∃ q t, ds[i]? = some q ∧ v = .ref t ∧ H t = some (.tup [.str q.1, .int q.2])
theorem PrR.nil {H : Hp} : PrR H [] [] := ⟨rfl, fun i v h => by simp at h⟩
theorem PrR.step {H1 H : Hp} {ys : List V} {ds : List (Str × Int)} {bs : List Addr} (h : PrR H1 ys ds) (r : Chg bs H1 H) : PrR H ys ds := ⟨h.1, fun i v hv => by
  obtain ⟨q, t, g1, g2, g3⟩ := h.2 i v hv
  exact ⟨q, t, g1, g2, r.imm _ _ (.inl ⟨_, rfl⟩) g3⟩⟩
theorem PrR.snoc {H H2 : Hp} {bs : List Addr} {ys : List V} {ds : List (Str × Int)} {z : Str} {n : Int} {t : Addr} (h : PrR H ys ds) (r : Chg bs H H2) (ht : H2 t = some (.tup [.str z, .int n])) : PrR H2 (ys ++ [.ref t]) (ds ++ [(z, n)]) := ⟨by rw [List.length_append, List.length_append, h.1]; rfl, fun i v hv => by
  by_cases hi : i < ys.length
  · rw [List.getElem?_append_left hi] at hv
    obtain ⟨q, t', g1, g2, g3⟩ := h.2 i v hv
    exact ⟨q, t', by rw [List.getElem?_append_left (by rw [← h.1]; exact hi)]; exact g1, g2, r.imm _ _ (.inl ⟨_, rfl⟩) g3⟩
  · rw [List.getElem?_append_right (by omega)] at hv
    have hz : i - ys.length = 0 := by
      have := (List.getElem?_eq_some_iff.mp hv).1
      simp at this
      omega
    rw [hz] at hv
    obtain rfl : V.ref t = v := by simpa using hv
    exact ⟨(z, n), t, by rw [List.getElem?_append_right (by rw [← h.1]; omega), ← h.1, hz]; rfl, rfl, ht⟩⟩
class PrC (H : Hp) (p : Addr) (ds : outParam (List (Str × Int))) : Prop where
  ex : ∃ ys, H p = some (.lst ys) ∧ PrR H ys ds
instance (priority := low) prStep {H1 H : Hp} {p : Addr} {ds : List (Str × Int)} {bs : List Addr} [r : Chg bs H1 H] [n : Gx.NotIn p bs] [h : PrC H1 p ds] : PrC H p ds := ⟨by
  obtain ⟨ys, h1, h2⟩ := h.ex
  exact ⟨ys, r.keep _ _ n.out h1, h2.step r⟩⟩
instance prDat {K : PySem.W.Frag} {H : Hp} {p : Addr} {ds : List (Str × Int)} [h : PrC H p ds] : Gx.DatC K H (.ref p) (prD ds) := ⟨by
  obtain ⟨ys, h1, h2, h3⟩ := h.ex
  have h1 : At H p (.lst ys) := ⟨h1⟩
  refine .lst (Gx.SqC.sq (self := inferInstance)) (Gx.dp_pw (by rw [h2, List.length_map]) fun i v hv => ?_)
  obtain ⟨q, t, g1, rfl, g3⟩ := h3 i v hv
  have g3 : At H t _ := ⟨g3⟩
  exact ⟨.tuple [.str q.1, .int q.2], by rw [List.getElem?_map, g1]; rfl, (inferInstance : Gx.DatC K H (.ref t) (.tuple [.str q.1, .int q.2])).dp⟩⟩
/-! what is told of the living -/
def dueP (C : List LE) : List (Str × Int) := (C.filter LE.l).map fun e => (e.k, e.w.getD 0)
theorem due_keys (C : List LE) : (dueP C).map (·.1) = livs C := by
  unfold dueP livs
  rw [List.map_map]
  rfl
theorem due_len (C : List LE) : (dueP C).length = (livs C).length := by rw [← due_keys, List.length_map]
theorem due_take {C : List LE} {i : Nat} {x : LE} (h : C[i]? = some x) : dueP (C.take (i + 1)) = dueP (C.take i) ++ if x.l = true then [(x.k, x.w.getD 0)] else [] := by
  unfold dueP
  rw [List.take_succ, h, List.filter_append, List.map_append]
  congr 1
  cases hx : x.l <;> simp [hx]
theorem tab_due (C : List LE) : tabK (C.map LE.en) = bookK (dueP C) := by
  unfold tabK bookK dueP
  rw [List.filter_map, List.map_map, List.map_map]
  rfl
theorem livK_en (C : List LE) : livK (C.map LE.en) = livs C := by
  unfold livK livs
  rw [List.filter_map, List.map_map]
  rfl
def bkI (B : List (Str × Int)) (z : Str) : Int := ((B.find? fun p => decide (p.1 = z)).map fun p => p.2).getD 0
theorem bk_val {B : List (Str × Int)} {z : Str} (h : z ∈ B.map (·.1)) : valV (bookK B) (.inr z) = some (.int (bkI B z)) := by
  rw [val_book]
  unfold bkI
  cases hf : B.find? (fun p => decide (p.1 = z)) with
  | some p => rfl
  | none =>
    obtain ⟨p, hp, hz⟩ := List.mem_map.mp h
    exact absurd (decide_eq_true hz) (by simpa using List.find?_eq_none.mp hf p hp)
theorem due_bk {n : Int} {W : WS} (h : BkOk W) (hok : WOk n W) {z : Str} (hz : z ∈ livs W.C) : tabV (W.C.map LE.en) z = .int (bkI W.B z) := by
  obtain ⟨e, h1, h2, rfl⟩ := mem_livs.mp hz
  have g := h.get h1 h2
  rw [bk_val ((h.mem _).mpr hz)] at g
  rw [Option.some.inj g]
  unfold tabV
  have hm : (e.k, e.w.getD 0) ∈ dueP W.C := List.mem_map.mpr ⟨e, List.mem_filter.mpr ⟨h1, h2⟩, rfl⟩
  rw [tab_due, val_book, find_book (by rw [due_keys]; exact hok.nd) hm]
  rfl
theorem prs_row {H : Hp} {ys : List V} {ks : List Str} {g : Str → V} {f : Str → Int} (h : PrsAt H ys ks g) (hg : ∀ z ∈ ks, g z = .int (f z)) : PrR H ys (ks.map fun z => (z, f z)) := ⟨by rw [List.length_map]; exact h.1, fun i v hv => by
  obtain ⟨z, t, g1, g2, g3⟩ := h.2 i v hv
  rw [hg z (List.mem_of_getElem? g1)] at g3
  exact ⟨(z, f z), t, by rw [List.getElem?_map, g1]; rfl, g2, g3⟩⟩
theorem key_c {z : Str} (h : KeyOk z) : Gx.Sm 122 0 (.str z) := Gx.sm_str (m := 12) h.2.1 h.lt
theorem pd_at {α β : Type} {R : α → β → Prop} {xs : List α} {ys : List β} (h : Paired R xs ys) : ∀ (i : Nat) x, xs[i]? = some x → ∃ y, ys[i]? = some y ∧ R x y := by
  induction h with
  | nil => intro i x h; simp at h
  | cons h1 _ ih =>
    intro i x hx
    cases i with
    | zero => exact ⟨_, rfl, by cases hx; exact h1⟩
    | succ i => simpa using ih i x (by simpa using hx)
theorem prd_row {H : Hp} {ts : List Addr} {B : List (Str × Int)} (h : Paired (fun (t : Addr) (q : Key × V) => H t = some (.tup [kV q.1, q.2])) ts (bookK B)) : PrR H (ts.map V.ref) B := by
  have hl : ts.length = B.length := by
    have := Paired.length h
    rw [List.length_map] at this
    exact this
  refine ⟨by rw [List.length_map]; exact hl, fun i v hv => ?_⟩
  rw [List.getElem?_map] at hv
  cases ht : ts[i]? with
  | none => rw [ht] at hv; cases hv
  | some t =>
    rw [ht] at hv
    cases hv
    obtain ⟨y, h1, h2⟩ := pd_at h i t ht
    rw [List.getElem?_map] at h1
    cases hb : B[i]? with
    | none => rw [hb] at h1; cases h1
    | some p =>
      rw [hb] at h1
      cases h1
      exact ⟨p, t, rfl, rfl, h2⟩
theorem pr_sm {ds : List (Str × Int)} (hl : ds.length ≤ 64) (h : ∀ p ∈ ds, KeyOk p.1 ∧ -(2 ^ 100) < p.2 ∧ p.2 < 2 ^ 100) : Gx.ShowOk (prD ds) := by
  have hs : Gx.SmA 4000 1 (ds.map fun p => PyData.tuple [.str p.1, .int p.2]) := Gx.sma_of fun d hd => by
    obtain ⟨p, hp, rfl⟩ := List.mem_map.mp hd
    obtain ⟨h1, h2, h3⟩ := h p hp
    exact ((Gx.sma_cons (n := 1921) (k := 0) (key_c h1) (Gx.sma_cons (Gx.sm_int2 (by omega) (by omega)) Gx.sma_nil (Nat.le_refl _) (Nat.le_refl _)) (by decide) (Nat.le_refl _)).tup (m := 2) (Nat.le_refl _)).mono (by decide) (Nat.le_refl _)
  exact ((hs.lst (m := 64) (by rw [List.length_map]; exact hl)).mono (m := 300000) (j := 2) (by decide) (Nat.le_refl _)).show (by decide) (by decide)
theorem due_ok {n : Int} {W : WS} (h : WOk n W) : Gx.ShowOk (prD (dueP W.C)) := by
  have h1 := h.ln
  have h2 := h.tm.p2
  have h3 := livs_len W.C
  refine pr_sm (by rw [due_len]; omega) fun p hp => ?_
  obtain ⟨e, he, rfl⟩ := List.mem_map.mp hp
  obtain ⟨g1, g2⟩ := List.mem_filter.mp he
  obtain ⟨g3, g4⟩ := h.en e g1
  obtain ⟨v, hv, g5, g6⟩ := g4 g2
  refine ⟨g3, ?_⟩
  show -(2 ^ 100) < e.w.getD 0 ∧ e.w.getD 0 < 2 ^ 100
  rw [hv]
  exact ⟨g5, g6⟩
theorem bk_rng {n : Int} {W : WS} (h : BkOk W) (hok : WOk n W) {z : Str} (hz : z ∈ livs W.C) : KeyOk z ∧ -(2 ^ 100) < bkI W.B z ∧ bkI W.B z < 2 ^ 100 := by
  obtain ⟨e, h1, h2, rfl⟩ := mem_livs.mp hz
  obtain ⟨g3, g4⟩ := hok.en e h1
  obtain ⟨v, hv, g5, g6⟩ := g4 h2
  have g := h.get h1 h2
  rw [bk_val ((h.mem _).mpr hz)] at g
  have g : bkI W.B e.k = e.w.getD 0 := V.int.inj (Option.some.inj g)
  rw [g, hv]
  exact ⟨g3, g5, g6⟩
theorem srt_ok {n : Int} {W : WS} (h : BkOk W) (hok : WOk n W) {ks : List Str} (hp : ks.Perm (livs W.C)) : Gx.ShowOk (prD (ks.map fun z => (z, bkI W.B z))) := by
  have h1 := hok.ln
  have h2 := hok.tm.p2
  have h3 := livs_len W.C
  refine pr_sm (by rw [List.length_map, hp.length_eq]; omega) fun p hp' => ?_
  obtain ⟨z, hz, rfl⟩ := List.mem_map.mp hp'
  exact bk_rng h hok (hp.mem_iff.mp hz)
theorem BkOk.perm {n : Int} {W : WS} (h : BkOk W) (hok : WOk n W) : (W.B.map (·.1)).Perm (livs W.C) := (List.perm_ext_iff_of_nodup h.nd hok.nd).mpr h.mem
theorem rs_len {n : Int} {W : WS} (h : WOk n W) : W.rs.L.length ≤ 1000 := by
  have h1 := h.ln
  have h2 := h.tm.p2
  show (W.C.map LE.en).length ≤ 1000
  rw [List.length_map]
  omega
theorem rs_nd {n : Int} {W : WS} (h : WOk n W) : (livK W.rs.L).Nodup := by
  show (livK (W.C.map LE.en)).Nodup
  rw [livK_en]
  exact h.nd
section
variable {C CL CR a : Addr} {W : WS} {n : Int} {H : Hp} {Q : VK} {E : XK}
theorem use_tabW [h : RgC C CL CR H a W.rs] (hok : WOk n W) (q : ∀ p H', Nw H p → Ex H H' → At H' p (.dK (bookK (dueP W.C))) → Q (.ref p) H') : spTab C CL CR [.ref a] H Q E :=
  ⟨a, W.rs, rfl, ⟨h, rs_len hok, rs_nd hok⟩, fun p H' np e hp => q p H' np e ⟨hp.eq.trans (by rw [show tabK W.rs.L = bookK (dueP W.C) from tab_due W.C])⟩⟩
theorem use_lnT [h : RgC C CL CR H a W.rs] (hok : WOk n W) (q : ∀ H', Ex H H' → Q (.int ((livs W.C).length : Nat)) H') : spRgN C CL CR [.ref a] H (fun v H' => (∃ n : Nat, v = .int n ∧ n < 2 ^ 60) ∧ Q v H') E := by
  refine use_rgn (h := h) (rs_len hok) fun H' e => ?_
  have e2 : W.rs.L.countP En.l = (livs W.C).length := cnt_livs W.C
  rw [e2]
  exact q H' e
end
section
variable {K : PySem.W.Frag} {C CL CR a p : Addr} {W : WS} {n : Int} {H : Hp} {Q : VK} {kvs : List (Key × V)} {R : Prop}
instance tyDc [h : At H p (.dK kvs)] : Gx.Step (tyV K "dict" (.ref p) H ∧ R) R := ⟨fun q => ⟨.inr (.inr (.inl ⟨rfl, .inl ⟨_, h.eq⟩⟩)), q⟩⟩
theorem use_scnW [h : RgC C CL CR H a W.rs] (hok : WOk n W) (hbk : BkOk W) (q : ∀ p (ks : List Str) H', Nw H p → Ex H H' → ks.Perm (livs W.C) → ks.Pairwise (fun a b => ¬ SrtZ.zlt b a) → PrC H' p (ks.map fun z => (z, bkI W.B z)) → Q (.ref p) H') : Gx.rMethG C "scan" (spScn C CL CR) (.ref a) H Q := by
  obtain ⟨b, d, o, h1, _⟩ := id h.ex
  obtain ⟨dx, h1⟩ := h1.ex
  refine ⟨a, dx, _, rfl, h1, by rfl, a, W.rs, rfl, ⟨h, rs_len hok, rs_nd hok⟩, fun ks ys H' e hp ha hP => Gx.g_newG fun p H3 n3 e3 h3 => ?_⟩
  have hp : ks.Perm (livs W.C) := by rw [← livK_en]; exact hp
  exact q p ks H3 Gx.new Gx.rel hp ha ⟨_, h3.eq, (prs_row hP fun z hz => due_bk hbk hok (hp.mem_iff.mp hz)).step e3⟩
end
theorem tag_ok {x : Str} {d : PyData} (hx : x.length ≤ 10 ∧ ∀ c ∈ x.cps.toList, c < 16 ^ 8) (h : Gx.Sm 1921 0 d) : Gx.ShowOk (.tuple [.str x, d]) :=
  (((Gx.sma_cons (n := 1921) (k := 0) (Gx.sm_str (m := 10) hx.1 hx.2) (Gx.sma_cons h Gx.sma_nil (Nat.le_refl _) (Nat.le_refl _)) (by decide) (Nat.le_refl _)).tup (m := 2) (Nat.le_refl _)).mono (m := 4000) (j := 1) (by decide) (Nat.le_refl _)).show (by decide) (by decide)
theorem unk_ok {z : Str} (h : KeyOk z) : Gx.ShowOk (.tuple [.str "unknown", .str z]) := tag_ok ⟨by decide, by decide⟩ ((key_c h).mono (by decide) (Nat.le_refl _))
theorem val_ok {n : Int} {W : WS} (h : BkOk W) (hok : WOk n W) {z : Str} (hz : z ∈ livs W.C) : Gx.ShowOk (.tuple [.str "value", .int (bkI W.B z)]) := by
  obtain ⟨_, h1, h2⟩ := bk_rng h hok hz
  exact tag_ok ⟨by decide, by decide⟩ (Gx.sm_int2 (by omega) (by omega))
theorem dep_ok {n : Int} {W : WS} (hok : WOk n W) {z : Str} : Gx.ShowOk (.tuple [.str "depth", .int (depE z W.C)]) := by
  have h1 := hok.ln
  have h2 := hok.tm.p2
  have h3 : -1 < depE z W.C ∧ depE z W.C ≤ 64 := by
    unfold depE
    split
    · rename_i i hi
      have := findL_lt hi
      rw [List.length_map] at this
      omega
    · omega
  exact tag_ok ⟨by decide, by decide⟩ (Gx.sm_int2 (by omega) (by omega))
theorem bk_of {n : Int} {W : WS} (h : BkOk W) (hok : WOk n W) {e : LE} {z : Str} (h1 : e ∈ W.C) (h2 : e.l = true) (h3 : e.k = z) : e.w.getD 0 = bkI W.B z := by
  subst h3
  have g := h.get h1 h2
  rw [bk_val ((h.mem _).mpr (mem_livs.mpr ⟨e, h1, h2, rfl⟩))] at g
  exact (V.int.inj (Option.some.inj g)).symm
theorem find_livs {z : Str} {C : List LE} : (findL z (C.map LE.en)).isSome = decide (z ∈ livs C) := by
  cases hf : findL z (C.map LE.en) with
  | none => rw [decide_eq_false (findL_none.mp hf)]; rfl
  | some i =>
    rw [decide_eq_true]
    · rfl
    · exact Decidable.not_not.mp fun hh => by rw [findL_none.mpr hh] at hf; cases hf

local macro_rules | `(tactic| walk_at "call") => `(tactic| first
  | ((with_reducible show spTab _ _ _ _ _ _ _); refine use_tabW (by assumption) ?_; intro p_ H_ np_ e_ hp_)
  | ((with_reducible show spRgN _ _ _ _ _ _ _); refine use_lnT (by assumption) ?_; intro H_ e_)
  | ((with_reducible show Gx.rMethG _ _ _ _ _ _); refine use_scnW (by assumption) (by assumption) ?_; intro p_ ks_ H_ np_ e_ hp_ ha_ hc_)
  | ((with_reducible show spDep _ _ _ _); refine ⟨_, _, _, _, rfl, ⟨inferInstance, by omega⟩, ?_⟩; intro H_ e_)
  | ((with_reducible show spRgC _ _ _ _ _ _ _); refine use_rgc (rs_len (by assumption)) ?_; intro H_ e_)
  | (refine Gx.g_dclr ?_; intro H_ e_ h_)
  | (refine Gx.g_dgetK rfl ?_))
def spKpt (C CL CR : Addr) : Sp := fun vs H Q _ => ∃ (r a : Addr) (W : WS) (c d : Addr) (ps : List Addr) (q : Addr) (zs : List Str) (n : Int), vs = [.ref r, .ref a, .ref q] ∧
  (RgC C CL CR H r W.rs ∧ WdC H a W c d ps ∧ At H W.bk (.dK (bookK W.B)) ∧ WOk n W ∧ BkOk W ∧ At H q (.lst (zs.map V.str)) ∧ (∀ z ∈ zs, KeyOk z) ∧ zs.length ≤ 1000) ∧ ∀ H', Ex H H' → Q (.bl true) H'
abbrev s_law_kept : Stmt := (top 50)
abbrev N_law_kept : List Str := ["_law_ring_here", "_law_world_here", "_law_names", "_law_book", "_law_due_here", "_law_entry", "_law_told", "_law_rows", "_law_name_here", "_law_value", "_law_depth_here"]
theorem sc_law_kept : FnScope N_law_kept ["_law_ring_here", "_law_world_here", "_law_names"] (defScope s_law_kept) := ⟨rfl, rfl, rfl, by decide +kernel, rfl, by decide +kernel, by decide +kernel⟩
theorem cl_law_kept (T : Bl mg) (Z : EcF P K mg c_StoreError c_InvalidInput c_KeyLimit c_UnknownKey c_BadChoice c_Stalled) (R : RdF K mg c_Round) (W_RingLog : Gx.ClsF K mg c_RingLog "RingLog" ["entries"]) (W_Ring : Gx.ClsF K mg c_Ring "Ring" ["_places", "_limit", "_budgets", "_late", "_readers", "_log", "_done", "_phase", "_carried", "_last_wait", "_opened", "_open"]) (N_KEY : Gx.GlI mg "KEY" 0) (N_VALUE : Gx.GlI mg "VALUE" 1) (N_LIVING : Gx.GlI mg "LIVING" 2) (N_READERS : Gx.GlI mg "READERS" 3) (N_KEY_LENGTH : Gx.GlI mg "KEY_LENGTH" 12) (N_KEY_CHARACTERS : Gx.GlS mg "KEY_CHARACTERS" "abcdefghijklmnopqrstuvwxyz0123456789") (D : DfG K mg "_law_kept" s_law_kept [] []) (C_law_age : ClG CX0 P w K mg base 7 "_law_age" s_law_age ["_law_ring_here", "_law_name_here"] [] [] (spAg c_Ring c_RingLog c_Round)) (C_law_read : ClG CX0 P w K mg base 7 "_law_read" s_law_read ["_law_ring_here", "_law_name_here"] [] [] (spRd c_Ring c_RingLog c_Round)) (C_Ring___contains__ : ClM CX0 P w K mg base 5 c_Ring "__contains__" "Ring.__contains__" s_Ring___contains__ ["self", "key"] [] [] (spRgC c_Ring c_RingLog c_Round)) (C_law_depth : ClG CX0 P w K mg base 3 "_law_depth" s_law_depth ["_law_chain", "_law_name_here"] [] [] spDep) (C_Ring_scan : Gx.ClMY P w K mg base 5 c_Ring "scan" "Ring.scan" s_Ring_scan ["self"] (spScn c_Ring c_RingLog c_Round)) (C_Ring_table : ClM CX0 P w K mg base 3 c_Ring "table" "Ring.table" s_Ring_table ["self"] [] [] (spTab c_Ring c_RingLog c_Round)) (C_Ring___len__ : ClM CX0 P w K mg base 3 c_Ring "__len__" "Ring.__len__" s_Ring___len__ ["self"] [] [] (spRgN c_Ring c_RingLog c_Round)) : ClGG CX0 P w K mg base 11 "_law_kept" s_law_kept ["_law_ring_here", "_law_world_here", "_law_names"] [] [] (spKpt c_Ring c_RingLog c_Round) := by
  have nd := sc_law_kept.nd
  refine D.okG sc_law_kept (fun vs H Q E h => ?_) (fun f cdv A outer s H vs Q E hgd hr h => ?_)
  · obtain ⟨r, a, W, c, d, ps, q, zs, n, rfl, _⟩ := h
    rfl
  · obtain ⟨r, a, W, c, d, ps, q, zs, n, rfl, ⟨hR, hW, hB, hok, hbk, hq, hzk, hzl⟩, k⟩ := h
    have hu := hu64 hr
    refine ⟨_, (pss_cons (ps_set (i := 3) nd rfl (Or.inr rfl) (pe_dget (hu1 (by exact hu)) (pv 1) pe_str (fun _ _ => rfl)))
    (pss_cons (ps_set (i := 4) nd rfl (Or.inl rfl) (pe_callB (callRepr (K := K) (by rfl) (by exact hgd) (by exact hu)) (by rfl) T.repr (by decide +kernel) (pa_cons (pe_lc (own := [("_law_entry", 5)]) (g := gName 5) rfl nd (pi_listK (K := K) (by rfl) (pe_dget (hu1 (by exact hu)) (pv 1) pe_str (fun _ _ => rfl))) (blkOk_by (own := [("_law_entry", 5)]) (N := N_law_kept) (sc := defScope s_law_kept) (by decide +kernel)) (fun _ _ _ _ _ => (pg_name (i := 5) nd rfl (Or.inl rfl))) (fun _ _ _ _ _ => (pts_one (pt_val (pe_ix (ixSeqK (K := K) (by rfl)) (pv 5) pe_int (fun _ _ => rfl))))) (fun _ _ _ _ _ => (pe_tup (pa_cons (pe_ix (ixSeqK (K := K) (by rfl)) (pv 5) pe_int (fun _ _ => rfl)) (pa_cons (pe_dget (hu1 (by exact hu)) (pv 3) (pe_ix (ixSeqK (K := K) (by rfl)) (pv 5) pe_int (fun _ _ => rfl)) (fun _ _ => rfl)) pa_nil))))) pa_nil)))
    (pss_cons (ps_set (i := 6) nd rfl (Or.inl rfl) (pe_m0 C_Ring_table W_Ring.c (by exact hr.mono (by decide)) pass0 (fun _ _ _ _ _ _ us hl => match us, hl with | [_], _ => rfl) (pv 0)))
    (pss_cons (ps_if (PW.pt (pw_or (pt_not (pt_val (pe_callB (callIsiK (K := K) (by rfl)) (by rfl) T.isinstance (by decide +kernel) (pa_cons (pv 6) (pa_cons (pe_bltn (v := .ty "dict") (by rfl) T.dict (by decide +kernel) rfl) pa_nil))))) (pw_or1 (pt_cmpR (opNeK (K := K) (by rfl) (by exact hu)) (pe_callB (callRepr (K := K) (by rfl) (by exact hgd) (by exact hu)) (by rfl) T.repr (by decide +kernel) (pa_cons (LiI.pe_listItems rfl (pv 6) (by rfl) T.list (by decide +kernel)) pa_nil)) (pv 4) (nomark _)))))
      (pss_one (ps_ret pe_bl))
      pss_nil)
    (pss_cons (ps_expr (L2.pe_dclear (pv 6)))
    (pss_cons (ps_if (PW.pt (pw_or (pt_cmpR (opNeK (K := K) (by rfl) (by exact hu)) (pe_callB (callOwnLen C_Ring___len__ (by exact hr.mono (by decide)) pass0 (fun _ _ _ _ _ _ us hl => match us, hl with | [_], _ => rfl)) (by rfl) T.len (by decide +kernel) (pa_cons (pv 0) pa_nil)) (pe_callB Gx.callLenD (by rfl) T.len (by decide +kernel) (pa_cons (pv 3) pa_nil)) (nomark _)) (pw_or1 (pt_cmpR (opNeK (K := K) (by rfl) (by exact hu)) (pe_callB Gx.callLenD (by rfl) T.len (by decide +kernel) (pa_cons (pe_m0 C_Ring_table W_Ring.c (by exact hr.mono (by decide)) pass0 (fun _ _ _ _ _ _ us hl => match us, hl with | [_], _ => rfl) (pv 0)) pa_nil)) (pe_callB Gx.callLenD (by rfl) T.len (by decide +kernel) (pa_cons (pv 3) pa_nil)) (nomark _)))))
      (pss_one (ps_ret pe_bl))
      pss_nil)
    (pss_cons (ps_set (i := 7) nd rfl (Or.inl rfl) (pe_lsG (Gx.pgen_m0 C_Ring_scan W_Ring.c (by exact hr.mono (by decide)) (fun _ _ _ _ _ _ us hl => match us, hl with | [_], _ => rfl) (pv 0)) (by exact hr.mono (by decide)) (by rfl) T.list))
    (pss_cons (ps_if (pt_cmpR (opNeK (K := K) (by rfl) (by exact hu)) (pe_callB (callRepr (K := K) (by rfl) (by exact hgd) (by exact hu)) (by rfl) T.repr (by decide +kernel) (pa_cons (pv 7) pa_nil)) (pe_callB (callRepr (K := K) (by rfl) (by exact hgd) (by exact hu)) (by rfl) T.repr (by decide +kernel) (pa_cons (pe_lc (own := [("_law_name_here", 8)]) (g := gName 8) rfl nd (pi_listK (K := K) (by rfl) (pe_callB (Gx.callSrtZ (K := K) (by rfl)) (by rfl) T.sorted (by decide +kernel) (pa_cons (pe_callTy (L2.call_list_dK rfl) (by rfl) T.list (by decide +kernel) (pa_cons (pv 3) pa_nil)) pa_nil))) (blkOk_by (own := [("_law_name_here", 8)]) (N := N_law_kept) (sc := defScope s_law_kept) (by decide +kernel)) (fun _ _ _ _ _ => (pg_name (i := 8) nd rfl (Or.inl rfl))) (fun _ _ _ _ _ => pts_nil) (fun _ _ _ _ _ => (pe_tup (pa_cons (pv 8) (pa_cons (pe_dget (hu1 (by exact hu)) (pv 3) (pv 8) (fun _ _ => rfl)) pa_nil))))) pa_nil)) (nomark _))
      (pss_one (ps_ret pe_bl))
      pss_nil)
    (pss_cons (ps_for PassesOwn.never rfl (pi_listK (K := K) (by rfl) (pv 2)) (pg_name (i := 8) nd rfl (Or.inl rfl))
      (pss_cons (ps_set (i := 9) nd rfl (Or.inl rfl) (pe_tup (pa_cons pe_str (pa_cons (pv 8) pa_nil))))
    (pss_cons (ps_set (i := 10) nd rfl (Or.inl rfl) (pe_tup (pa_cons pe_str (pa_cons (pv 8) pa_nil))))
    (pss_cons (ps_if (pt_cmp (pc_din (hu1 (by exact hu)) (pv 8) (pv 3)))
      (pss_cons (ps_set (i := 9) nd rfl (Or.inl rfl) (pe_tup (pa_cons pe_str (pa_cons (pe_dget (hu1 (by exact hu)) (pv 3) (pv 8) (fun _ _ => rfl)) pa_nil))))
    (pss_one (ps_set (i := 10) nd rfl (Or.inl rfl) (pe_tup (pa_cons pe_str (pa_cons (pe_g C_law_depth (by exact hr.mono (by decide)) (E := fun _ => E0) (fun σ => passC0 σ) (fun _ _ _ _ _ _ us hl => match us, hl with | [_, _], _ => rfl) (pa_cons (pe_dget (hu1 (by exact hu)) (pv 1) pe_str (fun _ _ => rfl)) (pa_cons (pv 8) pa_nil))) pa_nil))))))
      pss_nil)
    (pss_cons (ps_if (PW.pt (pw_or (pt_cmpR (opNeK (K := K) (by rfl) (by exact hu)) (pe_cmpR (opOwnIn C_Ring___contains__ (by exact hr.mono (by decide)) pass0 (fun _ _ _ _ _ _ us hl => match us, hl with | [_, _], _ => rfl)) (pv 8) (pv 0) (by rfl)) (pe_cmp (pc_din (hu1 (by exact hu)) (pv 8) (pv 3))) (nomark _)) (pw_or1 (pt_cmpR (opNeK (K := K) (by rfl) (by exact hu)) (pe_callB (callRepr (K := K) (by rfl) (by exact hgd) (by exact hu)) (by rfl) T.repr (by decide +kernel) (pa_cons (pe_g C_law_read (by exact hr.mono (by decide)) (E := fun _ => E0) (fun σ => passC0 σ) (fun _ _ _ _ _ _ us hl => match us, hl with | [_, _], _ => rfl) (pa_cons (pv 0) (pa_cons (pv 8) pa_nil))) pa_nil)) (pe_callB (callRepr (K := K) (by rfl) (by exact hgd) (by exact hu)) (by rfl) T.repr (by decide +kernel) (pa_cons (pv 9) pa_nil)) (nomark _)))))
      (pss_one (ps_ret pe_bl))
      pss_nil)
    (pss_one (ps_if (pt_cmpR (opNeK (K := K) (by rfl) (by exact hu)) (pe_callB (callRepr (K := K) (by rfl) (by exact hgd) (by exact hu)) (by rfl) T.repr (by decide +kernel) (pa_cons (pe_g C_law_age (by exact hr.mono (by decide)) (E := fun _ => E0) (fun σ => passC0 σ) (fun _ _ _ _ _ _ us hl => match us, hl with | [_, _], _ => rfl) (pa_cons (pv 0) (pa_cons (pv 8) pa_nil))) pa_nil)) (pe_callB (callRepr (K := K) (by rfl) (by exact hgd) (by exact hu)) (by rfl) T.repr (by decide +kernel) (pa_cons (pv 10) pa_nil)) (nomark _))
      (pss_one (ps_ret pe_bl))
      pss_nil)))))))
    (pss_one (ps_ret pe_bl))))))))))), ?_⟩
    try dsimp only [L2.cxOf, L2.Cx.nox]
    simp only [L2.start, N_law_kept, List.map_cons, List.map_nil, List.length_cons, List.length_nil, Nat.reduceAdd, Nat.reduceSub, List.replicate_succ, List.replicate_zero, List.cons_append, List.nil_append]

    obtain ⟨hd, hcy, hch⟩ := (show WdC H a W c d ps from hW)
    have hpl := hch.len
    have hln := hok.ln
    have hp2 := hok.tm.p2
    have hdu := due_ok hok
    have hbl := hbk.len hok
    have hkl : (bookK W.B).length = W.B.length := List.length_map ..
    have hdl : (bookK (dueP W.C)).length = (livs W.C).length := (List.length_map ..).trans (due_len W.C)
    walk_at "go"
    refine Gx.lcL_P (fun D i acc H' => PrR H' acc (dueP (W.C.take i))) (fun D H1 _ _ _ => PrR.nil) (fun D i v acc H' hv hD e1 hp hA => ?_) (fun D acc H' hD e9 hp hA => ?_)
    · rw [List.getElem?_map] at hv
      cases hpi : ps[i]? with
      | none => rw [hpi] at hv; cases hv
      | some p =>
        rw [hpi] at hv
        cases hv
        obtain ⟨x, hx, hE⟩ := hch.ent i p hpi
        have hE : At H' p (.tup x.vs) := ⟨e1.imm _ _ (.inl ⟨_, rfl⟩) hE⟩
        have hcl := hA.1
        rw [due_len] at hcl
        have hll := livs_len (W.C.take i)
        have hct := List.length_take_le i W.C
        have hpl9 := (List.getElem?_eq_some_iff.mp hpi).1
        walk_at "gos"
        · rename_i hI
          refine Gx.g_dgetK (hbk.get (List.mem_of_getElem? hx) hI) ?_
          walk_at "gos"
          rename_i t H6 n6 e6 h6 H7 e7 h7
          refine ⟨Gx.rel, ?_⟩
          rw [due_take hx, if_pos hI]
          have h9 : At H7 t _ := inferInstance
          exact hA.snoc (bs := [D]) Gx.rel h9.eq
        · rename_i hI
          exact ⟨Gx.rel, by rw [due_take hx, if_neg (by simp [hI]), List.append_nil]; exact hA⟩
    · rw [List.length_map, hpl, List.take_of_length_le (Nat.le_refl _)] at hA
      have hD9 : PrC H' D (dueP W.C) := ⟨acc, hp.eq, hA⟩
      walk_at "go"
      refine Gx.g_repr hdu ?_
      walk_at "go"
      dsimp only
      refine Gx.g_itemsL fun p1 ts H1 n1 e1 h1 hpr => ?_
      have hD1 : PrC H1 p1 (dueP W.C) := ⟨_, h1.eq, prd_row hpr⟩
      walk_at "go"
      refine Gx.g_repr hdu ?_
      walk_at "go"
      refine ifn (by simp) ?_
      walk_at "go"
      refine ifn (by simp [hkl, hbl]) ?_
      walk_at "go"
      refine ifn (by simp [hkl, hbl, hdl]) ?_
      walk_at "go"
      rename_i p5 ks H5 n5 e5 hp5 ha5 hc5
      have hsr := srt_ok hbk hok hp5
      refine Gx.g_repr hsr ?_
      walk_at "go"
      refine Gx.g_lstD fun p6 H6 n6 e6 h6 => ?_
      have e0 : (bookK W.B).map (fun kv => kV kv.1) = (W.B.map (·.1)).map V.str := by
        unfold bookK
        rw [List.map_map, List.map_map]
        rfl
      rw [e0] at h6
      walk_at "go"
      refine Gx.g_srtZ fun p7 ks7 H7 n7 e7 h7 hp7 ha7 => ?_
      have ek : ks7 = ks := Gx.asc_uniq ((hp7.trans (hbk.perm hok)).trans hp5.symm) ha7 ha5
      rw [ek] at h7
      clear ek hp7 ha7
      have hkl5 := hp5.length_eq
      have hlv5 := livs_len W.C
      walk_at "go"
      refine Gx.lcL_P (fun D i acc H' => PrR H' acc ((ks.take i).map fun z => (z, bkI W.B z))) (fun D H1 _ _ _ => PrR.nil) (fun D i v acc H' hv hD e1 hp hA => ?_) (fun D acc H' hD e9 hp hA => ?_)
      · obtain ⟨z, hz, rfl⟩ : ∃ z, ks[i]? = some z ∧ v = .str z := by
          rw [List.getElem?_map] at hv
          cases hk : ks[i]? with
          | none => rw [hk] at hv; cases hv
          | some z => rw [hk] at hv; exact ⟨z, rfl, (Option.some.inj hv).symm⟩
        have hi : i < ks.length := (List.getElem?_eq_some_iff.mp hz).1
        have hyl := hA.1
        rw [List.length_map, List.length_take] at hyl
        have hm := hp5.mem_iff.mp (List.mem_of_getElem? hz)
        walk_at "go"
        refine Gx.g_dgetK (bk_val ((hbk.mem _).mpr hm)) ?_
        walk_at "go"
        rename_i t H8 n8 e8 h8 H9 e9 h9
        refine ⟨Gx.rel, ?_⟩
        rw [List.take_succ, hz, List.map_append]
        have h10 : At H9 t _ := inferInstance
        exact hA.snoc (bs := [D]) Gx.rel h10.eq
      · rw [List.length_map, List.take_of_length_le (Nat.le_refl _)] at hA
        have hD9 : PrC H' D (ks.map fun z => (z, bkI W.B z)) := ⟨acc, hp.eq, hA⟩
        walk_at "go"
        refine Gx.g_repr hsr ?_
        walk_at "go"
        refine ifn (by simp) ?_
        walk_at "go"
        refine Gx.forL [] (fun i σ' H' => ∃ (s4 s6 s7 s8 s9 s10 : Option V), σ' = [some (.ref r), some (.ref a), some (.ref q), some (.ref W.bk), s4, none, s6, s7, s8, s9, s10]) ⟨_, _, _, _, _, _, rfl⟩ ?_ ?_
        · rintro i v σ' H20 hv e20 ⟨s4, s6, s7, s8, s9, s10, rfl⟩
          obtain ⟨z, hz, rfl⟩ : ∃ z, z ∈ zs ∧ v = .str z := by
            obtain ⟨z, h1, h2⟩ := List.mem_map.mp (List.mem_of_getElem? hv)
            exact ⟨z, h1, h2.symm⟩
          have hzK := hzk z hz
          have x20 : Ex H H20 := Gx.rel
          have hR20 : RgC c_Ring c_RingLog c_Round H20 r W.rs := rgStep (r := x20) (h := hR)
          have hd20 : At H20 a (.dK (W.kvs c d)) := inferInstance
          have hch20 : ChC H20 d ps W.C := inferInstance
          have hB20 : At H20 W.bk (.dK (bookK W.B)) := inferInstance
          walk_at "go"
          have hfl : (findL z W.rs.L).isSome = decide (z ∈ livs W.C) := find_livs
          by_cases hzl : z ∈ livs W.C
          · have hv := bk_val ((hbk.mem _).mpr hzl)
            have ho1 := val_ok hbk hok hzl
            have ho2 := dep_ok hok (z := z)
            refine ifp (by rw [hv]; rfl) ?_
            walk_at "go"
            refine Gx.g_dgetK hv ?_
            walk_at "go"
            refine ifn (by rw [hfl, hv]; simp [hzl]) ?_
            walk_at "go"
            refine ⟨r, W, z, n, rfl, ⟨inferInstance, hok, hzK⟩, fun x t H21 g1 g2 g3 n21 e21 h21 => ?_, fun hh => absurd hzl hh⟩
            rw [bk_of hbk hok g1 g2 g3] at h21
            walk_at "go"
            refine Gx.g_repr (d := .tuple [.str "value", .int (bkI W.B z)]) ho1 ?_
            walk_at "go"
            refine Gx.g_repr (d := .tuple [.str "value", .int (bkI W.B z)]) ho1 ?_
            walk_at "go"
            refine ifn (by simp) ?_
            walk_at "go"
            refine ⟨r, W, z, n, rfl, ⟨inferInstance, hok, hzK⟩, fun _ t H22 n22 e22 h22 => ?_, fun hh => absurd hzl hh⟩
            walk_at "go"
            refine Gx.g_repr (d := .tuple [.str "depth", .int (depE z W.C)]) ho2 ?_
            walk_at "go"
            refine Gx.g_repr (d := .tuple [.str "depth", .int (depE z W.C)]) ho2 ?_
            walk_at "go"
            refine ifn (by simp) ?_
            walk_at "go"
            exact Gx.li ⟨_, _, _, _, _, _, rfl⟩
          · have hv := hbk.not hzl
            have ho := unk_ok hzK
            refine ifn (by rw [hv]; simp) ?_
            walk_at "go"
            refine ifn (by rw [hfl, hv]; simp [hzl]) ?_
            walk_at "go"
            refine ⟨r, W, z, n, rfl, ⟨inferInstance, hok, hzK⟩, fun x t H21 g1 g2 g3 => absurd (mem_livs.mpr ⟨x, g1, g2, g3⟩) hzl, fun _ t H21 n21 e21 h21 => ?_⟩
            walk_at "go"
            refine Gx.g_repr (d := .tuple [.str "unknown", .str z]) ho ?_
            walk_at "go"
            refine Gx.g_repr (d := .tuple [.str "unknown", .str z]) ho ?_
            walk_at "go"
            refine ifn (by simp) ?_
            walk_at "go"
            refine ⟨r, W, z, n, rfl, ⟨inferInstance, hok, hzK⟩, fun hh => absurd hh hzl, fun _ t H22 n22 e22 h22 => ?_⟩
            walk_at "go"
            refine Gx.g_repr (d := .tuple [.str "unknown", .str z]) ho ?_
            walk_at "go"
            refine Gx.g_repr (d := .tuple [.str "unknown", .str z]) ho ?_
            walk_at "go"
            refine ifn (by simp) ?_
            walk_at "go"
            exact Gx.li ⟨_, _, _, _, _, _, rfl⟩
        · rintro σ' H20 e20 ⟨s4, s6, s7, s8, s9, s10, rfl⟩
          walk_at "go"
          exact k _ Gx.rel

/-! two rings and two worlds side by side -/
theorem RgC.frameN {C CL CR a : Addr} {S : RS} {H1 H : Hp} {bs : List Addr} (h : RgC C CL CR H1 a S) (r : Chg bs H1 H) (hp : Plain S) (hb : ∀ b ∈ bs, b ≠ a ∧ ∃ w, H1 b = some w ∧ (Oth w ∨ ∃ C2 dx S2 b2 d2 o2, w = .ins C2 dx (RS.flds S2 b2 d2 o2))) : RgC C CL CR H a S := by
  obtain ⟨c, d, o, h1, h2, h3, h4⟩ := h.ex
  obtain ⟨dx, h1⟩ := h1.ex
  obtain ⟨e, ps, ⟨⟨dd, g1⟩⟩, g2⟩ := h3.ex
  have ho : H1 o = some (.lst []) := by have := h4.eq; rw [hp.1] at this; exact this
  have kp : ∀ {x : Addr} {v : HO}, H1 x = some v → (∀ w, Oth w → v ≠ w) → (∀ C2 dx S2 b2 d2 o2, v ≠ .ins C2 dx (RS.flds S2 b2 d2 o2)) → H x = some v := fun {x v} hx k1 k2 => r.keep _ _ (fun hm => by
    obtain ⟨_, w, hw, h⟩ := hb x hm
    rw [hx] at hw
    cases hw
    rcases h with h | ⟨C2, dx, S2, b2, d2, o2, h⟩
    · exact k1 _ h rfl
    · exact k2 _ _ _ _ _ _ h) hx
  refine ⟨c, d, o, ⟨⟨dx, r.keep _ _ (fun hm => (hb a hm).1 rfl) h1⟩⟩, inferInstance, ⟨⟨e, ps, ⟨⟨dd, kp g1 (fun w hw => oth_ins hw) (fun _ _ _ _ _ _ z => by cases z)⟩⟩, ⟨kp g2.lst (fun w hw => oth_refs hw) (fun _ _ _ _ _ _ z => by cases z), g2.len, fun i p hi => ?_⟩⟩⟩, ⟨?_⟩⟩
  · obtain ⟨en, k1, k2⟩ := g2.ent i p hi
    obtain ⟨q, q1, q2⟩ := k2.ex
    have hr : en.rs = [] := hp.2 en (List.mem_of_getElem? k1)
    refine ⟨en, k1, ⟨q, kp q1 (fun w hw => oth_str hw) (fun _ _ _ _ _ _ z => by cases z), ?_⟩⟩
    rw [hr] at q2 ⊢
    exact kp q2 (fun w hw => oth_nil hw) (fun _ _ _ _ _ _ z => by cases z)
  · rw [hp.1]
    exact kp ho (fun w hw => oth_nil hw) (fun _ _ _ _ _ _ z => by cases z)
/-- a ring, its world and its book -/
structure One (C CL CR : Addr) (H : Hp) (r a k c : Addr) (W : WS) (d : Addr) (ps : List Addr) (n : Int) : Prop where
  R : RgC C CL CR H r W.rs
  A : WdC H a W c d ps
  B : At H k (.dK (bookK W.B))
  ok : WOk n W
  bo : BkOk W
  e : W.bk = k
section
variable {C CL CR : Addr} {H H' : Hp} {r a k c d r1 a1 k1 d1 : Addr} {W W1 : WS} {ps ps1 : List Addr} {n m : Int}
theorem One.mono (h : One C CL CR H r a k c W d ps n) (hn : n ≤ m) : One C CL CR H r a k c W d ps m := ⟨h.R, h.A, h.B, h.ok.mono hn, h.bo, h.e⟩
theorem One.frame {bs : List Addr} (h : One C CL CR H r a k c W d ps n) (x : Chg bs H H') (hb : ∀ b ∈ bs, b ≠ r ∧ b ≠ a ∧ b ≠ k ∧ b ≠ c ∧ ∃ w, H b = some w ∧ (Oth w ∨ ∃ C2 dx S2 b2 d2 o2, w = .ins C2 dx (RS.flds S2 b2 d2 o2))) : One C CL CR H' r a k c W d ps n := by
  obtain ⟨h1, h2, h3⟩ := h.A
  refine ⟨h.R.frameN x (inferInstance : PlainC W.rs).out fun b m => ⟨(hb b m).1, (hb b m).2.2.2.2⟩, ⟨⟨x.keep _ _ (fun m => (hb a m).2.1 rfl) h1.eq⟩, ⟨x.keep _ _ (fun m => (hb c m).2.2.2.1 rfl) h2.eq⟩, h3.mv x (x.keep _ _ (fun m => ?_) h3.lst)⟩, ⟨x.keep _ _ (fun m => (hb k m).2.2.1 rfl) h.B.eq⟩, h.ok, h.bo, h.e⟩
  obtain ⟨_, _, _, _, w, hw, q⟩ := hb d m
  have e : (.lst (ps.map V.ref) : HO) = w := Option.some.inj (h3.lst.symm.trans hw)
  rcases q with q | ⟨C2, dx, S2, b2, d2, o2, q⟩
  · exact oth_refs q e
  · rw [q] at e
    cases e
theorem One.ex (h : One C CL CR H r a k c W d ps n) (e : Ex H H') : One C CL CR H' r a k c W d ps n := h.frame e (fun b m => by cases m)
theorem One.neK (h : One C CL CR H r a k c W d ps n) {x : Addr} {kv : List (Key × V)} (hx : H x = some (.dK kv)) : x ≠ r ∧ x ≠ c := by
  obtain ⟨b, e, o, h1, _⟩ := h.R.ex
  obtain ⟨dx, h1⟩ := h1.ex
  refine ⟨?_, ?_⟩
  · rintro rfl
    rw [hx] at h1
    cases h1
  · rintro rfl
    have := h.A.cyc.eq
    rw [hx] at this
    cases this
theorem One.neI (h : One C CL CR H r a k c W d ps n) {x C2 dx : Addr} {fs : List (Str × V)} (hx : H x = some (.ins C2 dx fs)) : x ≠ a ∧ x ≠ k ∧ x ≠ c := by
  refine ⟨?_, ?_, ?_⟩
  · rintro rfl
    have := h.A.dic.eq
    rw [hx] at this
    cases this
  · rintro rfl
    have := h.B.eq
    rw [hx] at this
    cases this
  · rintro rfl
    have := h.A.cyc.eq
    rw [hx] at this
    cases this
theorem oth_dK {kv : List (Key × V)} : Oth (.dK kv) := .inr ⟨(fun _ z => by cases z), (fun _ _ _ z => by cases z)⟩
theorem One.side (h : One C CL CR H r a k c W d ps n) (g : One C CL CR H r1 a1 k1 c W1 d1 ps1 m) (x : Chg [r1, a1, k1] H H') (n1 : r1 ≠ r) (n2 : a1 ≠ a) (n3 : a1 ≠ k) (n4 : k1 ≠ a) (n5 : k1 ≠ k) : One C CL CR H' r a k c W d ps n := by
  obtain ⟨b, e, o, g1, _⟩ := g.R.ex
  obtain ⟨dx, g1⟩ := g1.ex
  have g2 := g.A.dic.eq
  have g3 := g.B.eq
  refine h.frame x fun y hy => ?_
  rcases List.mem_cons.mp hy with rfl | hy
  · obtain ⟨q1, q2, q3⟩ := h.neI g1
    exact ⟨n1, q1, q2, q3, _, g1, .inr ⟨_, _, _, _, _, _, rfl⟩⟩
  rcases List.mem_cons.mp hy with rfl | hy
  · obtain ⟨q1, q2⟩ := h.neK g2
    exact ⟨q1, n2, n3, q2, _, g2, .inl oth_dK⟩
  · obtain rfl := List.mem_singleton.mp hy
    obtain ⟨q1, q2⟩ := h.neK g3
    exact ⟨q1, n4, n5, q2, _, g3, .inl oth_dK⟩
theorem One.bag {b : Addr} (h : One C CL CR H r a k c W d ps n) (hb : Bg b H) (x : ExB b H H') (nb : b ≠ c) : One C CL CR H' r a k c W d ps n := by
  obtain ⟨u, v, z, g⟩ := hb.ex
  refine h.frame x fun y hy => ?_
  obtain rfl := List.mem_singleton.mp hy
  refine ⟨?_, ?_, ?_, nb, _, g, .inl (.inl ⟨_, _, rfl⟩)⟩
  · rintro rfl
    obtain ⟨b, e, o, h1, _⟩ := h.R.ex
    obtain ⟨dx, h1⟩ := h1.ex
    rw [g] at h1
    cases h1
  · rintro rfl
    have := h.A.dic.eq
    rw [g] at this
    cases this
  · rintro rfl
    have := h.B.eq
    rw [g] at this
    cases this
end
theorem due_dk {n : Int} {W : WS} (h : WOk n W) : Gx.ShowDk (dueP W.C) := by
  have h1 := h.ln
  have h2 := h.tm.p2
  have h3 := livs_len W.C
  refine Gx.showD (by rw [due_len]; omega) fun p hp => ?_
  obtain ⟨e, he, rfl⟩ := List.mem_map.mp hp
  obtain ⟨g1, g2⟩ := List.mem_filter.mp he
  obtain ⟨g3, g4⟩ := h.en e g1
  obtain ⟨v, hv, g5, g6⟩ := g4 g2
  refine ⟨(key_c g3).mono (by decide) (Nat.le_refl _), ?_⟩
  show Gx.Sm 1921 0 (.int (e.w.getD 0))
  rw [hv]
  exact Gx.sm_int2 (i := v) (by omega) (by omega)
section
variable {C CL CR : Addr} {H H' : Hp} {r a k c d r1 a1 k1 d1 : Addr} {W W1 : WS} {ps ps1 : List Addr} {n m : Int} {Q : VK} {E : XK}
theorem One.neL (h : One C CL CR H r a k c W d ps n) {x : Addr} {xs : List V} (hx : H x = some (.lst xs)) : x ≠ r ∧ x ≠ a ∧ x ≠ k := by
  refine ⟨?_, ?_, ?_⟩
  · rintro rfl
    obtain ⟨b, e, o, h1, _⟩ := h.R.ex
    obtain ⟨dx, h1⟩ := h1.ex
    rw [hx] at h1
    cases h1
  · rintro rfl
    have := h.A.dic.eq
    rw [hx] at this
    cases this
  · rintro rfl
    have := h.B.eq
    rw [hx] at this
    cases this
theorem One.outL (h : One C CL CR H r a k c W d ps n) (g : One C CL CR H r1 a1 k1 c W1 d1 ps1 m) {x : Addr} {xs : List V} (hx : H x = some (.lst xs)) : Gx.NotIn x [r, a, k, r1, a1, k1] := ⟨by
  obtain ⟨q1, q2, q3⟩ := h.neL hx
  obtain ⟨q4, q5, q6⟩ := g.neL hx
  simp [*]⟩
theorem use_mvO {z : Str} {w tl : Option Int} (h : One C CL CR H r a k c W d ps n) (na : a ≠ k) (hn : n < 2 ^ 58) (hz : KeyOk z) (hw : WthOk w) (ht : TlOk tl) (q : ∀ H' W' d' ps', Chg [r, a, k] H H' → One C CL CR H' r a k c W' d' ps' (n + 1) → Q (.bl true) H') :
    spMove C CL CR [.ref r, .ref a, .str z, cV w, cV tl] H Q E := by
  have e := h.e
  subst e
  exact ⟨r, a, W, c, d, ps, z, w, tl, n, rfl, ⟨h.R, h.A, h.B, h.ok, h.bo, ⟨na⟩, hn, hz, hw, ht⟩, fun H' W' d' ps' x R A B ok bo e => q H' W' d' ps' x ⟨R, A, by rw [← e]; exact B, ok, bo, e⟩⟩
theorem use_kpO {q : Addr} {zs : List Str} (h : One C CL CR H r a k c W d ps n) (hq : At H q (.lst (zs.map V.str))) (hz : ∀ z ∈ zs, KeyOk z) (hl : zs.length ≤ 1000) (k : ∀ H', Ex H H' → Q (.bl true) H') : spKpt C CL CR [.ref r, .ref a, .ref q] H Q E := by
  have e := h.e
  subst e
  exact ⟨r, a, W, c, d, ps, q, zs, n, rfl, ⟨h.R, h.A, h.B, h.ok, h.bo, hq, hz, hl⟩, k⟩
end

/-- what is at six places apart -/
structure Apart (r0 a0 k0 r1 a1 k1 : Addr) : Prop where
  r : r0 ≠ r1
  aa : a0 ≠ a1
  kk : k0 ≠ k1
  ak : a0 ≠ k1
  ka : k0 ≠ a1
  n0 : a0 ≠ k0
  n1 : a1 ≠ k1
def spTrn (C CL CR : Addr) : Sp := fun vs H Q _ => ∃ (b rl wl q c r0 a0 k0 r1 a1 k1 : Addr) (W0 W1 : WS) (d0 d1 : Addr) (ps0 ps1 : List Addr) (zs : List Str) (n : Int), vs = [.ref b, .ref rl, .ref wl, .ref q] ∧
  (Bg b H ∧ At H rl (.lst [.ref r0, .ref r1]) ∧ At H wl (.lst [.ref a0, .ref a1]) ∧ At H q (.lst (zs.map V.str)) ∧ One C CL CR H r0 a0 k0 c W0 d0 ps0 n ∧ One C CL CR H r1 a1 k1 c W1 d1 ps1 n ∧ Apart r0 a0 k0 r1 a1 k1 ∧ b ≠ c ∧ q ≠ b ∧ 0 ≤ n ∧ n < 2 ^ 57 ∧ 1 ≤ zs.length ∧ zs.length ≤ 100 ∧ (∀ z ∈ zs, KeyOk z)) ∧
  ∀ H' W0' W1' d0' d1' ps0' ps1', Chg [b, r0, a0, k0, r1, a1, k1] H H' → Bg b H' → One C CL CR H' r0 a0 k0 c W0' d0' ps0' (n + 1) → One C CL CR H' r1 a1 k1 c W1' d1' ps1' (n + 1) → Q (.bl true) H'
local macro_rules | `(tactic| walk_at "call") => `(tactic| first
  | (refine Gx.g_dgetK rfl ?_))
abbrev s_law_turn : Stmt := (top 51)
abbrev N_law_turn : List Str := ["_law_purse_here", "_law_rings", "_law_worlds", "_law_pool_here", "_law_pick_here", "_law_tallies", "_law_held", "_law_shown", "_law_k", "_law_names"]
theorem sc_law_turn : FnScope N_law_turn ["_law_purse_here", "_law_rings", "_law_worlds", "_law_pool_here"] (defScope s_law_turn) := ⟨rfl, rfl, rfl, by decide +kernel, rfl, by decide +kernel, by decide +kernel⟩
theorem cl_law_turn (T : Bl mg) (Z : EcF P K mg c_StoreError c_InvalidInput c_KeyLimit c_UnknownKey c_BadChoice c_Stalled) (R : RdF K mg c_Round) (W_RingLog : Gx.ClsF K mg c_RingLog "RingLog" ["entries"]) (W_Ring : Gx.ClsF K mg c_Ring "Ring" ["_places", "_limit", "_budgets", "_late", "_readers", "_log", "_done", "_phase", "_carried", "_last_wait", "_opened", "_open"]) (N_KEY : Gx.GlI mg "KEY" 0) (N_VALUE : Gx.GlI mg "VALUE" 1) (N_LIVING : Gx.GlI mg "LIVING" 2) (N_READERS : Gx.GlI mg "READERS" 3) (N_KEY_LENGTH : Gx.GlI mg "KEY_LENGTH" 12) (N_KEY_CHARACTERS : Gx.GlS mg "KEY_CHARACTERS" "abcdefghijklmnopqrstuvwxyz0123456789") (D : DfG K mg "_law_turn" s_law_turn [] []) (C_law_kept : ClGG CX0 P w K mg base 11 "_law_kept" s_law_kept ["_law_ring_here", "_law_world_here", "_law_names"] [] [] (spKpt c_Ring c_RingLog c_Round)) (C_law_take : ClG CX0 P w K mg base 5 "_law_take" s_law_take ["_law_purse_here", "_law_many"] [] [] spTake) (C_law_move : ClG CX0 P w K mg base 17 "_law_move" s_law_move ["_law_ring_here", "_law_world_here", "_law_name_here", "_law_worth_here", "_law_tally_here"] [] [] (spMove c_Ring c_RingLog c_Round)) (C_Ring_table : ClM CX0 P w K mg base 3 c_Ring "table" "Ring.table" s_Ring_table ["self"] [] [] (spTab c_Ring c_RingLog c_Round)) (C_law_tally : ClG CX0 P w K mg base 7 "_law_tally" s_law_tally ["_law_purse_here"] [] [] spTly) (C_law_pick : ClG CX0 P w K mg base 9 "_law_pick" s_law_pick ["_law_purse_here", "_law_chain", "_law_pool_here"] [] [] spPck) : ClGG CX0 P w K mg base 19 "_law_turn" s_law_turn ["_law_purse_here", "_law_rings", "_law_worlds", "_law_pool_here"] [] [] (spTrn c_Ring c_RingLog c_Round) := by
  have nd := sc_law_turn.nd
  refine D.okG sc_law_turn (fun vs H Q E h => ?_) (fun f cdv A outer s H vs Q E hgd hr h => ?_)
  · obtain ⟨b, rl, wl, q, c, r0, a0, k0, r1, a1, k1, W0, W1, d0, d1, ps0, ps1, zs, n, rfl, _⟩ := h
    rfl
  · obtain ⟨b, rl, wl, q, c, r0, a0, k0, r1, a1, k1, W0, W1, d0, d1, ps0, ps1, zs, n, rfl, ⟨hb, hrl, hwl, hq, h0, h1, hap, nbc, nqb, hn0, hn, hz1, hz2, hzk⟩, k⟩ := h
    have hu := hu64 hr
    refine ⟨_, (pss_cons (ps_set (i := 4) nd rfl (Or.inl rfl) (pe_g C_law_pick (by exact hr.mono (by decide)) (E := fun _ => E0) (fun σ => passC0 σ) (fun _ _ _ _ _ _ us hl => match us, hl with | [_, _, _], _ => rfl) (pa_cons (pv 0) (pa_cons (pe_dget (hu1 (by exact hu)) (pe_ix (ixSeqK (K := K) (by rfl)) (pv 2) pe_int (fun _ _ => rfl)) pe_str (fun _ _ => rfl)) (pa_cons (pv 3) pa_nil)))))
    (pss_cons (ps_set (i := 5) nd rfl (Or.inl rfl) (pe_lst (pa_cons pe_non (pa_cons (pe_g C_law_tally (by exact hr.mono (by decide)) (E := fun _ => E0) (fun σ => passC0 σ) (fun _ _ _ _ _ _ us hl => match us, hl with | [_], _ => rfl) (pa_cons (pv 0) pa_nil)) pa_nil))))
    (pss_cons (ps_set (i := 6) nd rfl (Or.inl rfl) (pe_m0 C_Ring_table W_Ring.c (by exact hr.mono (by decide)) pass0 (fun _ _ _ _ _ _ us hl => match us, hl with | [_], _ => rfl) (pe_ix (ixSeqK (K := K) (by rfl)) (pv 1) pe_int (fun _ _ => rfl))))
    (pss_cons (ps_set (i := 7) nd rfl (Or.inl rfl) (pe_callB (Gx.callReprD (by exact hgd) (by exact hu)) (by rfl) T.repr (by decide +kernel) (pa_cons (pv 6) pa_nil)))
    (pss_cons (ps_for PassesOwn.never rfl (pi_range1 rfl T.range (pa_cons pe_int pa_nil)) (pg_name (i := 8) nd rfl (Or.inl rfl))
      (pss_one (ps_if (pt_not (pt_val (pe_g C_law_move (by exact hr.mono (by decide)) (E := fun _ => E0) (fun σ => passC0 σ) (fun _ _ _ _ _ _ us hl => match us, hl with | [_, _, _, _, _], _ => rfl) (pa_cons (pe_ix (ixSeqK (K := K) (by rfl)) (pv 1) (pv 8) (fun _ _ => rfl)) (pa_cons (pe_ix (ixSeqK (K := K) (by rfl)) (pv 2) (pv 8) (fun _ _ => rfl)) (pa_cons (pe_ix (ixSeqK (K := K) (by rfl)) (pv 4) pe_int (fun _ _ => rfl)) (pa_cons (pe_ix (ixSeqK (K := K) (by rfl)) (pv 4) pe_int (fun _ _ => rfl)) (pa_cons (pe_ix (ixSeqK (K := K) (by rfl)) (pv 5) (pv 8) (fun _ _ => rfl)) pa_nil))))))))
      (pss_one (ps_ret pe_bl))
      pss_nil)))
    (pss_cons (ps_if (pt_cmpR (opNeK (K := K) (by rfl) (by exact hu)) (pe_callB (Gx.callReprD (by exact hgd) (by exact hu)) (by rfl) T.repr (by decide +kernel) (pa_cons (pv 6) pa_nil)) (pv 7) (nomark _))
      (pss_one (ps_ret pe_bl))
      pss_nil)
    (pss_cons (ps_if (pt_cmpR (opEqK (K := K) (by rfl) (by exact hu)) (pe_g C_law_take (by exact hr.mono (by decide)) (E := fun _ => E0) (fun σ => passC0 σ) (fun _ _ _ _ _ _ us hl => match us, hl with | [_, _], _ => rfl) (pa_cons (pv 0) (pa_cons pe_int pa_nil))) pe_int (nomark _))
      (pss_one (ps_ret pe_bl))
      pss_nil)
    (pss_cons (ps_set (i := 9) nd rfl (Or.inl rfl) (pe_lst (pa_cons (pe_ix (ixSeqK (K := K) (by rfl)) (pv 4) pe_int (fun _ _ => rfl)) (pa_cons (pe_ix (ixSeqK (K := K) (by rfl)) (pv 3) (pe_g C_law_take (by exact hr.mono (by decide)) (E := fun _ => E0) (fun σ => passC0 σ) (fun _ _ _ _ _ _ us hl => match us, hl with | [_, _], _ => rfl) (pa_cons (pv 0) (pa_cons (pe_callB (callLenK (K := K) (by rfl)) (by rfl) T.len (by decide +kernel) (pa_cons (pv 3) pa_nil)) pa_nil))) (fun _ _ => rfl)) (pa_cons (pe_ix (ixSeqK (K := K) (by rfl)) (pv 3) (pe_un un_neg pe_int) (fun _ _ => rfl)) pa_nil)))))
    (pss_one (ps_ret (pe_and (pe_gG C_law_kept (by exact hr.mono (by decide)) (by exact hgd) (E := fun _ => E0) (fun σ => passC0 σ) (fun _ _ _ _ _ _ us hl => match us, hl with | [_, _, _], _ => rfl) (pa_cons (pe_ix (ixSeqK (K := K) (by rfl)) (pv 1) pe_int (fun _ _ => rfl)) (pa_cons (pe_ix (ixSeqK (K := K) (by rfl)) (pv 2) pe_int (fun _ _ => rfl)) (pa_cons (pv 9) pa_nil)))) (pe_one (pe_gG C_law_kept (by exact hr.mono (by decide)) (by exact hgd) (E := fun _ => E0) (fun σ => passC0 σ) (fun _ _ _ _ _ _ us hl => match us, hl with | [_, _, _], _ => rfl) (pa_cons (pe_ix (ixSeqK (K := K) (by rfl)) (pv 1) pe_int (fun _ _ => rfl)) (pa_cons (pe_ix (ixSeqK (K := K) (by rfl)) (pv 2) pe_int (fun _ _ => rfl)) (pa_cons (pv 9) pa_nil)))))))))))))))), ?_⟩
    try dsimp only [L2.cxOf, L2.Cx.nox]
    simp only [L2.start, N_law_turn, List.map_cons, List.map_nil, List.length_cons, List.length_nil, Nat.reduceAdd, Nat.reduceSub, List.replicate_succ, List.replicate_zero, List.cons_append, List.nil_append]

    have R0 := h0.R
    have A0 := h0.A
    have B0 := h0.B
    have R1 := h1.R
    have A1 := h1.A
    have B1 := h1.B
    have nqb' : Gx.NeC q b := ⟨nqb⟩
    have nrl : Gx.NeC rl b := ⟨by
      rintro rfl
      obtain ⟨_, _, _, g⟩ := hb.ex
      rw [hrl.eq] at g
      cases g⟩
    have nwl : Gx.NeC wl b := ⟨by
      rintro rfl
      obtain ⟨_, _, _, g⟩ := hb.ex
      rw [hwl.eq] at g
      cases g⟩
    obtain ⟨hd0, hcy0, hch0⟩ := (show WdC H a0 W0 c d0 ps0 from A0)
    have hln := h0.ok.ln
    have hp2 := h0.ok.tm.p2
    have hkk := livs_key h0.ok
    walk_at "go"
    refine ⟨b, d0, q, ps0, W0.C, zs, rfl, ⟨inferInstance, inferInstance, inferInstance, inferInstance, by omega, by omega, by omega, hzk, hkk⟩, fun u z w H2 n2 e2 hB2 hu2 hkz hkw => ?_⟩
    walk_at "go"
    rename_i tl H3 htl e3 hB3 p5 H4 n5 e4 h5
    have x4 : ExB b H H4 := Gx.rel
    have g0 := h0.bag hb x4 nbc
    have g1 := h1.bag hb x4 nbc
    have R04 := g0.R
    have A04 := g0.A
    have B04 := g0.B
    have R14 := g1.R
    have A14 := g1.A
    have B14 := g1.B
    refine use_tabW h0.ok fun p6 H6 n6 e6 h6 => ?_
    walk_at "go"
    have hsd : Gx.ShowDk (dueP W0.C) := due_dk h0.ok
    refine Gx.g_reprD hsd ?_
    walk_at "go"
    have x6 : ExB b H H6 := Gx.rel
    have g0 := g0.ex e6
    have g1 := g1.ex e6
    have o1 : Gx.NotIn rl [r0, a0, k0, r1, a1, k1] := h0.outL h1 hrl.eq
    have o2 : Gx.NotIn wl [r0, a0, k0, r1, a1, k1] := h0.outL h1 hwl.eq
    have o3 : Gx.NotIn q [r0, a0, k0, r1, a1, k1] := h0.outL h1 hq.eq
    have o4 : Gx.NotIn b [r0, a0, k0, r1, a1, k1] := by
      obtain ⟨_, _, _, g⟩ := hb.ex
      exact h0.outL h1 g
    have o5 : Gx.NotIn p5 [r0, a0, k0, r1, a1, k1] := inferInstance
    have o6 : Gx.NotIn p6 [r0, a0, k0, r1, a1, k1] := inferInstance
    have hrl6 : At H6 rl (.lst [.ref r0, .ref r1]) := inferInstance
    have hwl6 : At H6 wl (.lst [.ref a0, .ref a1]) := inferInstance
    have h56 : At H6 p5 (.lst [.non, cV tl]) := inferInstance
    have hu6 : At H6 u (.tup [.str z, cV w]) := inferInstance
    have hB6 : Bg b H6 := inferInstance
    refine Gx.for1 [r0, a0, k0, r1, a1, k1] (fun i σ' H' => ∃ (V0 V1 : WS) (d0 d1 : Addr) (ps0 ps1 : List Addr) (s8 : Option V), σ' = [some (.ref b), some (.ref rl), some (.ref wl), some (.ref q), some (.ref u), some (.ref p5), some (.ref p6), some (.str (Gx.dD (dueP W0.C)).shown), s8, none] ∧
      One c_Ring c_RingLog c_Round H' r0 a0 k0 c V0 d0 ps0 (n + (min i 1 : Nat)) ∧ One c_Ring c_RingLog c_Round H' r1 a1 k1 c V1 d1 ps1 (n + (i - 1 : Nat))) (by omega) ⟨W0, W1, d0, d1, ps0, ps1, _, rfl, g0.mono (by omega), g1.mono (by omega)⟩ ?_ ?_
    · rintro i σ' H7 hi e7 ⟨V0, V1, d0, d1, ps0, ps1, s8, rfl, y0, y1⟩
      have hrl7 : At H7 rl (.lst [.ref r0, .ref r1]) := inferInstance
      have hwl7 : At H7 wl (.lst [.ref a0, .ref a1]) := inferInstance
      have h57 : At H7 p5 (.lst [.non, cV tl]) := inferInstance
      have hu7 : At H7 u (.tup [.str z, cV w]) := inferInstance
      obtain rfl | rfl : i = 0 ∨ i = 1 := by omega
      · walk_at "go"
        refine use_mvO (tl := none) y0 hap.n0 (by simp; omega) hkz hkw (fun j e => by cases e) fun H8 V0' d0' ps0' e8 y0' => ?_
        have y1' := y1.side y0 e8 hap.r hap.aa hap.ak hap.ka hap.kk
        walk_at "go"
        exact Gx.li ⟨V0', V1, d0', d1, ps0', ps1, _, rfl, y0'.mono (by simp), y1'.mono (by simp)⟩
      · walk_at "go"
        refine use_mvO (tl := tl) y1 hap.n1 (by simp; omega) hkz hkw htl fun H8 V1' d1' ps1' e8 y1' => ?_
        have y0' := y0.side y1 e8 hap.r.symm hap.aa.symm hap.ka.symm hap.ak.symm hap.kk.symm
        walk_at "go"
        exact Gx.li ⟨V0, V1', d0, d1', ps0, ps1', _, rfl, y0'.mono (by simp), y1'.mono (by simp)⟩
    · rintro σ' H7 e7 ⟨V0, V1, d0, d1, ps0, ps1, s8, rfl, y0, y1⟩
      have h67 : At H7 p6 (.dK (bookK (dueP W0.C))) := inferInstance
      have hB7 : Bg b H7 := inferInstance
      walk_at "go"
      refine Gx.g_reprD hsd ?_
      walk_at "go"
      refine ifn (by simp) ?_
      walk_at "go"
      have hq7 : At H7 q (.lst (zs.map V.str)) := inferInstance
      have hu7 : At H7 u (.tup [.str z, cV w]) := inferInstance
      have hrl7 : At H7 rl (.lst [.ref r0, .ref r1]) := inferInstance
      have hwl7 : At H7 wl (.lst [.ref a0, .ref a1]) := inferInstance
      have x7 : Chg [b, r0, a0, k0, r1, a1, k1] H H7 := Gx.rel
      have y0 := y0.mono (m := n + 1) (by simp)
      have y1 := y1.mono (m := n + 1) (by simp)
      have hzl : (zs.map V.str).length = zs.length := List.length_map ..
      walk_at "gos"
      · rename_i t1 H8 t10 t11 e8 hB8 hI
        have x8 : ExB b H7 H8 := Gx.rel
        exact k H8 V0 V1 d0 d1 ps0 ps1 Gx.rel hB8 (y0.bag hB7 x8 nbc) (y1.bag hB7 x8 nbc)
      · rename_i t1 H8 t10 t11 e8 hB8 hI t2 H9 t20 t21 e9 hB9 z1 hz1' z2 hz2' p9 H10 n10 e10 h10
        have x9 : ExB b H7 H9 := Gx.rel
        have y0 := (y0.bag hB7 x9 nbc).ex e10
        have y1 := (y1.bag hB7 x9 nbc).ex e10
        have hB10 : Bg b H10 := inferInstance
        have h10 : At H10 p9 (.lst (([z, z1, z2] : List Str).map V.str)) := h10
        have hk3 : ∀ x ∈ ([z, z1, z2] : List Str), KeyOk x := fun x hx => by
          rcases List.mem_cons.mp hx with rfl | hx
          · exact hkz
          rcases List.mem_cons.mp hx with rfl | hx
          · exact hzk _ hz1'
          · obtain rfl := List.mem_singleton.mp hx
            exact hzk _ hz2'
        refine use_kpO y0 h10 hk3 (by simp) fun H11 e11 => ?_
        have hrl11 : At H11 rl (.lst [.ref r0, .ref r1]) := inferInstance
        have hwl11 : At H11 wl (.lst [.ref a0, .ref a1]) := inferInstance
        have h11 : At H11 p9 (.lst (([z, z1, z2] : List Str).map V.str)) := inferInstance
        have y0 := y0.ex e11
        have y1 := y1.ex e11
        walk_at "go"
        refine use_kpO y1 h11 hk3 (by simp) fun H12 e12 => ?_
        have y0 := y0.ex e12
        have y1 := y1.ex e12
        have hB12 : Bg b H12 := inferInstance
        walk_at "go"
        exact k H12 V0 V1 d0 d1 ps0 ps1 Gx.rel hB12 y0 y1

def spLaw (K : PySem.W.Frag) : Sp := fun vs H Q _ => ∃ (a : Addr) (ns : List Int), vs = [.ref a] ∧ SqL K H a (ns.map V.int) ∧ ns.length ≤ 63 ∧ (∀ z ∈ ns, Builtin.Int.intBits z ≤ 1048576) ∧ ∀ H', Q (.bl true) H'
abbrev s_law : Stmt := (top 52)
abbrev N_law : List Str := ["_law_script", "_law_purse_here", "_law_terms_here", "_law_pool_here", "_law_rings", "_law_worlds", "_law_name_here", "_law_worth_here", "_law_k", "_law_rounds", "_law_share", "_law_turn_here"]
theorem sc_law : FnScope N_law ["_law_script"] (defScope s_law) := ⟨rfl, rfl, rfl, by decide +kernel, rfl, by decide +kernel, by decide +kernel⟩
theorem ok_law {f : Addr} {fd : FuncData} (T : Bl mg) (Z : EcF P K mg c_StoreError c_InvalidInput c_KeyLimit c_UnknownKey c_BadChoice c_Stalled) (R : RdF K mg c_Round) (W_RingLog : Gx.ClsF K mg c_RingLog "RingLog" ["entries"]) (W_Ring : Gx.ClsF K mg c_Ring "Ring" ["_places", "_limit", "_budgets", "_late", "_readers", "_log", "_done", "_phase", "_carried", "_last_wait", "_opened", "_open"]) (N_KEY : Gx.GlI mg "KEY" 0) (N_VALUE : Gx.GlI mg "VALUE" 1) (N_LIVING : Gx.GlI mg "LIVING" 2) (N_READERS : Gx.GlI mg "READERS" 3) (N_KEY_LENGTH : Gx.GlI mg "KEY_LENGTH" 12) (N_KEY_CHARACTERS : Gx.GlS mg "KEY_CHARACTERS" "abcdefghijklmnopqrstuvwxyz0123456789") (F : FunD K "law" "law" (defArgs s_law) (defBody s_law) (defScope s_law) [] [] f fd) (C_law_kept : ClGG CX0 P w K mg base 11 "_law_kept" s_law_kept ["_law_ring_here", "_law_world_here", "_law_names"] [] [] (spKpt c_Ring c_RingLog c_Round)) (C_law_take : ClG CX0 P w K mg base 5 "_law_take" s_law_take ["_law_purse_here", "_law_many"] [] [] spTake) (C_law_turn : ClGG CX0 P w K mg base 19 "_law_turn" s_law_turn ["_law_purse_here", "_law_rings", "_law_worlds", "_law_pool_here"] [] [] (spTrn c_Ring c_RingLog c_Round)) (C_law_purse : ClG CX0 P w K mg base 3 "_law_purse" s_law_purse ["_law_cell_here", "_law_salt"] [] [] spPurse) (C_law_cell : ClG CX0 P w K mg base 3 "_law_cell" s_law_cell ["_law_script", "_law_k"] [] [] (spCell K)) (C_law_move : ClG CX0 P w K mg base 17 "_law_move" s_law_move ["_law_ring_here", "_law_world_here", "_law_name_here", "_law_worth_here", "_law_tally_here"] [] [] (spMove c_Ring c_RingLog c_Round)) (C_law_worth : ClG CX0 P w K mg base 7 "_law_worth" s_law_worth ["_law_purse_here"] [] [] spWth) (C_law_world : ClG CX0 P w K mg base 3 "_law_world" s_law_world ["_law_terms_here"] [] [] spWld) (C_law_ring : ClG CX0 P w K mg base 11 "_law_ring" s_law_ring ["_law_terms_here"] [] [] (spRng c_Ring c_RingLog c_Round)) (C_law_pool : ClG CX0 P w K mg base 9 "_law_pool" s_law_pool ["_law_purse_here", "_law_many"] [] [] spPoo) (C_law_terms : ClG CX0 P w K mg base 9 "_law_terms" s_law_terms ["_law_purse_here"] [] [] spTms) : FnG P w K mg base CX0 21 f fd ["_law_script"] (spLaw K) := by
  have nd := sc_law.nd
  refine FunD.okG F sc_law (fun vs H Q E h => ?_) (fun cdv A outer s H vs Q E hgd hr h => ?_)
  · obtain ⟨s0, ns, rfl, _⟩ := h
    rfl
  · obtain ⟨s0, ns, rfl, hs, hl, hbits, k⟩ := h
    have hu := hu64 hr
    refine ⟨_, (pss_cons (ps_set (i := 1) nd rfl (Or.inl rfl) (pe_g C_law_purse (by exact hr.mono (by decide)) (E := fun _ => E0) (fun σ => passC0 σ) (fun _ _ _ _ _ _ us hl => match us, hl with | [_, _], _ => rfl) (pa_cons (pe_g C_law_cell (by exact hr.mono (by decide)) (E := fun _ => E0) (fun σ => passC0 σ) (fun _ _ _ _ _ _ us hl => match us, hl with | [_, _], _ => rfl) (pa_cons (pv 0) (pa_cons pe_int pa_nil))) (pa_cons pe_int pa_nil))))
    (pss_cons (ps_set (i := 2) nd rfl (Or.inl rfl) (pe_g C_law_terms (by exact hr.mono (by decide)) (E := fun _ => E0) (fun σ => passC0 σ) (fun _ _ _ _ _ _ us hl => match us, hl with | [_], _ => rfl) (pa_cons (pv 1) pa_nil)))
    (pss_cons (ps_set (i := 3) nd rfl (Or.inl rfl) (pe_g C_law_pool (by exact hr.mono (by decide)) (E := fun _ => E0) (fun σ => passC0 σ) (fun _ _ _ _ _ _ us hl => match us, hl with | [_, _], _ => rfl) (pa_cons (pe_g C_law_purse (by exact hr.mono (by decide)) (E := fun _ => E0) (fun σ => passC0 σ) (fun _ _ _ _ _ _ us hl => match us, hl with | [_, _], _ => rfl) (pa_cons (pe_g C_law_cell (by exact hr.mono (by decide)) (E := fun _ => E0) (fun σ => passC0 σ) (fun _ _ _ _ _ _ us hl => match us, hl with | [_, _], _ => rfl) (pa_cons (pv 0) (pa_cons pe_int pa_nil))) (pa_cons pe_int pa_nil))) (pa_cons (pe_op (opAddK (K := K) (by rfl)) (pe_op (opAddK (K := K) (by rfl)) (pe_ix (ixSeqK (K := K) (by rfl)) (pv 2) pe_int (fun _ _ => rfl)) pe_int) (pe_g C_law_take (by exact hr.mono (by decide)) (E := fun _ => E0) (fun σ => passC0 σ) (fun _ _ _ _ _ _ us hl => match us, hl with | [_, _], _ => rfl) (pa_cons (pv 1) (pa_cons pe_int pa_nil)))) pa_nil))))
    (pss_cons (ps_set (i := 4) nd rfl (Or.inl rfl) (pe_lst (pa_cons (pe_g C_law_ring (by exact hr.mono (by decide)) (E := fun _ => E0) (fun σ => passC0 σ) (fun _ _ _ _ _ _ us hl => match us, hl with | [_], _ => rfl) (pa_cons (pv 2) pa_nil)) (pa_cons (pe_g C_law_ring (by exact hr.mono (by decide)) (E := fun _ => E0) (fun σ => passC0 σ) (fun _ _ _ _ _ _ us hl => match us, hl with | [_], _ => rfl) (pa_cons (pv 2) pa_nil)) pa_nil))))
    (pss_cons (ps_set (i := 5) nd rfl (Or.inl rfl) (pe_lst (pa_cons (pe_g C_law_world (by exact hr.mono (by decide)) (E := fun _ => E0) (fun σ => passC0 σ) (fun _ _ _ _ _ _ us hl => match us, hl with | [_], _ => rfl) (pa_cons (pv 2) pa_nil)) (pa_cons (pe_g C_law_world (by exact hr.mono (by decide)) (E := fun _ => E0) (fun σ => passC0 σ) (fun _ _ _ _ _ _ us hl => match us, hl with | [_], _ => rfl) (pa_cons (pv 2) pa_nil)) pa_nil))))
    (pss_cons (ps_for PassesOwn.never rfl (pi_listK (K := K) (by rfl) (pe_slice (slAnyK (K := K) (by rfl)) (pv 3) po_none (po_some (pe_g C_law_take (by exact hr.mono (by decide)) (E := fun _ => E0) (fun σ => passC0 σ) (fun _ _ _ _ _ _ us hl => match us, hl with | [_, _], _ => rfl) (pa_cons (pv 1) (pa_cons (pe_op (opAddK (K := K) (by rfl)) (pe_ix (ixSeqK (K := K) (by rfl)) (pv 2) pe_int (fun _ _ => rfl)) pe_int) pa_nil)))))) (pg_name (i := 6) nd rfl (Or.inl rfl))
      (pss_cons (ps_set (i := 7) nd rfl (Or.inl rfl) (pe_g C_law_worth (by exact hr.mono (by decide)) (E := fun _ => E0) (fun σ => passC0 σ) (fun _ _ _ _ _ _ us hl => match us, hl with | [_], _ => rfl) (pa_cons (pv 1) pa_nil)))
    (pss_one (ps_for PassesOwn.never rfl (pi_range1 rfl T.range (pa_cons pe_int pa_nil)) (pg_name (i := 8) nd rfl (Or.inl rfl))
      (pss_one (ps_if (pt_not (pt_val (pe_g C_law_move (by exact hr.mono (by decide)) (E := fun _ => E0) (fun σ => passC0 σ) (fun _ _ _ _ _ _ us hl => match us, hl with | [_, _, _, _, _], _ => rfl) (pa_cons (pe_ix (ixSeqK (K := K) (by rfl)) (pv 4) (pv 8) (fun _ _ => rfl)) (pa_cons (pe_ix (ixSeqK (K := K) (by rfl)) (pv 5) (pv 8) (fun _ _ => rfl)) (pa_cons (pv 6) (pa_cons (pv 7) (pa_cons pe_non pa_nil))))))))
      (pss_one (ps_ret pe_bl))
      pss_nil))))))
    (pss_cons (ps_set (i := 9) nd rfl (Or.inl rfl) (pe_callB (callMax2 rfl) (by rfl) T.max (by decide +kernel) (pa_cons pe_int (pa_cons (pe_callB (callMin2 rfl) (by rfl) T.min (by decide +kernel) (pa_cons pe_int (pa_cons (pe_op opSub (pe_callB (callLenK (K := K) (by rfl)) (by rfl) T.len (by decide +kernel) (pa_cons (pv 0) pa_nil)) pe_int) pa_nil))) pa_nil))))
    (pss_cons (ps_set (i := 10) nd rfl (Or.inl rfl) (pe_callB (callMax2 rfl) (by rfl) T.max (by decide +kernel) (pa_cons pe_int (pa_cons (pe_callB (callMin2 rfl) (by rfl) T.min (by decide +kernel) (pa_cons pe_int (pa_cons (pe_op opDiv pe_int (pv 9)) pa_nil))) pa_nil))))
    (pss_cons (ps_for PassesOwn.never rfl (pi_range1 rfl T.range (pa_cons (pv 9) pa_nil)) (pg_name (i := 8) nd rfl (Or.inl rfl))
      (pss_cons (ps_set (i := 1) nd rfl (Or.inl rfl) (pe_g C_law_purse (by exact hr.mono (by decide)) (E := fun _ => E0) (fun σ => passC0 σ) (fun _ _ _ _ _ _ us hl => match us, hl with | [_, _], _ => rfl) (pa_cons (pe_g C_law_cell (by exact hr.mono (by decide)) (E := fun _ => E0) (fun σ => passC0 σ) (fun _ _ _ _ _ _ us hl => match us, hl with | [_, _], _ => rfl) (pa_cons (pv 0) (pa_cons (pe_op (opAddK (K := K) (by rfl)) pe_int (pv 8)) pa_nil))) (pa_cons (pe_op (opAddK (K := K) (by rfl)) pe_int (pv 8)) pa_nil))))
    (pss_one (ps_for PassesOwn.never rfl (pi_range1 rfl T.range (pa_cons (pe_op (opAddK (K := K) (by rfl)) pe_int (pe_g C_law_take (by exact hr.mono (by decide)) (E := fun _ => E0) (fun σ => passC0 σ) (fun _ _ _ _ _ _ us hl => match us, hl with | [_, _], _ => rfl) (pa_cons (pv 1) (pa_cons (pv 10) pa_nil)))) pa_nil)) (pg_name (i := 11) nd rfl (Or.inl rfl))
      (pss_one (ps_if (pt_not (pt_val (pe_gG C_law_turn (by exact hr.mono (by decide)) (by exact hgd) (E := fun _ => E0) (fun σ => passC0 σ) (fun _ _ _ _ _ _ us hl => match us, hl with | [_, _, _, _], _ => rfl) (pa_cons (pv 1) (pa_cons (pv 4) (pa_cons (pv 5) (pa_cons (pv 3) pa_nil)))))))
      (pss_one (ps_ret pe_bl))
      pss_nil))))))
    (pss_one (ps_ret (pe_and (pe_gG C_law_kept (by exact hr.mono (by decide)) (by exact hgd) (E := fun _ => E0) (fun σ => passC0 σ) (fun _ _ _ _ _ _ us hl => match us, hl with | [_, _, _], _ => rfl) (pa_cons (pe_ix (ixSeqK (K := K) (by rfl)) (pv 4) pe_int (fun _ _ => rfl)) (pa_cons (pe_ix (ixSeqK (K := K) (by rfl)) (pv 5) pe_int (fun _ _ => rfl)) (pa_cons (pv 3) pa_nil)))) (pe_one (pe_gG C_law_kept (by exact hr.mono (by decide)) (by exact hgd) (E := fun _ => E0) (fun σ => passC0 σ) (fun _ _ _ _ _ _ us hl => match us, hl with | [_, _, _], _ => rfl) (pa_cons (pe_ix (ixSeqK (K := K) (by rfl)) (pv 4) pe_int (fun _ _ => rfl)) (pa_cons (pe_ix (ixSeqK (K := K) (by rfl)) (pv 5) pe_int (fun _ _ => rfl)) (pa_cons (pv 3) pa_nil))))))))))))))))), ?_⟩
    try dsimp only [L2.cxOf, L2.Cx.nox]
    simp only [L2.start, N_law, List.map_cons, List.map_nil, List.length_cons, List.length_nil, Nat.reduceAdd, Nat.reduceSub, List.replicate_succ, List.replicate_zero, List.cons_append, List.nil_append]

    have hs : SqC K H s0 (ns.map V.int) := ⟨hs⟩
    walk_at "go"
    rename_i c1 H1 e1 b H2 nb e2 hB2 t c T0 H3 nt nc e3 hB3 ht3 hc3 hT hT0
    have x3 : Ex H H3 := Gx.rel
    have hs3 : SqC K H3 s0 (ns.map V.int) := Gx.sqStep (r := x3) (h := hs)
    have p1 := hT.p1
    have p2 := hT.p2
    have l1 := hT.l1
    have l2 := hT.l2
    walk_at "go"
    rename_i c2 H4 e4 b2 H5 nb2 e5 hB5 u1 H6 d10 d11 e6 hB6 pp zs H7 npp e7 hB7 hp7 hzl hzk r0 H8 nr0 e8 hR0 r1 H9 nr1 e9 hR1 rl H10 nrl e10 hrl a0 d0 k0 H11 na0 nd0 nk0 ne0 e11 ha0 hd0 hb0 a1 d1 k1 H12 na1 nd1 nk1 ne1 e12 ha1 hd1 hb1 wl H13 nwl e13 hwl u2 H14 d20 d21 e14 hB14 q H15 nq e15 hq
    have y0 : One c_Ring c_RingLog c_Round H13 r0 a0 k0 c (WS.mk T0 [] 0 0 0 0 k0 []) d0 [] 0 := ⟨rgStep (r := (Gx.rel : Ex H8 H13)) (h := (hR0 : RgC c_Ring c_RingLog c_Round H8 r0 (WS.mk T0 [] 0 0 0 0 k0 []).rs)), ⟨inferInstance, inferInstance, inferInstance⟩, (inferInstance : At H13 k0 (.dK [])), WOk.start hT rfl rfl rfl rfl rfl, BkOk.start rfl rfl, rfl⟩
    have y1 : One c_Ring c_RingLog c_Round H13 r1 a1 k1 c (WS.mk T0 [] 0 0 0 0 k1 []) d1 [] 0 := ⟨rgStep (r := (Gx.rel : Ex H9 H13)) (h := (hR1 : RgC c_Ring c_RingLog c_Round H9 r1 (WS.mk T0 [] 0 0 0 0 k1 []).rs)), ⟨inferInstance, inferInstance, inferInstance⟩, (inferInstance : At H13 k1 (.dK [])), WOk.start hT rfl rfl rfl rfl rfl, BkOk.start rfl rfl, rfl⟩
    have hap : Apart r0 a0 k0 r1 a1 k1 := ⟨(inferInstance : Gx.NeC r0 r1).ne, (inferInstance : Gx.NeC a0 a1).ne, (inferInstance : Gx.NeC k0 k1).ne, (inferInstance : Gx.NeC a0 k1).ne, (inferInstance : Gx.NeC k0 a1).ne, ne0.ne, ne1.ne⟩
    have nbc : b ≠ c := (inferInstance : Gx.NeC b c).ne
    have m1 : Gx.NeC rl b := inferInstance
    have m2 : Gx.NeC wl b := inferInstance
    have m3 : Gx.NeC pp b := inferInstance
    have o1 : Gx.NotIn rl [r0, a0, k0, r1, a1, k1] := y0.outL y1 (inferInstance : At H13 rl (.lst [.ref r0, .ref r1])).eq
    have o2 : Gx.NotIn wl [r0, a0, k0, r1, a1, k1] := y0.outL y1 (inferInstance : At H13 wl (.lst [.ref a0, .ref a1])).eq
    have o3 : Gx.NotIn pp [r0, a0, k0, r1, a1, k1] := y0.outL y1 (inferInstance : At H13 pp (.lst (zs.map V.str))).eq
    have hB13 : Bg b H13 := inferInstance
    have o4 : Gx.NotIn b [r0, a0, k0, r1, a1, k1] := by
      obtain ⟨_, _, _, g⟩ := hB13.ex
      exact y0.outL y1 g
    have y0 := (y0.bag hB13 e14 nbc).ex e15
    have y1 := (y1.bag hB13 e14 nbc).ex e15
    have hB15 : Bg b H15 := inferInstance
    obtain ⟨m, rfl⟩ : ∃ m : Nat, u2 = (m : Int) := ⟨u2.toNat, by omega⟩
    rw [Gx.cutTo] at hq
    have ws : ∀ v : Int, -(2 ^ 100) < v → v < 2 ^ 100 → WthOk (some v) := fun v a b u h => by cases h; exact ⟨a, b⟩
    have hz2 : zs.length ≤ 100 := by omega
    have hz1 : 1 ≤ zs.length := by omega
    have hrl15 : At H15 rl (.lst [.ref r0, .ref r1]) := inferInstance
    have hwl15 : At H15 wl (.lst [.ref a0, .ref a1]) := inferInstance
    have hp15 : At H15 pp (.lst (zs.map V.str)) := inferInstance
    have x15 : Ex H H15 := Gx.rel
    refine Gx.forL [b, r0, a0, k0, r1, a1, k1] (fun i σ' H' => ∃ (V0 V1 : WS) (d0 d1 : Addr) (ps0 ps1 : List Addr) (s6 s7 s8 : Option V), σ' = [some (.ref s0), some (.ref b), some (.ref t), some (.ref pp), some (.ref rl), some (.ref wl), s6, s7, s8, none, none, none] ∧ Bg b H' ∧
      One c_Ring c_RingLog c_Round H' r0 a0 k0 c V0 d0 ps0 (i : Nat) ∧ One c_Ring c_RingLog c_Round H' r1 a1 k1 c V1 d1 ps1 (i : Nat)) ⟨_, _, _, _, _, _, _, _, _, rfl, hB15, y0, y1⟩ ?_ ?_
    · rintro i v σ' H16 hv e16 ⟨V0, V1, d0, d1, ps0, ps1, s6, s7, s8, rfl, hB, y0, y1⟩
      obtain ⟨z, hz, rfl⟩ : ∃ z, z ∈ zs ∧ v = .str z := by
        obtain ⟨z, h1, h2⟩ := List.mem_map.mp (List.mem_of_getElem? hv)
        exact ⟨z, List.mem_of_mem_take h1, h2.symm⟩
      have hi : i < zs.length := by
        have := (List.getElem?_eq_some_iff.mp hv).1
        rw [List.length_map, List.length_take] at this
        omega
      have hrl16 : At H16 rl (.lst [.ref r0, .ref r1]) := inferInstance
      have hwl16 : At H16 wl (.lst [.ref a0, .ref a1]) := inferInstance
      walk_at "go"
      rename_i v H17 v0 v1 e17 hB17
      have y0 := y0.bag hB e17 nbc
      have y1 := y1.bag hB e17 nbc
      have hrl17 : At H17 rl (.lst [.ref r0, .ref r1]) := inferInstance
      have hwl17 : At H17 wl (.lst [.ref a0, .ref a1]) := inferInstance
      refine Gx.for1 [r0, a0, k0, r1, a1, k1] (fun j σ' H' => ∃ (V0 V1 : WS) (d0 d1 : Addr) (ps0 ps1 : List Addr) (s8 : Option V), σ' = [some (.ref s0), some (.ref b), some (.ref t), some (.ref pp), some (.ref rl), some (.ref wl), some (.str z), some (.int v), s8, none, none, none] ∧
        One c_Ring c_RingLog c_Round H' r0 a0 k0 c V0 d0 ps0 ((i : Nat) + (min j 1 : Nat)) ∧ One c_Ring c_RingLog c_Round H' r1 a1 k1 c V1 d1 ps1 ((i : Nat) + (j - 1 : Nat))) (by omega) ⟨V0, V1, d0, d1, ps0, ps1, _, rfl, y0.mono (by simp), y1.mono (by simp)⟩ ?_ ?_
      · rintro j σ' H18 hj e18 ⟨V0, V1, d0, d1, ps0, ps1, s8, rfl, y0, y1⟩
        have hrl18 : At H18 rl (.lst [.ref r0, .ref r1]) := inferInstance
        have hwl18 : At H18 wl (.lst [.ref a0, .ref a1]) := inferInstance
        obtain rfl | rfl : j = 0 ∨ j = 1 := by omega
        · walk_at "go"
          refine use_mvO (w := some v) (tl := none) y0 hap.n0 (by simp; omega) (hzk z hz) (ws v v0 v1) (fun j e => by cases e) fun H8 V0' d0' ps0' e8 y0' => ?_
          have y1' := y1.side y0 e8 hap.r hap.aa hap.ak hap.ka hap.kk
          walk_at "go"
          exact Gx.li ⟨V0', V1, d0', d1, ps0', ps1, _, rfl, y0'.mono (by simp), y1'.mono (by simp)⟩
        · walk_at "go"
          refine use_mvO (w := some v) (tl := none) y1 hap.n1 (by simp; omega) (hzk z hz) (ws v v0 v1) (fun j e => by cases e) fun H8 V1' d1' ps1' e8 y1' => ?_
          have y0' := y0.side y1 e8 hap.r.symm hap.aa.symm hap.ka.symm hap.ak.symm hap.kk.symm
          walk_at "go"
          exact Gx.li ⟨V0, V1', d0, d1', ps0, ps1', _, rfl, y0'.mono (by simp), y1'.mono (by simp)⟩
      · rintro σ' H18 e18 ⟨V0, V1, d0, d1, ps0, ps1, s8, rfl, y0, y1⟩
        dsimp only
        refine Gx.li ?_
        exact ⟨V0, V1, d0, d1, ps0, ps1, _, _, _, rfl, inferInstance, y0.mono (by simp), y1.mono (by simp)⟩
    · rintro σ' H16 e16 ⟨V0, V1, d0, d1, ps0, ps1, s6, s7, s8, rfl, hB, y0, y1⟩
      have hml : ((zs.take m).map V.str).length ≤ 100 := by rw [List.length_map, List.length_take]; omega
      have y0 := y0.mono (m := 100) (by omega)
      have y1 := y1.mono (m := 100) (by omega)
      have x16 : Ex H H16 := Gx.rel
      have hs16 : SqC K H16 s0 (ns.map V.int) := Gx.sqStep (r := x16) (h := hs)
      have hrl16 : At H16 rl (.lst [.ref r0, .ref r1]) := inferInstance
      have hwl16 : At H16 wl (.lst [.ref a0, .ref a1]) := inferInstance
      have hp16 : At H16 pp (.lst (zs.map V.str)) := inferInstance
      walk_at "go"
      obtain ⟨R, hRr⟩ : ∃ R : Nat, (R : Int) = (if (if (ns.length : Int) - 2 < 61 then (ns.length : Int) - 2 else 61) > 2 then (if (ns.length : Int) - 2 < 61 then (ns.length : Int) - 2 else 61) else 2) := ⟨(if (if (ns.length : Int) - 2 < 61 then (ns.length : Int) - 2 else 61) > 2 then (if (ns.length : Int) - 2 < 61 then (ns.length : Int) - 2 else 61) else 2).toNat, by split <;> (try split) <;> omega⟩
      have hR1 : R ≤ 61 := by split at hRr <;> (try split at hRr) <;> omega
      rw [← hRr]
      generalize (72 : Int) / (R : Int) = dv
      obtain ⟨S, hSs⟩ : ∃ S : Int, S = (if (if dv < 12 then dv else 12) > 1 then (if dv < 12 then dv else 12) else 1) := ⟨_, rfl⟩
      have hS1 : 1 ≤ S ∧ S ≤ 12 := by split at hSs <;> (try split at hSs) <;> omega
      rw [← hSs]
      clear hSs hRr
      refine Gx.for1 [r0, a0, k0, r1, a1, k1] (fun i σ' H' => ∃ (V0 V1 : WS) (d0 d1 bb : Addr) (ps0 ps1 : List Addr) (s8 s11 : Option V), σ' = [some (.ref s0), some (.ref bb), some (.ref t), some (.ref pp), some (.ref rl), some (.ref wl), s6, s7, s8, some (.int (R : Nat)), some (.int S), s11] ∧
        One c_Ring c_RingLog c_Round H' r0 a0 k0 c V0 d0 ps0 (100 + 12 * (i : Int)) ∧ One c_Ring c_RingLog c_Round H' r1 a1 k1 c V1 d1 ps1 (100 + 12 * (i : Int))) (by omega) ⟨V0, V1, d0, d1, b, ps0, ps1, _, _, rfl, y0.mono (by omega), y1.mono (by omega)⟩ ?_ ?_
      · rintro i σ' H17 hi e17 ⟨V0, V1, d0, d1, bb, ps0, ps1, s8, s11, rfl, y0, y1⟩
        have x17 : Ex H H17 := Gx.rel
        have hs17 : SqC K H17 s0 (ns.map V.int) := Gx.sqStep (r := x17) (h := hs)
        have hrl17 : At H17 rl (.lst [.ref r0, .ref r1]) := inferInstance
        have hwl17 : At H17 wl (.lst [.ref a0, .ref a1]) := inferInstance
        have hp17 : At H17 pp (.lst (zs.map V.str)) := inferInstance
        have hcy : At H17 c _ := y0.A.cyc
        walk_at "go"
        rename_i c5 H18 e18 b5 H19 nb5 e19 hB19 u5 H20 d50 d51 e20 hB20
        have n1 : Gx.NeC b5 c := inferInstance
        have n2 : Gx.NeC pp b5 := inferInstance
        have n3 : Gx.NeC rl b5 := inferInstance
        have n4 : Gx.NeC wl b5 := inferInstance
        have x19 : Ex H17 H19 := Gx.rel
        have y0 := (y0.ex x19).bag hB19 e20 n1.ne
        have y1 := (y1.ex x19).bag hB19 e20 n1.ne
        have hrl20 : At H20 rl (.lst [.ref r0, .ref r1]) := inferInstance
        have hwl20 : At H20 wl (.lst [.ref a0, .ref a1]) := inferInstance
        have hp20 : At H20 pp (.lst (zs.map V.str)) := inferInstance
        refine Gx.for1 [b5, r0, a0, k0, r1, a1, k1] (fun j σ' H' => ∃ (V0 V1 : WS) (d0 d1 : Addr) (ps0 ps1 : List Addr) (s11 : Option V), σ' = [some (.ref s0), some (.ref b5), some (.ref t), some (.ref pp), some (.ref rl), some (.ref wl), s6, s7, some (.int (i : Nat)), some (.int (R : Nat)), some (.int S), s11] ∧ Bg b5 H' ∧
          One c_Ring c_RingLog c_Round H' r0 a0 k0 c V0 d0 ps0 (100 + 12 * (i : Int) + (j : Int)) ∧ One c_Ring c_RingLog c_Round H' r1 a1 k1 c V1 d1 ps1 (100 + 12 * (i : Int) + (j : Int))) (by omega) ⟨V0, V1, d0, d1, ps0, ps1, _, rfl, hB20, y0.mono (by omega), y1.mono (by omega)⟩ ?_ ?_
        · rintro j σ' H21 hj e21 ⟨V0, V1, d0, d1, ps0, ps1, s11, rfl, hB, y0, y1⟩
          have hrl21 : At H21 rl (.lst [.ref r0, .ref r1]) := inferInstance
          have hwl21 : At H21 wl (.lst [.ref a0, .ref a1]) := inferInstance
          have hp21 : At H21 pp (.lst (zs.map V.str)) := inferInstance
          walk_at "go"
          refine ⟨b5, rl, wl, pp, c, r0, a0, k0, r1, a1, k1, V0, V1, d0, d1, ps0, ps1, zs, 100 + 12 * (i : Int) + (j : Int), rfl, ⟨hB, hrl21, hwl21, hp21, y0, y1, hap, n1.ne, n2.ne, by omega, by omega, hz1, hz2, hzk⟩, fun H22 V0' V1' d0' d1' ps0' ps1' e22 hB22 y0' y1' => ?_⟩
          walk_at "go"
          exact Gx.li ⟨V0', V1', d0', d1', ps0', ps1', _, rfl, hB22, y0'.mono (by omega), y1'.mono (by omega)⟩
        · rintro σ' H21 e21 ⟨V0, V1, d0, d1, ps0, ps1, s11, rfl, hB, y0, y1⟩
          dsimp only
          refine Gx.li ?_
          exact ⟨V0, V1, d0, d1, b5, ps0, ps1, _, _, rfl, y0.mono (by omega), y1.mono (by omega)⟩
      · rintro σ' H17 e17 ⟨V0, V1, d0, d1, bb, ps0, ps1, s8, s11, rfl, y0, y1⟩
        have hrl17 : At H17 rl (.lst [.ref r0, .ref r1]) := inferInstance
        have hwl17 : At H17 wl (.lst [.ref a0, .ref a1]) := inferInstance
        have hp17 : At H17 pp (.lst (zs.map V.str)) := inferInstance
        walk_at "go"
        refine use_kpO y0 hp17 hzk (by omega) fun H18 e18 => ?_
        have hrl18 : At H18 rl (.lst [.ref r0, .ref r1]) := inferInstance
        have hwl18 : At H18 wl (.lst [.ref a0, .ref a1]) := inferInstance
        have hp18 : At H18 pp (.lst (zs.map V.str)) := inferInstance
        have y1 := y1.ex e18
        walk_at "go"
        refine use_kpO y1 hp18 hzk (by omega) fun H19 e19 => ?_
        walk_at "go"
        exact k _

end
theorem all_mk {l : PySem.W.OpenLaw} {w : World} {K : PySem.W.Frag} {h : Heap} {mg : Str → Option Value} {fa : Addr} {c_StoreError c_InvalidInput c_KeyLimit c_UnknownKey c_BadChoice c_Stalled : Addr} {c_Round : Addr} {c_RingLog : Addr} {c_Ring : Addr} (X : K.In h) (G : h.Ns mainGlobals mg) (hfa : mg "law" = some (.ref fa)) (T : Bl mg) (Z : EcF l.prog K mg c_StoreError c_InvalidInput c_KeyLimit c_UnknownKey c_BadChoice c_Stalled) (R : RdF K mg c_Round) (W_RingLog : Gx.ClsF K mg c_RingLog "RingLog" ["entries"]) (W_Ring : Gx.ClsF K mg c_Ring "Ring" ["_places", "_limit", "_budgets", "_late", "_readers", "_log", "_done", "_phase", "_carried", "_last_wait", "_opened", "_open"]) (N_KEY : Gx.GlI mg "KEY" 0) (N_VALUE : Gx.GlI mg "VALUE" 1) (N_LIVING : Gx.GlI mg "LIVING" 2) (N_READERS : Gx.GlI mg "READERS" 3) (N_KEY_LENGTH : Gx.GlI mg "KEY_LENGTH" 12) (N_KEY_CHARACTERS : Gx.GlS mg "KEY_CHARACTERS" "abcdefghijklmnopqrstuvwxyz0123456789") (D_at_least : DfG K mg "at_least" s_at_least [] []) (D_whole_number : DfG K mg "whole_number" s_whole_number [] []) (D_Round___init__ : DfI K c_Round "Round.__init__" s_Round___init__) (D_Round__window : DfM K c_Round "_window" "Round._window" s_Round__window [] []) (D_Round_total : DfM K c_Round "total" "Round.total" s_Round_total [] []) (D_Round__windows : DfM K c_Round "_windows" "Round._windows" s_Round__windows [] []) (D_Round_least : DfM K c_Round "least" "Round.least" s_Round_least [] []) (D_Round_at : DfM K c_Round "at" "Round.at" s_Round_at [] []) (D_Round_budgets : DfP K c_Round "budgets" "Round.budgets" s_Round_budgets) (D_Round___add__ : DfM K c_Round "__add__" "Round.__add__" s_Round___add__ [] []) (D_is_needed : DfG K mg "is_needed" s_is_needed [] []) (D_RingLog_trim : DfM K c_RingLog "trim" "RingLog.trim" s_RingLog_trim [] []) (D_RingLog_find_living : DfM K c_RingLog "find_living" "RingLog.find_living" s_RingLog_find_living [] []) (D_RingLog_needed_count : DfM K c_RingLog "needed_count" "RingLog.needed_count" s_RingLog_needed_count [] []) (D_RingLog_carry_tail : DfM K c_RingLog "carry_tail" "RingLog.carry_tail" s_RingLog_carry_tail [] []) (D_RingLog_append_entry : DfM K c_RingLog "append_entry" "RingLog.append_entry" s_RingLog_append_entry [] []) (D_RingLog_release_at : DfM K c_RingLog "release_at" "RingLog.release_at" s_RingLog_release_at [] []) (D_RingLog___init__ : Gx.DfC K c_RingLog "RingLog.__init__" s_RingLog___init__ [] []) (D_RingLog_copied : DfM K c_RingLog "copied" "RingLog.copied" s_RingLog_copied [] []) (D_Ring_places : DfP K c_Ring "places" "Ring.places" s_Ring_places) (D_Ring_limit : DfP K c_Ring "limit" "Ring.limit" s_Ring_limit) (D_Ring_readers : DfP K c_Ring "readers" "Ring.readers" s_Ring_readers) (D_Ring_done : DfP K c_Ring "done" "Ring.done" s_Ring_done) (D_Ring_late : DfP K c_Ring "late" "Ring.late" s_Ring_late) (D_Ring_budgets : DfP K c_Ring "budgets" "Ring.budgets" s_Ring_budgets) (D_Ring_free : DfP K c_Ring "free" "Ring.free" s_Ring_free) (D_Ring___len__ : DfM K c_Ring "__len__" "Ring.__len__" s_Ring___len__ [] []) (D_Ring___contains__ : DfM K c_Ring "__contains__" "Ring.__contains__" s_Ring___contains__ [] []) (D_Ring_log : DfM K c_Ring "log" "Ring.log" s_Ring_log [] []) (D_Ring__append_to : DfM K c_Ring "_append_to" "Ring._append_to" s_Ring__append_to [] []) (D_Ring__carry_in : DfM K c_Ring "_carry_in" "Ring._carry_in" s_Ring__carry_in [] []) (D_Round___len__ : DfM K c_Round "__len__" "Round.__len__" s_Round___len__ [] []) (D_Ring__complete : DfM K c_Ring "_complete" "Ring._complete" s_Ring__complete [] []) (D_good_key : DfG K mg "good_key" s_good_key [] []) (D_Ring_put : DfM K c_Ring "put" "Ring.put" s_Ring_put [.non] []) (D_Ring_delete : DfM K c_Ring "delete" "Ring.delete" s_Ring_delete [.non] []) (D_at_most : DfG K mg "at_most" s_at_most [] []) (D_Ring___init__ : Gx.DfC K c_Ring "Ring.__init__" s_Ring___init__ [] [("late", .bl false), ("readers", .int 0)]) (D_law_cell : DfG K mg "_law_cell" s_law_cell [] []) (D_law_purse : DfG K mg "_law_purse" s_law_purse [] []) (D_law_mixed : DfG K mg "_law_mixed" s_law_mixed [] []) (D_law_take : DfG K mg "_law_take" s_law_take [] []) (D_law_cycle : DfG K mg "_law_cycle" s_law_cycle [] []) (D_law_round : DfG K mg "_law_round" s_law_round [] []) (D_law_worth : DfG K mg "_law_worth" s_law_worth [] []) (D_law_tally : DfG K mg "_law_tally" s_law_tally [] []) (D_law_terms : DfG K mg "_law_terms" s_law_terms [] []) (D_law_ring : DfG K mg "_law_ring" s_law_ring [] []) (D_law_name : DfG K mg "_law_name" s_law_name [] []) (D_law_pool : DfG K mg "_law_pool" s_law_pool [] []) (D_law_trimmed : DfG K mg "_law_trimmed" s_law_trimmed [] []) (D_law_moved : DfG K mg "_law_moved" s_law_moved [] []) (D_law_world : DfG K mg "_law_world" s_law_world [] []) (D_law_ahead : DfG K mg "_law_ahead" s_law_ahead [] []) (D_law_due : DfG K mg "_law_due" s_law_due [] []) (D_law_pick : DfG K mg "_law_pick" s_law_pick [] []) (D_law_deed : DfG K mg "_law_deed" s_law_deed [] []) (D_Ring_table : DfM K c_Ring "table" "Ring.table" s_Ring_table [] []) (D_Ring_read : DfM K c_Ring "read" "Ring.read" s_Ring_read [] []) (D_Ring_age : DfM K c_Ring "age" "Ring.age" s_Ring_age [] []) (D_Ring_scan : DfM K c_Ring "scan" "Ring.scan" s_Ring_scan [] []) (D_law_move : DfG K mg "_law_move" s_law_move [] []) (D_law_read : DfG K mg "_law_read" s_law_read [] []) (D_law_age : DfG K mg "_law_age" s_law_age [] []) (D_law_depth : DfG K mg "_law_depth" s_law_depth [] []) (D_law_kept : DfG K mg "_law_kept" s_law_kept [] []) (D_law_turn : DfG K mg "_law_turn" s_law_turn [] []) (D_law : DfG K mg "law" s_law [] []) :
    ∃ fd : FuncData, (∀ (s : Shared) (u : Value), BindsTo s fd ⟨[u], []⟩ [("_law_script", u)]) ∧ ∀ base : Heap, K.In base → base.Ns mainGlobals mg → FnG l.prog w K mg base CX0 21 fa fd ["_law_script"] (spLaw K) := by
  obtain ⟨f, fd, h1, F⟩ := D_law.ex
  have e := hfa.symm.trans h1
  cases e
  refine ⟨fd, fun s u => F.bindsA (ps := ["_law_script"]) (fun _ _ _ _ _ _ us hl => match us, hl with | [_], _ => rfl) s [u] rfl, fun base _ _ => ?_⟩
  have C_at_least : ClG CX0 l.prog w K mg base 3 "at_least" s_at_least ["value", "least", "field"] [] [] spAtl := cl_at_least T R D_at_least 
  have C_whole_number : ClG CX0 l.prog w K mg base 3 "whole_number" s_whole_number ["value", "field"] [] [] spWhole := cl_whole_number T R D_whole_number 
  have C_Round___init__ : ClI CX0 l.prog w K mg base 5 c_Round := cl_Round___init__ T R D_Round___init__ C_at_least C_whole_number
  have C_Round__window : ClM CX0 l.prog w K mg base 3 c_Round "_window" "Round._window" s_Round__window ["self", "start", "count"] [] [] (spWin c_Round) := cl_Round__window T R D_Round__window 
  have C_Round_total : ClM CX0 l.prog w K mg base 5 c_Round "total" "Round.total" s_Round_total ["self", "start", "count"] [] [] (spWin c_Round) := cl_Round_total T R D_Round_total C_Round__window C_at_least
  have C_Round__windows : ClM CX0 l.prog w K mg base 5 c_Round "_windows" "Round._windows" s_Round__windows ["self", "count"] [] [] (spWins c_Round) := cl_Round__windows T R D_Round__windows C_Round__window
  have C_Round_least : ClM CX0 l.prog w K mg base 7 c_Round "least" "Round.least" s_Round_least ["self", "count"] [] [] (spLst c_Round) := cl_Round_least T R D_Round_least C_Round__windows C_at_least
  have C_Round_at : ClM CX0 l.prog w K mg base 5 c_Round "at" "Round.at" s_Round_at ["self", "t"] [] [] (spAt c_Round) := cl_Round_at T R D_Round_at C_at_least
  have C_Round_budgets : ClP CX0 l.prog w K mg base 3 c_Round "budgets" "Round.budgets" s_Round_budgets (spBud c_Round) := cl_Round_budgets T R D_Round_budgets 
  have C_Round___add__ : ClM CX0 l.prog w K mg base 7 c_Round "__add__" "Round.__add__" s_Round___add__ ["self", "other"] [] [] (spRadd c_Round) := cl_Round___add__ T R D_Round___add__ C_Round___init__
  have C_is_needed : ClG CX0 l.prog w K mg base 3 "is_needed" s_is_needed ["entry"] [] [] spNdd := cl_is_needed T R W_RingLog W_Ring N_KEY N_VALUE N_LIVING N_READERS D_is_needed 
  have C_RingLog_trim : ClM CX0 l.prog w K mg base 5 c_RingLog "trim" "RingLog.trim" s_RingLog_trim ["self"] [] [] (spTrm c_RingLog) := cl_RingLog_trim T R W_RingLog W_Ring N_KEY N_VALUE N_LIVING N_READERS D_RingLog_trim C_is_needed
  have C_RingLog_find_living : ClM CX0 l.prog w K mg base 3 c_RingLog "find_living" "RingLog.find_living" s_RingLog_find_living ["self", "key"] [] [] (spFnl c_RingLog) := cl_RingLog_find_living T R W_RingLog W_Ring N_KEY N_VALUE N_LIVING N_READERS D_RingLog_find_living 
  have C_RingLog_needed_count : ClM CX0 l.prog w K mg base 5 c_RingLog "needed_count" "RingLog.needed_count" s_RingLog_needed_count ["self"] [] [] (spNdc c_RingLog) := cl_RingLog_needed_count T R W_RingLog W_Ring N_KEY N_VALUE N_LIVING N_READERS D_RingLog_needed_count C_is_needed
  have C_RingLog_carry_tail : ClM CX0 l.prog w K mg base 7 c_RingLog "carry_tail" "RingLog.carry_tail" s_RingLog_carry_tail ["self"] [] [] (spCar c_RingLog) := cl_RingLog_carry_tail T R W_RingLog W_Ring N_KEY N_VALUE N_LIVING N_READERS D_RingLog_carry_tail C_RingLog_trim
  have C_RingLog_append_entry : ClM CX0 l.prog w K mg base 7 c_RingLog "append_entry" "RingLog.append_entry" s_RingLog_append_entry ["self", "key", "value", "is_living"] [] [] (spApn c_RingLog) := cl_RingLog_append_entry T R W_RingLog W_Ring N_KEY N_VALUE N_LIVING N_READERS D_RingLog_append_entry C_RingLog_trim
  have C_RingLog_release_at : ClM CX0 l.prog w K mg base 7 c_RingLog "release_at" "RingLog.release_at" s_RingLog_release_at ["self", "index"] [] [] (spRls c_RingLog) := cl_RingLog_release_at T R W_RingLog W_Ring N_KEY N_VALUE N_LIVING N_READERS D_RingLog_release_at C_RingLog_trim
  have C_RingLog___init__ : Gx.ClC CX0 l.prog w K mg base 3 c_RingLog "RingLog.__init__" s_RingLog___init__ ["self"] [] [] (spRl0 c_RingLog) := cl_RingLog___init__ T R W_RingLog W_Ring N_KEY N_VALUE N_LIVING N_READERS D_RingLog___init__ 
  have C_RingLog_copied : ClM CX0 l.prog w K mg base 5 c_RingLog "copied" "RingLog.copied" s_RingLog_copied ["self"] [] [] (spCpy c_RingLog) := cl_RingLog_copied T R W_RingLog W_Ring N_KEY N_VALUE N_LIVING N_READERS D_RingLog_copied C_RingLog___init__
  have C_Ring_places : ClP CX0 l.prog w K mg base 3 c_Ring "places" "Ring.places" s_Ring_places (spRgI c_Ring c_RingLog c_Round RS.p) := cl_Ring_places T R W_RingLog W_Ring N_KEY N_VALUE N_LIVING N_READERS D_Ring_places 
  have C_Ring_limit : ClP CX0 l.prog w K mg base 3 c_Ring "limit" "Ring.limit" s_Ring_limit (spRgI c_Ring c_RingLog c_Round RS.lim) := cl_Ring_limit T R W_RingLog W_Ring N_KEY N_VALUE N_LIVING N_READERS D_Ring_limit 
  have C_Ring_readers : ClP CX0 l.prog w K mg base 3 c_Ring "readers" "Ring.readers" s_Ring_readers (spRgI c_Ring c_RingLog c_Round RS.rd) := cl_Ring_readers T R W_RingLog W_Ring N_KEY N_VALUE N_LIVING N_READERS D_Ring_readers 
  have C_Ring_done : ClP CX0 l.prog w K mg base 3 c_Ring "done" "Ring.done" s_Ring_done (spRgI c_Ring c_RingLog c_Round RS.dn) := cl_Ring_done T R W_RingLog W_Ring N_KEY N_VALUE N_LIVING N_READERS D_Ring_done 
  have C_Ring_late : ClP CX0 l.prog w K mg base 3 c_Ring "late" "Ring.late" s_Ring_late (spRgL c_Ring c_RingLog c_Round) := cl_Ring_late T R W_RingLog W_Ring N_KEY N_VALUE N_LIVING N_READERS D_Ring_late 
  have C_Ring_budgets : ClP CX0 l.prog w K mg base 3 c_Ring "budgets" "Ring.budgets" s_Ring_budgets (spRgB c_Ring c_RingLog c_Round) := cl_Ring_budgets T R W_RingLog W_Ring N_KEY N_VALUE N_LIVING N_READERS D_Ring_budgets 
  have C_Ring_free : ClP CX0 l.prog w K mg base 3 c_Ring "free" "Ring.free" s_Ring_free (spRgF c_Ring c_RingLog c_Round) := cl_Ring_free T R W_RingLog W_Ring N_KEY N_VALUE N_LIVING N_READERS D_Ring_free 
  have C_Ring___len__ : ClM CX0 l.prog w K mg base 3 c_Ring "__len__" "Ring.__len__" s_Ring___len__ ["self"] [] [] (spRgN c_Ring c_RingLog c_Round) := cl_Ring___len__ T R W_RingLog W_Ring N_KEY N_VALUE N_LIVING N_READERS D_Ring___len__ 
  have C_Ring___contains__ : ClM CX0 l.prog w K mg base 5 c_Ring "__contains__" "Ring.__contains__" s_Ring___contains__ ["self", "key"] [] [] (spRgC c_Ring c_RingLog c_Round) := cl_Ring___contains__ T R W_RingLog W_Ring N_KEY N_VALUE N_LIVING N_READERS D_Ring___contains__ C_RingLog_find_living
  have C_Ring_log : ClM CX0 l.prog w K mg base 5 c_Ring "log" "Ring.log" s_Ring_log ["self"] [] [] (spRgG c_Ring c_RingLog c_Round) := cl_Ring_log T R W_RingLog W_Ring N_KEY N_VALUE N_LIVING N_READERS D_Ring_log C_is_needed
  have C_Ring__append_to : ClM (L2.CX l.prog w) l.prog w K mg base 9 c_Ring "_append_to" "Ring._append_to" s_Ring__append_to ["self", "draft", "key", "value", "is_living"] [] [] (spApt c_Ring c_RingLog c_Round c_Stalled) := cl_Ring__append_to T Z R W_RingLog W_Ring N_KEY N_VALUE N_LIVING N_READERS D_Ring__append_to C_RingLog_append_entry
  have C_Ring__carry_in : ClM (L2.CX l.prog w) l.prog w K mg base 9 c_Ring "_carry_in" "Ring._carry_in" s_Ring__carry_in ["self", "draft", "count", "others"] [] [] (spCry c_Ring c_RingLog c_Round c_BadChoice) := cl_Ring__carry_in T Z R W_RingLog W_Ring N_KEY N_VALUE N_LIVING N_READERS D_Ring__carry_in C_RingLog_carry_tail C_Round_at
  have C_Round___len__ : ClM CX0 l.prog w K mg base 3 c_Round "__len__" "Round.__len__" s_Round___len__ ["self"] [] [] (Gx.spLen c_Round) := cl_Round___len__ T Z R W_RingLog W_Ring N_KEY N_VALUE N_LIVING N_READERS D_Round___len__ 
  have C_Ring__complete : ClM (L2.CX l.prog w) l.prog w K mg base 11 c_Ring "_complete" "Ring._complete" s_Ring__complete ["self", "key", "value", "is_living", "count"] [] [] (spCpl c_Ring c_RingLog c_Round c_Stalled c_BadChoice) := cl_Ring__complete T Z R W_RingLog W_Ring N_KEY N_VALUE N_LIVING N_READERS D_Ring__complete C_Round___len__ C_Ring__append_to C_Ring__carry_in C_RingLog_needed_count C_RingLog_release_at C_RingLog_find_living C_RingLog_copied
  have C_good_key : ClG CX0 l.prog w K mg base 3 "good_key" s_good_key ["key"] [] [] spGky := cl_good_key T Z R W_RingLog W_Ring N_KEY N_VALUE N_LIVING N_READERS N_KEY_LENGTH N_KEY_CHARACTERS D_good_key 
  have C_Ring_put : ClM (L2.CX l.prog w) l.prog w K mg base 13 c_Ring "put" "Ring.put" s_Ring_put ["self", "key", "value", "count"] [.non] [] (spPut c_Ring c_RingLog c_Round c_Stalled c_BadChoice c_KeyLimit) := cl_Ring_put T Z R W_RingLog W_Ring N_KEY N_VALUE N_LIVING N_READERS N_KEY_LENGTH N_KEY_CHARACTERS D_Ring_put C_Ring__complete C_Ring___len__ C_Ring___contains__ C_good_key
  have C_Ring_delete : ClM (L2.CX l.prog w) l.prog w K mg base 13 c_Ring "delete" "Ring.delete" s_Ring_delete ["self", "key", "count"] [.non] [] (spDel c_Ring c_RingLog c_Round c_Stalled c_BadChoice c_UnknownKey) := cl_Ring_delete T Z R W_RingLog W_Ring N_KEY N_VALUE N_LIVING N_READERS N_KEY_LENGTH N_KEY_CHARACTERS D_Ring_delete C_Ring__complete C_Ring___contains__
  have C_at_most : ClG CX0 l.prog w K mg base 3 "at_most" s_at_most ["value", "most", "field"] [] [] spAtm := cl_at_most T Z R W_RingLog W_Ring N_KEY N_VALUE N_LIVING N_READERS N_KEY_LENGTH N_KEY_CHARACTERS D_at_most 
  have C_Ring___init__ : Gx.ClC CX0 l.prog w K mg base 5 c_Ring "Ring.__init__" s_Ring___init__ ["self", "places", "limit", "budgets", "late", "readers"] [] [("late", .bl false), ("readers", .int 0)] (spRin c_Ring c_RingLog c_Round) := cl_Ring___init__ T Z R W_RingLog W_Ring N_KEY N_VALUE N_LIVING N_READERS N_KEY_LENGTH N_KEY_CHARACTERS D_Ring___init__ C_RingLog___init__ C_at_most C_at_least
  have C_law_cell : ClG CX0 l.prog w K mg base 3 "_law_cell" s_law_cell ["_law_script", "_law_k"] [] [] (spCell K) := cl_law_cell T Z R W_RingLog W_Ring N_KEY N_VALUE N_LIVING N_READERS N_KEY_LENGTH N_KEY_CHARACTERS D_law_cell 
  have C_law_purse : ClG CX0 l.prog w K mg base 3 "_law_purse" s_law_purse ["_law_cell_here", "_law_salt"] [] [] spPurse := cl_law_purse T Z R W_RingLog W_Ring N_KEY N_VALUE N_LIVING N_READERS N_KEY_LENGTH N_KEY_CHARACTERS D_law_purse 
  have C_law_mixed : ClG CX0 l.prog w K mg base 3 "_law_mixed" s_law_mixed ["_law_purse_here"] [] [] spMixed := cl_law_mixed T Z R W_RingLog W_Ring N_KEY N_VALUE N_LIVING N_READERS N_KEY_LENGTH N_KEY_CHARACTERS D_law_mixed 
  have C_law_take : ClG CX0 l.prog w K mg base 5 "_law_take" s_law_take ["_law_purse_here", "_law_many"] [] [] spTake := cl_law_take T Z R W_RingLog W_Ring N_KEY N_VALUE N_LIVING N_READERS N_KEY_LENGTH N_KEY_CHARACTERS D_law_take C_law_mixed
  have C_law_cycle : ClG CX0 l.prog w K mg base 7 "_law_cycle" s_law_cycle ["_law_purse_here"] [] [] spCyc := cl_law_cycle T Z R W_RingLog W_Ring N_KEY N_VALUE N_LIVING N_READERS N_KEY_LENGTH N_KEY_CHARACTERS D_law_cycle C_law_take
  have C_law_round : ClG CX0 l.prog w K mg base 9 "_law_round" s_law_round ["_law_cycle_here"] [] [] (spLRd c_Round K) := cl_law_round T Z R W_RingLog W_Ring N_KEY N_VALUE N_LIVING N_READERS N_KEY_LENGTH N_KEY_CHARACTERS D_law_round C_Round___add__ C_Round___init__
  have C_law_worth : ClG CX0 l.prog w K mg base 7 "_law_worth" s_law_worth ["_law_purse_here"] [] [] spWth := cl_law_worth T Z R W_RingLog W_Ring N_KEY N_VALUE N_LIVING N_READERS N_KEY_LENGTH N_KEY_CHARACTERS D_law_worth C_law_take
  have C_law_tally : ClG CX0 l.prog w K mg base 7 "_law_tally" s_law_tally ["_law_purse_here"] [] [] spTly := cl_law_tally T Z R W_RingLog W_Ring N_KEY N_VALUE N_LIVING N_READERS N_KEY_LENGTH N_KEY_CHARACTERS D_law_tally C_law_take
  have C_law_terms : ClG CX0 l.prog w K mg base 9 "_law_terms" s_law_terms ["_law_purse_here"] [] [] spTms := cl_law_terms T Z R W_RingLog W_Ring N_KEY N_VALUE N_LIVING N_READERS N_KEY_LENGTH N_KEY_CHARACTERS D_law_terms C_law_take C_law_cycle
  have C_law_ring : ClG CX0 l.prog w K mg base 11 "_law_ring" s_law_ring ["_law_terms_here"] [] [] (spRng c_Ring c_RingLog c_Round) := cl_law_ring T Z R W_RingLog W_Ring N_KEY N_VALUE N_LIVING N_READERS N_KEY_LENGTH N_KEY_CHARACTERS D_law_ring C_Ring___init__ C_law_round
  have C_law_name : ClG CX0 l.prog w K mg base 7 "_law_name" s_law_name ["_law_purse_here", "_law_pool_here"] [] [] spNam := cl_law_name T Z R W_RingLog W_Ring N_KEY N_VALUE N_LIVING N_READERS N_KEY_LENGTH N_KEY_CHARACTERS D_law_name C_law_take
  have C_law_pool : ClG CX0 l.prog w K mg base 9 "_law_pool" s_law_pool ["_law_purse_here", "_law_many"] [] [] spPoo := cl_law_pool T Z R W_RingLog W_Ring N_KEY N_VALUE N_LIVING N_READERS N_KEY_LENGTH N_KEY_CHARACTERS D_law_pool C_law_name
  have C_law_trimmed : ClG CX0 l.prog w K mg base 3 "_law_trimmed" s_law_trimmed ["_law_chain"] [] [] spTmd := cl_law_trimmed T Z R W_RingLog W_Ring N_KEY N_VALUE N_LIVING N_READERS N_KEY_LENGTH N_KEY_CHARACTERS D_law_trimmed 
  have C_law_moved : ClG CX0 l.prog w K mg base 5 "_law_moved" s_law_moved ["_law_chain", "_law_span", "_law_tally_here"] [] [] spMvd := cl_law_moved T Z R W_RingLog W_Ring N_KEY N_VALUE N_LIVING N_READERS N_KEY_LENGTH N_KEY_CHARACTERS D_law_moved C_law_trimmed
  have C_law_world : ClG CX0 l.prog w K mg base 3 "_law_world" s_law_world ["_law_terms_here"] [] [] spWld := cl_law_world T Z R W_RingLog W_Ring N_KEY N_VALUE N_LIVING N_READERS N_KEY_LENGTH N_KEY_CHARACTERS D_law_world 
  have C_law_ahead : ClG CX0 l.prog w K mg base 5 "_law_ahead" s_law_ahead ["_law_world_here", "_law_name_here", "_law_worth_here"] [] [] spAhd := cl_law_ahead T Z R W_RingLog W_Ring N_KEY N_VALUE N_LIVING N_READERS N_KEY_LENGTH N_KEY_CHARACTERS D_law_ahead C_law_trimmed
  have C_law_due : ClG CX0 l.prog w K mg base 7 "_law_due" s_law_due ["_law_world_here", "_law_name_here", "_law_worth_here", "_law_tally_here"] [] [] spDue := cl_law_due T Z R W_RingLog W_Ring N_KEY N_VALUE N_LIVING N_READERS N_KEY_LENGTH N_KEY_CHARACTERS D_law_due C_law_trimmed C_law_moved C_law_ahead
  have C_law_pick : ClG CX0 l.prog w K mg base 9 "_law_pick" s_law_pick ["_law_purse_here", "_law_chain", "_law_pool_here"] [] [] spPck := cl_law_pick T Z R W_RingLog W_Ring N_KEY N_VALUE N_LIVING N_READERS N_KEY_LENGTH N_KEY_CHARACTERS D_law_pick C_law_worth C_law_take
  have C_law_deed : ClG CX0 l.prog w K mg base 15 "_law_deed" s_law_deed ["_law_ring_here", "_law_name_here", "_law_worth_here", "_law_tally_here"] [] [] (spDed c_Ring c_RingLog c_Round) := cl_law_deed T Z R W_RingLog W_Ring N_KEY N_VALUE N_LIVING N_READERS N_KEY_LENGTH N_KEY_CHARACTERS D_law_deed C_Ring_delete C_Ring_put
  have C_Ring_table : ClM CX0 l.prog w K mg base 3 c_Ring "table" "Ring.table" s_Ring_table ["self"] [] [] (spTab c_Ring c_RingLog c_Round) := cl_Ring_table T Z R W_RingLog W_Ring N_KEY N_VALUE N_LIVING N_READERS N_KEY_LENGTH N_KEY_CHARACTERS D_Ring_table 
  have C_Ring_read : ClM (L2.CX l.prog w) l.prog w K mg base 5 c_Ring "read" "Ring.read" s_Ring_read ["self", "key"] [] [] (spRea c_Ring c_RingLog c_Round c_UnknownKey) := cl_Ring_read T Z R W_RingLog W_Ring N_KEY N_VALUE N_LIVING N_READERS N_KEY_LENGTH N_KEY_CHARACTERS D_Ring_read C_RingLog_find_living
  have C_Ring_age : ClM (L2.CX l.prog w) l.prog w K mg base 5 c_Ring "age" "Ring.age" s_Ring_age ["self", "key"] [] [] (spAge c_Ring c_RingLog c_Round c_UnknownKey) := cl_Ring_age T Z R W_RingLog W_Ring N_KEY N_VALUE N_LIVING N_READERS N_KEY_LENGTH N_KEY_CHARACTERS D_Ring_age C_RingLog_find_living
  have C_Ring_scan : Gx.ClMY l.prog w K mg base 5 c_Ring "scan" "Ring.scan" s_Ring_scan ["self"] (spScn c_Ring c_RingLog c_Round) := cl_Ring_scan T Z R W_RingLog W_Ring N_KEY N_VALUE N_LIVING N_READERS N_KEY_LENGTH N_KEY_CHARACTERS D_Ring_scan C_Ring_table
  have C_law_move : ClG CX0 l.prog w K mg base 17 "_law_move" s_law_move ["_law_ring_here", "_law_world_here", "_law_name_here", "_law_worth_here", "_law_tally_here"] [] [] (spMove c_Ring c_RingLog c_Round) := cl_law_move T Z R W_RingLog W_Ring N_KEY N_VALUE N_LIVING N_READERS N_KEY_LENGTH N_KEY_CHARACTERS D_law_move C_law_deed C_law_due
  have C_law_read : ClG CX0 l.prog w K mg base 7 "_law_read" s_law_read ["_law_ring_here", "_law_name_here"] [] [] (spRd c_Ring c_RingLog c_Round) := cl_law_read T Z R W_RingLog W_Ring N_KEY N_VALUE N_LIVING N_READERS N_KEY_LENGTH N_KEY_CHARACTERS D_law_read C_Ring_read
  have C_law_age : ClG CX0 l.prog w K mg base 7 "_law_age" s_law_age ["_law_ring_here", "_law_name_here"] [] [] (spAg c_Ring c_RingLog c_Round) := cl_law_age T Z R W_RingLog W_Ring N_KEY N_VALUE N_LIVING N_READERS N_KEY_LENGTH N_KEY_CHARACTERS D_law_age C_Ring_age
  have C_law_depth : ClG CX0 l.prog w K mg base 3 "_law_depth" s_law_depth ["_law_chain", "_law_name_here"] [] [] spDep := cl_law_depth T Z R W_RingLog W_Ring N_KEY N_VALUE N_LIVING N_READERS N_KEY_LENGTH N_KEY_CHARACTERS D_law_depth 
  have C_law_kept : ClGG CX0 l.prog w K mg base 11 "_law_kept" s_law_kept ["_law_ring_here", "_law_world_here", "_law_names"] [] [] (spKpt c_Ring c_RingLog c_Round) := cl_law_kept T Z R W_RingLog W_Ring N_KEY N_VALUE N_LIVING N_READERS N_KEY_LENGTH N_KEY_CHARACTERS D_law_kept C_law_age C_law_read C_Ring___contains__ C_law_depth C_Ring_scan C_Ring_table C_Ring___len__
  have C_law_turn : ClGG CX0 l.prog w K mg base 19 "_law_turn" s_law_turn ["_law_purse_here", "_law_rings", "_law_worlds", "_law_pool_here"] [] [] (spTrn c_Ring c_RingLog c_Round) := cl_law_turn T Z R W_RingLog W_Ring N_KEY N_VALUE N_LIVING N_READERS N_KEY_LENGTH N_KEY_CHARACTERS D_law_turn C_law_kept C_law_take C_law_move C_Ring_table C_law_tally C_law_pick
  exact ok_law T Z R W_RingLog W_Ring N_KEY N_VALUE N_LIVING N_READERS N_KEY_LENGTH N_KEY_CHARACTERS F C_law_kept C_law_take C_law_turn C_law_purse C_law_cell C_law_move C_law_worth C_law_world C_law_ring C_law_pool C_law_terms
theorem walk {l : PySem.W.OpenLaw} {q : Program} {loose : List Str} {XP : (Str → Option Value) → Heap → Prop} {YP : World → Heap → Prop} {d : DefRec} {K : Params → PySem.W.Frag} (hn : l.most = some 63) (hdf : d.params.defaults = [])
    (hY : ∀ (w : World) (h : Heap), YP w h → (K w.params).In h)
    (F : ∀ (w : World) (mg : Str → Option Value) (fa : Addr) (h : Heap), (K w.params).In h → h.Ns mainGlobals mg → mg d.name = some (.ref fa) →
      ∃ fd : FuncData, (∀ (s : Shared) (u : Value), BindsTo s fd ⟨[u], []⟩ [("_law_script", u)]) ∧ ∀ base : Heap, (K w.params).In base → base.Ns mainGlobals mg → FnG l.prog w (K w.params) mg base CX0 21 fa fd ["_law_script"] (spLaw (K w.params))) :
    PySem.W.WalkO q loose XP YP l.row.toRowW d [] (fun f vs => PySem.call f vs) :=
  Gx.walk_ofG (n := 63) (k := 21) (x := "_law_script") (CX := fun _ => CX0) (sp := fun w => spLaw (K w.params)) hn (by decide) hdf ⟨rfl, by decide, by decide⟩ hY F (fun _ _ a ns hl hb _ hS => ⟨a, ns, rfl, hS, hl, hb, fun _ => rfl⟩) fun _ _ _ _ _ z => z
end Toy
open PySem PySem.W PyProof.Rows in
set_option maxRecDepth 100000 in
set_option maxHeartbeats 0 in
theorem PySem.Challenge.cw_carrylog_k12_whole_ring_tables_holds : PySem.Challenge.rw_carrylog_k12_whole_ring_tables.Holds := by
  w_on; refine Toy.hdL.2 ?_; delta Toy.hdL; dsimp only
  k_fill
  refine Toy.walk (l := PySem.Challenge.rw_carrylog_k12_whole_ring_tables) rfl rfl (fun w h Y => PySem.W.kIn_of Y) ?F
  case F =>
    intro w mg fa h KX G hmg
    refine' Toy.all_mk KX G hmg ?T ?Z ?R ?W_RingLog ?W_Ring ?N_KEY ?N_VALUE ?N_LIVING ?N_READERS ?N_KEY_LENGTH ?N_KEY_CHARACTERS ?d0 ?d1 ?d2 ?d3 ?d4 ?d5 ?d6 ?d7 ?d8 ?d9 ?d10 ?d11 ?d12 ?d13 ?d14 ?d15 ?d16 ?d17 ?d18 ?d19 ?d20 ?d21 ?d22 ?d23 ?d24 ?d25 ?d26 ?d27 ?d28 ?d29 ?d30 ?d31 ?d32 ?d33 ?d34 ?d35 ?d36 ?d37 ?d38 ?d39 ?d40 ?d41 ?d42 ?d43 ?d44 ?d45 ?d46 ?d47 ?d48 ?d49 ?d50 ?d51 ?d52 ?d53 ?d54 ?d55 ?d56 ?d57 ?d58 ?d59 ?d60 ?d61 ?d62 ?d63 ?d64 ?d65 ?d66 ?d67
    case T =>
      constructor
      all_goals (refine PySem.W.mg_none_of KX G ?_; k_is)
    (case R => (refine' Gx.rdf_mk KX G ?zza ?zzpg ?zzhd ?zzpo ?zzsa ?zznb ?zzrd ?zzga ?zzmo ?zzsf ?zzt1 ?zzt2 ?zzt3 ?zzt4; (case zza => k_is); (case zzsf => k_is); (case zzt1 => k_is); (case zzt2 => k_is); (case zzt3 => k_is); (case zzt4 => k_is); (case zzpg => k_is); (case zzhd => k_is); (case zzpo => k_is); (case zzsa => k_is); (case zznb => k_is); (case zzmo => k_is); (case zzrd => k_is); (case zzga => k_is)))
    (case W_RingLog => (refine' Gx.clsf_mk KX G ?zza ?zzpg ?zzhd ?zzpo ?zzsa ?zznf ?zzt1 ?zzt2 ?zzt3 ?zzt4; (case zza => k_is); (case zzt1 => k_is); (case zzt2 => k_is); (case zzt3 => k_is); (case zzt4 => k_is); (case zzpg => k_is); (case zzhd => k_is); (case zzpo => k_is); (case zzsa => k_is); (case zznf => (refine List.forall_mem_cons.mpr ⟨?_, List.forall_mem_nil _⟩ <;> k_is))))
    (case W_Ring => (refine' Gx.clsf_mk KX G ?zza ?zzpg ?zzhd ?zzpo ?zzsa ?zznf ?zzt1 ?zzt2 ?zzt3 ?zzt4; (case zza => k_is); (case zzt1 => k_is); (case zzt2 => k_is); (case zzt3 => k_is); (case zzt4 => k_is); (case zzpg => k_is); (case zzhd => k_is); (case zzpo => k_is); (case zzsa => k_is); (case zznf => (refine List.forall_mem_cons.mpr ⟨?_, List.forall_mem_cons.mpr ⟨?_, List.forall_mem_cons.mpr ⟨?_, List.forall_mem_cons.mpr ⟨?_, List.forall_mem_cons.mpr ⟨?_, List.forall_mem_cons.mpr ⟨?_, List.forall_mem_cons.mpr ⟨?_, List.forall_mem_cons.mpr ⟨?_, List.forall_mem_cons.mpr ⟨?_, List.forall_mem_cons.mpr ⟨?_, List.forall_mem_cons.mpr ⟨?_, List.forall_mem_cons.mpr ⟨?_, List.forall_mem_nil _⟩⟩⟩⟩⟩⟩⟩⟩⟩⟩⟩⟩ <;> k_is))))
    (case N_KEY => (refine' Gx.gli_mk KX G ?zza; (case zza => k_is)))
    (case N_VALUE => (refine' Gx.gli_mk KX G ?zza; (case zza => k_is)))
    (case N_LIVING => (refine' Gx.gli_mk KX G ?zza; (case zza => k_is)))
    (case N_READERS => (refine' Gx.gli_mk KX G ?zza; (case zza => k_is)))
    (case N_KEY_LENGTH => (refine' Gx.gli_mk KX G ?zza; (case zza => k_is)))
    (case N_KEY_CHARACTERS => (refine' Gx.gls_mk KX G ?zza; (case zza => k_is)))
    (case d0 => (refine' Gx.dfg_mk KX G ?zza ?zzl ?zzc ?zzk ?zzd ?zzq; (case zza => k_is); (case zzl => k_is); (case zzc => k_is); (case zzk => k_is); (case zzd => exact .inl ⟨rfl, rfl⟩); (case zzq => exact .inl rfl)))
    (case d1 => (refine' Gx.dfg_mk KX G ?zza ?zzl ?zzc ?zzk ?zzd ?zzq; (case zza => k_is); (case zzl => k_is); (case zzc => k_is); (case zzk => k_is); (case zzd => exact .inl ⟨rfl, rfl⟩); (case zzq => exact .inl rfl)))
    (case d2 => (refine' Gx.dfi_mk ?zzmk ?zza ?zzb ?zzk ?zzl ?zzc; (case zzmk => k_is); (case zza => k_is); (case zzb => k_is); (case zzk => k_is); (case zzl => k_is); (case zzc => k_is)))
    (case d3 => (refine' Gx.dfm_mk ?zza ?zzb ?zzk ?zzl ?zzc ?zzd ?zzq; (case zza => k_is); (case zzb => k_is); (case zzk => k_is); (case zzl => k_is); (case zzc => k_is); (case zzd => exact .inl ⟨rfl, rfl⟩); (case zzq => exact .inl rfl)))
    (case d4 => (refine' Gx.dfm_mk ?zza ?zzb ?zzk ?zzl ?zzc ?zzd ?zzq; (case zza => k_is); (case zzb => k_is); (case zzk => k_is); (case zzl => k_is); (case zzc => k_is); (case zzd => exact .inl ⟨rfl, rfl⟩); (case zzq => exact .inl rfl)))
    (case d5 => (refine' Gx.dfm_mk ?zza ?zzb ?zzk ?zzl ?zzc ?zzd ?zzq; (case zza => k_is); (case zzb => k_is); (case zzk => k_is); (case zzl => k_is); (case zzc => k_is); (case zzd => exact .inl ⟨rfl, rfl⟩); (case zzq => exact .inl rfl)))
    (case d6 => (refine' Gx.dfm_mk ?zza ?zzb ?zzk ?zzl ?zzc ?zzd ?zzq; (case zza => k_is); (case zzb => k_is); (case zzk => k_is); (case zzl => k_is); (case zzc => k_is); (case zzd => exact .inl ⟨rfl, rfl⟩); (case zzq => exact .inl rfl)))
    (case d7 => (refine' Gx.dfm_mk ?zza ?zzb ?zzk ?zzl ?zzc ?zzd ?zzq; (case zza => k_is); (case zzb => k_is); (case zzk => k_is); (case zzl => k_is); (case zzc => k_is); (case zzd => exact .inl ⟨rfl, rfl⟩); (case zzq => exact .inl rfl)))
    (case d8 => (refine' Gx.dfp_mk ?zza ?zzb ?zzt ?zzr ?zzl ?zzc ?zzk; (case zza => k_is); (case zzb => k_is); (case zzt => k_is); (case zzr => k_is); (case zzl => k_is); (case zzc => k_is); (case zzk => k_is)))
    (case d9 => (refine' Gx.dfm_mk ?zza ?zzb ?zzk ?zzl ?zzc ?zzd ?zzq; (case zza => k_is); (case zzb => k_is); (case zzk => k_is); (case zzl => k_is); (case zzc => k_is); (case zzd => exact .inl ⟨rfl, rfl⟩); (case zzq => exact .inl rfl)))
    (case d10 => (refine' Gx.dfg_mk KX G ?zza ?zzl ?zzc ?zzk ?zzd ?zzq; (case zza => k_is); (case zzl => k_is); (case zzc => k_is); (case zzk => k_is); (case zzd => exact .inl ⟨rfl, rfl⟩); (case zzq => exact .inl rfl)))
    (case d11 => (refine' Gx.dfm_mk ?zza ?zzb ?zzk ?zzl ?zzc ?zzd ?zzq; (case zza => k_is); (case zzb => k_is); (case zzk => k_is); (case zzl => k_is); (case zzc => k_is); (case zzd => exact .inl ⟨rfl, rfl⟩); (case zzq => exact .inl rfl)))
    (case d12 => (refine' Gx.dfm_mk ?zza ?zzb ?zzk ?zzl ?zzc ?zzd ?zzq; (case zza => k_is); (case zzb => k_is); (case zzk => k_is); (case zzl => k_is); (case zzc => k_is); (case zzd => exact .inl ⟨rfl, rfl⟩); (case zzq => exact .inl rfl)))
    (case d13 => (refine' Gx.dfm_mk ?zza ?zzb ?zzk ?zzl ?zzc ?zzd ?zzq; (case zza => k_is); (case zzb => k_is); (case zzk => k_is); (case zzl => k_is); (case zzc => k_is); (case zzd => exact .inl ⟨rfl, rfl⟩); (case zzq => exact .inl rfl)))
    (case d14 => (refine' Gx.dfm_mk ?zza ?zzb ?zzk ?zzl ?zzc ?zzd ?zzq; (case zza => k_is); (case zzb => k_is); (case zzk => k_is); (case zzl => k_is); (case zzc => k_is); (case zzd => exact .inl ⟨rfl, rfl⟩); (case zzq => exact .inl rfl)))
    (case d15 => (refine' Gx.dfm_mk ?zza ?zzb ?zzk ?zzl ?zzc ?zzd ?zzq; (case zza => k_is); (case zzb => k_is); (case zzk => k_is); (case zzl => k_is); (case zzc => k_is); (case zzd => exact .inl ⟨rfl, rfl⟩); (case zzq => exact .inl rfl)))
    (case d16 => (refine' Gx.dfm_mk ?zza ?zzb ?zzk ?zzl ?zzc ?zzd ?zzq; (case zza => k_is); (case zzb => k_is); (case zzk => k_is); (case zzl => k_is); (case zzc => k_is); (case zzd => exact .inl ⟨rfl, rfl⟩); (case zzq => exact .inl rfl)))
    (case d17 => (refine' Gx.dfc_mk ?zzmk ?zza ?zzb ?zzk ?zzk2 ?zzl ?zzc ?zzd ?zzq; (case zzmk => k_is); (case zza => k_is); (case zzb => k_is); (case zzk => k_is); (case zzk2 => k_is); (case zzl => k_is); (case zzc => k_is); (case zzd => exact .inl ⟨rfl, rfl⟩); (case zzq => exact .inl rfl)))
    (case d18 => (refine' Gx.dfm_mk ?zza ?zzb ?zzk ?zzl ?zzc ?zzd ?zzq; (case zza => k_is); (case zzb => k_is); (case zzk => k_is); (case zzl => k_is); (case zzc => k_is); (case zzd => exact .inl ⟨rfl, rfl⟩); (case zzq => exact .inl rfl)))
    (case d19 => (refine' Gx.dfp_mk ?zza ?zzb ?zzt ?zzr ?zzl ?zzc ?zzk; (case zza => k_is); (case zzb => k_is); (case zzt => k_is); (case zzr => k_is); (case zzl => k_is); (case zzc => k_is); (case zzk => k_is)))
    (case d20 => (refine' Gx.dfp_mk ?zza ?zzb ?zzt ?zzr ?zzl ?zzc ?zzk; (case zza => k_is); (case zzb => k_is); (case zzt => k_is); (case zzr => k_is); (case zzl => k_is); (case zzc => k_is); (case zzk => k_is)))
    (case d21 => (refine' Gx.dfp_mk ?zza ?zzb ?zzt ?zzr ?zzl ?zzc ?zzk; (case zza => k_is); (case zzb => k_is); (case zzt => k_is); (case zzr => k_is); (case zzl => k_is); (case zzc => k_is); (case zzk => k_is)))
    (case d22 => (refine' Gx.dfp_mk ?zza ?zzb ?zzt ?zzr ?zzl ?zzc ?zzk; (case zza => k_is); (case zzb => k_is); (case zzt => k_is); (case zzr => k_is); (case zzl => k_is); (case zzc => k_is); (case zzk => k_is)))
    (case d23 => (refine' Gx.dfp_mk ?zza ?zzb ?zzt ?zzr ?zzl ?zzc ?zzk; (case zza => k_is); (case zzb => k_is); (case zzt => k_is); (case zzr => k_is); (case zzl => k_is); (case zzc => k_is); (case zzk => k_is)))
    (case d24 => (refine' Gx.dfp_mk ?zza ?zzb ?zzt ?zzr ?zzl ?zzc ?zzk; (case zza => k_is); (case zzb => k_is); (case zzt => k_is); (case zzr => k_is); (case zzl => k_is); (case zzc => k_is); (case zzk => k_is)))
    (case d25 => (refine' Gx.dfp_mk ?zza ?zzb ?zzt ?zzr ?zzl ?zzc ?zzk; (case zza => k_is); (case zzb => k_is); (case zzt => k_is); (case zzr => k_is); (case zzl => k_is); (case zzc => k_is); (case zzk => k_is)))
    (case d26 => (refine' Gx.dfm_mk ?zza ?zzb ?zzk ?zzl ?zzc ?zzd ?zzq; (case zza => k_is); (case zzb => k_is); (case zzk => k_is); (case zzl => k_is); (case zzc => k_is); (case zzd => exact .inl ⟨rfl, rfl⟩); (case zzq => exact .inl rfl)))
    (case d27 => (refine' Gx.dfm_mk ?zza ?zzb ?zzk ?zzl ?zzc ?zzd ?zzq; (case zza => k_is); (case zzb => k_is); (case zzk => k_is); (case zzl => k_is); (case zzc => k_is); (case zzd => exact .inl ⟨rfl, rfl⟩); (case zzq => exact .inl rfl)))
    (case d28 => (refine' Gx.dfm_mk ?zza ?zzb ?zzk ?zzl ?zzc ?zzd ?zzq; (case zza => k_is); (case zzb => k_is); (case zzk => k_is); (case zzl => k_is); (case zzc => k_is); (case zzd => exact .inl ⟨rfl, rfl⟩); (case zzq => exact .inl rfl)))
    (case d29 => (refine' Gx.dfm_mk ?zza ?zzb ?zzk ?zzl ?zzc ?zzd ?zzq; (case zza => k_is); (case zzb => k_is); (case zzk => k_is); (case zzl => k_is); (case zzc => k_is); (case zzd => exact .inl ⟨rfl, rfl⟩); (case zzq => exact .inl rfl)))
    (case d30 => (refine' Gx.dfm_mk ?zza ?zzb ?zzk ?zzl ?zzc ?zzd ?zzq; (case zza => k_is); (case zzb => k_is); (case zzk => k_is); (case zzl => k_is); (case zzc => k_is); (case zzd => exact .inl ⟨rfl, rfl⟩); (case zzq => exact .inl rfl)))
    (case d31 => (refine' Gx.dfm_mk ?zza ?zzb ?zzk ?zzl ?zzc ?zzd ?zzq; (case zza => k_is); (case zzb => k_is); (case zzk => k_is); (case zzl => k_is); (case zzc => k_is); (case zzd => exact .inl ⟨rfl, rfl⟩); (case zzq => exact .inl rfl)))
    (case d32 => (refine' Gx.dfm_mk ?zza ?zzb ?zzk ?zzl ?zzc ?zzd ?zzq; (case zza => k_is); (case zzb => k_is); (case zzk => k_is); (case zzl => k_is); (case zzc => k_is); (case zzd => exact .inl ⟨rfl, rfl⟩); (case zzq => exact .inl rfl)))
    (case d33 => (refine' Gx.dfg_mk KX G ?zza ?zzl ?zzc ?zzk ?zzd ?zzq; (case zza => k_is); (case zzl => k_is); (case zzc => k_is); (case zzk => k_is); (case zzd => exact .inl ⟨rfl, rfl⟩); (case zzq => exact .inl rfl)))
    (case d34 => (refine' Gx.dfm_mk ?zza ?zzb ?zzk ?zzl ?zzc ?zzd ?zzq; (case zza => k_is); (case zzb => k_is); (case zzk => k_is); (case zzl => k_is); (case zzc => k_is); (case zzd => (refine' Gx.dfl1 ?zzla ?zzlv0; (case zzla => k_is); (case zzlv0 => exact rfl))); (case zzq => exact .inl rfl)))
    (case d35 => (refine' Gx.dfm_mk ?zza ?zzb ?zzk ?zzl ?zzc ?zzd ?zzq; (case zza => k_is); (case zzb => k_is); (case zzk => k_is); (case zzl => k_is); (case zzc => k_is); (case zzd => (refine' Gx.dfl1 ?zzla ?zzlv0; (case zzla => k_is); (case zzlv0 => exact rfl))); (case zzq => exact .inl rfl)))
    (case d36 => (refine' Gx.dfg_mk KX G ?zza ?zzl ?zzc ?zzk ?zzd ?zzq; (case zza => k_is); (case zzl => k_is); (case zzc => k_is); (case zzk => k_is); (case zzd => exact .inl ⟨rfl, rfl⟩); (case zzq => exact .inl rfl)))
    (case d37 => (refine' Gx.dfc_mk ?zzmk ?zza ?zzb ?zzk ?zzk2 ?zzl ?zzc ?zzd ?zzq; (case zzmk => k_is); (case zza => k_is); (case zzb => k_is); (case zzk => k_is); (case zzk2 => k_is); (case zzl => k_is); (case zzc => k_is); (case zzd => exact .inl ⟨rfl, rfl⟩); (case zzq => (refine .inr ⟨_, rfl, ?_⟩; intro q hq; rcases List.mem_cons.mp hq with rfl | hq; exact ⟨_, by k_is, rfl⟩; rcases List.mem_cons.mp hq with rfl | hq; exact ⟨_, by k_is, ⟨_, rfl⟩⟩; cases hq))))
    (case d38 => (refine' Gx.dfg_mk KX G ?zza ?zzl ?zzc ?zzk ?zzd ?zzq; (case zza => k_is); (case zzl => k_is); (case zzc => k_is); (case zzk => k_is); (case zzd => exact .inl ⟨rfl, rfl⟩); (case zzq => exact .inl rfl)))
    (case d39 => (refine' Gx.dfg_mk KX G ?zza ?zzl ?zzc ?zzk ?zzd ?zzq; (case zza => k_is); (case zzl => k_is); (case zzc => k_is); (case zzk => k_is); (case zzd => exact .inl ⟨rfl, rfl⟩); (case zzq => exact .inl rfl)))
    (case d40 => (refine' Gx.dfg_mk KX G ?zza ?zzl ?zzc ?zzk ?zzd ?zzq; (case zza => k_is); (case zzl => k_is); (case zzc => k_is); (case zzk => k_is); (case zzd => exact .inl ⟨rfl, rfl⟩); (case zzq => exact .inl rfl)))
    (case d41 => (refine' Gx.dfg_mk KX G ?zza ?zzl ?zzc ?zzk ?zzd ?zzq; (case zza => k_is); (case zzl => k_is); (case zzc => k_is); (case zzk => k_is); (case zzd => exact .inl ⟨rfl, rfl⟩); (case zzq => exact .inl rfl)))
    (case d42 => (refine' Gx.dfg_mk KX G ?zza ?zzl ?zzc ?zzk ?zzd ?zzq; (case zza => k_is); (case zzl => k_is); (case zzc => k_is); (case zzk => k_is); (case zzd => exact .inl ⟨rfl, rfl⟩); (case zzq => exact .inl rfl)))
    (case d43 => (refine' Gx.dfg_mk KX G ?zza ?zzl ?zzc ?zzk ?zzd ?zzq; (case zza => k_is); (case zzl => k_is); (case zzc => k_is); (case zzk => k_is); (case zzd => exact .inl ⟨rfl, rfl⟩); (case zzq => exact .inl rfl)))
    (case d44 => (refine' Gx.dfg_mk KX G ?zza ?zzl ?zzc ?zzk ?zzd ?zzq; (case zza => k_is); (case zzl => k_is); (case zzc => k_is); (case zzk => k_is); (case zzd => exact .inl ⟨rfl, rfl⟩); (case zzq => exact .inl rfl)))
    (case d45 => (refine' Gx.dfg_mk KX G ?zza ?zzl ?zzc ?zzk ?zzd ?zzq; (case zza => k_is); (case zzl => k_is); (case zzc => k_is); (case zzk => k_is); (case zzd => exact .inl ⟨rfl, rfl⟩); (case zzq => exact .inl rfl)))
    (case d46 => (refine' Gx.dfg_mk KX G ?zza ?zzl ?zzc ?zzk ?zzd ?zzq; (case zza => k_is); (case zzl => k_is); (case zzc => k_is); (case zzk => k_is); (case zzd => exact .inl ⟨rfl, rfl⟩); (case zzq => exact .inl rfl)))
    (case d47 => (refine' Gx.dfg_mk KX G ?zza ?zzl ?zzc ?zzk ?zzd ?zzq; (case zza => k_is); (case zzl => k_is); (case zzc => k_is); (case zzk => k_is); (case zzd => exact .inl ⟨rfl, rfl⟩); (case zzq => exact .inl rfl)))
    (case d48 => (refine' Gx.dfg_mk KX G ?zza ?zzl ?zzc ?zzk ?zzd ?zzq; (case zza => k_is); (case zzl => k_is); (case zzc => k_is); (case zzk => k_is); (case zzd => exact .inl ⟨rfl, rfl⟩); (case zzq => exact .inl rfl)))
    (case d49 => (refine' Gx.dfg_mk KX G ?zza ?zzl ?zzc ?zzk ?zzd ?zzq; (case zza => k_is); (case zzl => k_is); (case zzc => k_is); (case zzk => k_is); (case zzd => exact .inl ⟨rfl, rfl⟩); (case zzq => exact .inl rfl)))
    (case d50 => (refine' Gx.dfg_mk KX G ?zza ?zzl ?zzc ?zzk ?zzd ?zzq; (case zza => k_is); (case zzl => k_is); (case zzc => k_is); (case zzk => k_is); (case zzd => exact .inl ⟨rfl, rfl⟩); (case zzq => exact .inl rfl)))
    (case d51 => (refine' Gx.dfg_mk KX G ?zza ?zzl ?zzc ?zzk ?zzd ?zzq; (case zza => k_is); (case zzl => k_is); (case zzc => k_is); (case zzk => k_is); (case zzd => exact .inl ⟨rfl, rfl⟩); (case zzq => exact .inl rfl)))
    (case d52 => (refine' Gx.dfg_mk KX G ?zza ?zzl ?zzc ?zzk ?zzd ?zzq; (case zza => k_is); (case zzl => k_is); (case zzc => k_is); (case zzk => k_is); (case zzd => exact .inl ⟨rfl, rfl⟩); (case zzq => exact .inl rfl)))
    (case d53 => (refine' Gx.dfg_mk KX G ?zza ?zzl ?zzc ?zzk ?zzd ?zzq; (case zza => k_is); (case zzl => k_is); (case zzc => k_is); (case zzk => k_is); (case zzd => exact .inl ⟨rfl, rfl⟩); (case zzq => exact .inl rfl)))
    (case d54 => (refine' Gx.dfg_mk KX G ?zza ?zzl ?zzc ?zzk ?zzd ?zzq; (case zza => k_is); (case zzl => k_is); (case zzc => k_is); (case zzk => k_is); (case zzd => exact .inl ⟨rfl, rfl⟩); (case zzq => exact .inl rfl)))
    (case d55 => (refine' Gx.dfg_mk KX G ?zza ?zzl ?zzc ?zzk ?zzd ?zzq; (case zza => k_is); (case zzl => k_is); (case zzc => k_is); (case zzk => k_is); (case zzd => exact .inl ⟨rfl, rfl⟩); (case zzq => exact .inl rfl)))
    (case d56 => (refine' Gx.dfg_mk KX G ?zza ?zzl ?zzc ?zzk ?zzd ?zzq; (case zza => k_is); (case zzl => k_is); (case zzc => k_is); (case zzk => k_is); (case zzd => exact .inl ⟨rfl, rfl⟩); (case zzq => exact .inl rfl)))
    (case d57 => (refine' Gx.dfm_mk ?zza ?zzb ?zzk ?zzl ?zzc ?zzd ?zzq; (case zza => k_is); (case zzb => k_is); (case zzk => k_is); (case zzl => k_is); (case zzc => k_is); (case zzd => exact .inl ⟨rfl, rfl⟩); (case zzq => exact .inl rfl)))
    (case d58 => (refine' Gx.dfm_mk ?zza ?zzb ?zzk ?zzl ?zzc ?zzd ?zzq; (case zza => k_is); (case zzb => k_is); (case zzk => k_is); (case zzl => k_is); (case zzc => k_is); (case zzd => exact .inl ⟨rfl, rfl⟩); (case zzq => exact .inl rfl)))
    (case d59 => (refine' Gx.dfm_mk ?zza ?zzb ?zzk ?zzl ?zzc ?zzd ?zzq; (case zza => k_is); (case zzb => k_is); (case zzk => k_is); (case zzl => k_is); (case zzc => k_is); (case zzd => exact .inl ⟨rfl, rfl⟩); (case zzq => exact .inl rfl)))
    (case d60 => (refine' Gx.dfm_mk ?zza ?zzb ?zzk ?zzl ?zzc ?zzd ?zzq; (case zza => k_is); (case zzb => k_is); (case zzk => k_is); (case zzl => k_is); (case zzc => k_is); (case zzd => exact .inl ⟨rfl, rfl⟩); (case zzq => exact .inl rfl)))
    (case d61 => (refine' Gx.dfg_mk KX G ?zza ?zzl ?zzc ?zzk ?zzd ?zzq; (case zza => k_is); (case zzl => k_is); (case zzc => k_is); (case zzk => k_is); (case zzd => exact .inl ⟨rfl, rfl⟩); (case zzq => exact .inl rfl)))
    (case d62 => (refine' Gx.dfg_mk KX G ?zza ?zzl ?zzc ?zzk ?zzd ?zzq; (case zza => k_is); (case zzl => k_is); (case zzc => k_is); (case zzk => k_is); (case zzd => exact .inl ⟨rfl, rfl⟩); (case zzq => exact .inl rfl)))
    (case d63 => (refine' Gx.dfg_mk KX G ?zza ?zzl ?zzc ?zzk ?zzd ?zzq; (case zza => k_is); (case zzl => k_is); (case zzc => k_is); (case zzk => k_is); (case zzd => exact .inl ⟨rfl, rfl⟩); (case zzq => exact .inl rfl)))
    (case d64 => (refine' Gx.dfg_mk KX G ?zza ?zzl ?zzc ?zzk ?zzd ?zzq; (case zza => k_is); (case zzl => k_is); (case zzc => k_is); (case zzk => k_is); (case zzd => exact .inl ⟨rfl, rfl⟩); (case zzq => exact .inl rfl)))
    (case d65 => (refine' Gx.dfg_mk KX G ?zza ?zzl ?zzc ?zzk ?zzd ?zzq; (case zza => k_is); (case zzl => k_is); (case zzc => k_is); (case zzk => k_is); (case zzd => exact .inl ⟨rfl, rfl⟩); (case zzq => exact .inl rfl)))
    (case d66 => (refine' Gx.dfg_mk KX G ?zza ?zzl ?zzc ?zzk ?zzd ?zzq; (case zza => k_is); (case zzl => k_is); (case zzc => k_is); (case zzk => k_is); (case zzd => exact .inl ⟨rfl, rfl⟩); (case zzq => exact .inl rfl)))
    (case d67 => (refine' Gx.dfg_mk KX G ?zza ?zzl ?zzc ?zzk ?zzd ?zzq; (case zza => k_is); (case zzl => k_is); (case zzc => k_is); (case zzk => k_is); (case zzd => exact .inl ⟨rfl, rfl⟩); (case zzq => exact .inl rfl)))
    case Z =>
      refine' ⟨?g_StoreError, ?g_InvalidInput, ?g_KeyLimit, ?g_UnknownKey, ?g_BadChoice, ?g_Stalled, ?d_InvalidInput, ?xf_InvalidInput, ?xc_InvalidInput, ?em_InvalidInput_StoreError, ?kt_InvalidInput_StoreError, ?em_InvalidInput_InvalidInput, ?kt_InvalidInput_InvalidInput, ?em_InvalidInput_KeyLimit, ?kt_InvalidInput_KeyLimit, ?em_InvalidInput_UnknownKey, ?kt_InvalidInput_UnknownKey, ?em_InvalidInput_BadChoice, ?kt_InvalidInput_BadChoice, ?em_InvalidInput_Stalled, ?kt_InvalidInput_Stalled, ?em_InvalidInput_ValueError, ?kt_InvalidInput_ValueError, ?ns_InvalidInput, ?d_KeyLimit, ?xf_KeyLimit, ?xc_KeyLimit, ?em_KeyLimit_StoreError, ?kt_KeyLimit_StoreError, ?em_KeyLimit_InvalidInput, ?kt_KeyLimit_InvalidInput, ?em_KeyLimit_KeyLimit, ?kt_KeyLimit_KeyLimit, ?em_KeyLimit_UnknownKey, ?kt_KeyLimit_UnknownKey, ?em_KeyLimit_BadChoice, ?kt_KeyLimit_BadChoice, ?em_KeyLimit_Stalled, ?kt_KeyLimit_Stalled, ?em_KeyLimit_ValueError, ?kt_KeyLimit_ValueError, ?ns_KeyLimit, ?d_UnknownKey, ?xf_UnknownKey, ?xc_UnknownKey, ?em_UnknownKey_StoreError, ?kt_UnknownKey_StoreError, ?em_UnknownKey_InvalidInput, ?kt_UnknownKey_InvalidInput, ?em_UnknownKey_KeyLimit, ?kt_UnknownKey_KeyLimit, ?em_UnknownKey_UnknownKey, ?kt_UnknownKey_UnknownKey, ?em_UnknownKey_BadChoice, ?kt_UnknownKey_BadChoice, ?em_UnknownKey_Stalled, ?kt_UnknownKey_Stalled, ?em_UnknownKey_ValueError, ?kt_UnknownKey_ValueError, ?ns_UnknownKey, ?d_BadChoice, ?xf_BadChoice, ?xc_BadChoice, ?em_BadChoice_StoreError, ?kt_BadChoice_StoreError, ?em_BadChoice_InvalidInput, ?kt_BadChoice_InvalidInput, ?em_BadChoice_KeyLimit, ?kt_BadChoice_KeyLimit, ?em_BadChoice_UnknownKey, ?kt_BadChoice_UnknownKey, ?em_BadChoice_BadChoice, ?kt_BadChoice_BadChoice, ?em_BadChoice_Stalled, ?kt_BadChoice_Stalled, ?em_BadChoice_ValueError, ?kt_BadChoice_ValueError, ?ns_BadChoice, ?d_Stalled, ?xf_Stalled, ?xc_Stalled, ?em_Stalled_StoreError, ?kt_Stalled_StoreError, ?em_Stalled_InvalidInput, ?kt_Stalled_InvalidInput, ?em_Stalled_KeyLimit, ?kt_Stalled_KeyLimit, ?em_Stalled_UnknownKey, ?kt_Stalled_UnknownKey, ?em_Stalled_BadChoice, ?kt_Stalled_BadChoice, ?em_Stalled_Stalled, ?kt_Stalled_Stalled, ?em_Stalled_ValueError, ?kt_Stalled_ValueError, ?ns_Stalled⟩
      case g_StoreError => exact PySem.W.mg_of KX G (by k_is)
      case g_InvalidInput => exact PySem.W.mg_of KX G (by k_is)
      case g_KeyLimit => exact PySem.W.mg_of KX G (by k_is)
      case g_UnknownKey => exact PySem.W.mg_of KX G (by k_is)
      case g_BadChoice => exact PySem.W.mg_of KX G (by k_is)
      case g_Stalled => exact PySem.W.mg_of KX G (by k_is)
      case d_InvalidInput => (refine' Gx.exd_mk (sx := "StoreError") KX G ?zzaS ?zza ?zzxL ?zzhbm ?zzsa ?zzexC ?zztyC ?zzkC ?zzmro ?zzh1 ?zzh2 ?zzhm ?zzhf ?zzsub' ?zzhn ?zzfl ?zzi1 ?zzi2 ?zzlf ?zzcf ?zzlc ?zzhv ?zzhfile ?zzlcc ?zzns ?zztop ?zzop; (case zzaS => k_is); (case zza => k_is); (case zzxL => k_is); (case zzsa => k_is); (case zzexC => k_is); (case zztyC => k_is); (case zzkC => k_is); (case zzmro => k_is); (case zzh1 => k_is); (case zzh2 => k_is); (case zzhbm => decide +kernel); (case zzhm => exact rfl); (case zzhf => k_is); (case zzhn => exact rfl); (case zzsub' => k_is); (case zzfl => k_is); (case zzi1 => k_is); (case zzi2 => k_is); (case zzlf => k_is); (case zzcf => k_is); (case zzlc => k_is); (case zzlcc => k_is); (case zzns => k_is); (case zzop => k_is); (case zzhv => exact rfl); (case zzhfile => exact rfl); (case zztop => exact rfl))
      case xf_InvalidInput => (constructor <;> k_is)
      case xc_InvalidInput => (constructor <;> k_is)
      case em_InvalidInput_StoreError => (refine' Gx.exm_of ?zza ?zzb ?zzc ?zzd; (case zza => k_is); (case zzb => k_is); (case zzc => k_is); (case zzd => k_is))
      case kt_InvalidInput_StoreError => (refine' Gx.kit_ne ?zza ?zzb ?zzc ?zzd; (case zza => exact rfl); (case zzb => k_is); (case zzc => k_is); (case zzd => k_is))
      case em_InvalidInput_InvalidInput => (refine' Gx.exm_of ?zza ?zzb ?zzc ?zzd; (case zza => k_is); (case zzb => k_is); (case zzc => k_is); (case zzd => k_is))
      case kt_InvalidInput_InvalidInput => exact Gx.kit_same
      case em_InvalidInput_KeyLimit => (refine' Gx.exm_of ?zza ?zzb ?zzc ?zzd; (case zza => k_is); (case zzb => k_is); (case zzc => k_is); (case zzd => k_is))
      case kt_InvalidInput_KeyLimit => (refine' Gx.kit_ne ?zza ?zzb ?zzc ?zzd; (case zza => exact rfl); (case zzb => k_is); (case zzc => k_is); (case zzd => k_is))
      case em_InvalidInput_UnknownKey => (refine' Gx.exm_of ?zza ?zzb ?zzc ?zzd; (case zza => k_is); (case zzb => k_is); (case zzc => k_is); (case zzd => k_is))
      case kt_InvalidInput_UnknownKey => (refine' Gx.kit_ne ?zza ?zzb ?zzc ?zzd; (case zza => exact rfl); (case zzb => k_is); (case zzc => k_is); (case zzd => k_is))
      case em_InvalidInput_BadChoice => (refine' Gx.exm_of ?zza ?zzb ?zzc ?zzd; (case zza => k_is); (case zzb => k_is); (case zzc => k_is); (case zzd => k_is))
      case kt_InvalidInput_BadChoice => (refine' Gx.kit_ne ?zza ?zzb ?zzc ?zzd; (case zza => exact rfl); (case zzb => k_is); (case zzc => k_is); (case zzd => k_is))
      case em_InvalidInput_Stalled => (refine' Gx.exm_of ?zza ?zzb ?zzc ?zzd; (case zza => k_is); (case zzb => k_is); (case zzc => k_is); (case zzd => k_is))
      case kt_InvalidInput_Stalled => (refine' Gx.kit_ne ?zza ?zzb ?zzc ?zzd; (case zza => exact rfl); (case zzb => k_is); (case zzc => k_is); (case zzd => k_is))
      case em_InvalidInput_ValueError => (refine' Gx.exm_tyB ?zza ?zzb ?zzd; (case zza => decide +kernel); (case zzb => k_is); (case zzd => k_is))
      case kt_InvalidInput_ValueError => (refine' Gx.kit_tyB ?zza ?zzd; (case zza => decide +kernel); (case zzd => k_is))
      case ns_InvalidInput => k_is
      case d_KeyLimit => (refine' Gx.exd_mk (sx := "StoreError") KX G ?zzaS ?zza ?zzxL ?zzhbm ?zzsa ?zzexC ?zztyC ?zzkC ?zzmro ?zzh1 ?zzh2 ?zzhm ?zzhf ?zzsub' ?zzhn ?zzfl ?zzi1 ?zzi2 ?zzlf ?zzcf ?zzlc ?zzhv ?zzhfile ?zzlcc ?zzns ?zztop ?zzop; (case zzaS => k_is); (case zza => k_is); (case zzxL => k_is); (case zzsa => k_is); (case zzexC => k_is); (case zztyC => k_is); (case zzkC => k_is); (case zzmro => k_is); (case zzh1 => k_is); (case zzh2 => k_is); (case zzhbm => decide +kernel); (case zzhm => exact rfl); (case zzhf => k_is); (case zzhn => exact rfl); (case zzsub' => k_is); (case zzfl => k_is); (case zzi1 => k_is); (case zzi2 => k_is); (case zzlf => k_is); (case zzcf => k_is); (case zzlc => k_is); (case zzlcc => k_is); (case zzns => k_is); (case zzop => k_is); (case zzhv => exact rfl); (case zzhfile => exact rfl); (case zztop => exact rfl))
      case xf_KeyLimit => (constructor <;> k_is)
      case xc_KeyLimit => (constructor <;> k_is)
      case em_KeyLimit_StoreError => (refine' Gx.exm_of ?zza ?zzb ?zzc ?zzd; (case zza => k_is); (case zzb => k_is); (case zzc => k_is); (case zzd => k_is))
      case kt_KeyLimit_StoreError => (refine' Gx.kit_ne ?zza ?zzb ?zzc ?zzd; (case zza => exact rfl); (case zzb => k_is); (case zzc => k_is); (case zzd => k_is))
      case em_KeyLimit_InvalidInput => (refine' Gx.exm_of ?zza ?zzb ?zzc ?zzd; (case zza => k_is); (case zzb => k_is); (case zzc => k_is); (case zzd => k_is))
      case kt_KeyLimit_InvalidInput => (refine' Gx.kit_ne ?zza ?zzb ?zzc ?zzd; (case zza => exact rfl); (case zzb => k_is); (case zzc => k_is); (case zzd => k_is))
      case em_KeyLimit_KeyLimit => (refine' Gx.exm_of ?zza ?zzb ?zzc ?zzd; (case zza => k_is); (case zzb => k_is); (case zzc => k_is); (case zzd => k_is))
      case kt_KeyLimit_KeyLimit => exact Gx.kit_same
      case em_KeyLimit_UnknownKey => (refine' Gx.exm_of ?zza ?zzb ?zzc ?zzd; (case zza => k_is); (case zzb => k_is); (case zzc => k_is); (case zzd => k_is))
      case kt_KeyLimit_UnknownKey => (refine' Gx.kit_ne ?zza ?zzb ?zzc ?zzd; (case zza => exact rfl); (case zzb => k_is); (case zzc => k_is); (case zzd => k_is))
      case em_KeyLimit_BadChoice => (refine' Gx.exm_of ?zza ?zzb ?zzc ?zzd; (case zza => k_is); (case zzb => k_is); (case zzc => k_is); (case zzd => k_is))
      case kt_KeyLimit_BadChoice => (refine' Gx.kit_ne ?zza ?zzb ?zzc ?zzd; (case zza => exact rfl); (case zzb => k_is); (case zzc => k_is); (case zzd => k_is))
      case em_KeyLimit_Stalled => (refine' Gx.exm_of ?zza ?zzb ?zzc ?zzd; (case zza => k_is); (case zzb => k_is); (case zzc => k_is); (case zzd => k_is))
      case kt_KeyLimit_Stalled => (refine' Gx.kit_ne ?zza ?zzb ?zzc ?zzd; (case zza => exact rfl); (case zzb => k_is); (case zzc => k_is); (case zzd => k_is))
      case em_KeyLimit_ValueError => (refine' Gx.exm_tyB ?zza ?zzb ?zzd; (case zza => decide +kernel); (case zzb => k_is); (case zzd => k_is))
      case kt_KeyLimit_ValueError => (refine' Gx.kit_tyB ?zza ?zzd; (case zza => decide +kernel); (case zzd => k_is))
      case ns_KeyLimit => k_is
      case d_UnknownKey => (refine' Gx.exd_mk (sx := "StoreError") KX G ?zzaS ?zza ?zzxL ?zzhbm ?zzsa ?zzexC ?zztyC ?zzkC ?zzmro ?zzh1 ?zzh2 ?zzhm ?zzhf ?zzsub' ?zzhn ?zzfl ?zzi1 ?zzi2 ?zzlf ?zzcf ?zzlc ?zzhv ?zzhfile ?zzlcc ?zzns ?zztop ?zzop; (case zzaS => k_is); (case zza => k_is); (case zzxL => k_is); (case zzsa => k_is); (case zzexC => k_is); (case zztyC => k_is); (case zzkC => k_is); (case zzmro => k_is); (case zzh1 => k_is); (case zzh2 => k_is); (case zzhbm => decide +kernel); (case zzhm => exact rfl); (case zzhf => k_is); (case zzhn => exact rfl); (case zzsub' => k_is); (case zzfl => k_is); (case zzi1 => k_is); (case zzi2 => k_is); (case zzlf => k_is); (case zzcf => k_is); (case zzlc => k_is); (case zzlcc => k_is); (case zzns => k_is); (case zzop => k_is); (case zzhv => exact rfl); (case zzhfile => exact rfl); (case zztop => exact rfl))
      case xf_UnknownKey => (constructor <;> k_is)
      case xc_UnknownKey => (constructor <;> k_is)
      case em_UnknownKey_StoreError => (refine' Gx.exm_of ?zza ?zzb ?zzc ?zzd; (case zza => k_is); (case zzb => k_is); (case zzc => k_is); (case zzd => k_is))
      case kt_UnknownKey_StoreError => (refine' Gx.kit_ne ?zza ?zzb ?zzc ?zzd; (case zza => exact rfl); (case zzb => k_is); (case zzc => k_is); (case zzd => k_is))
      case em_UnknownKey_InvalidInput => (refine' Gx.exm_of ?zza ?zzb ?zzc ?zzd; (case zza => k_is); (case zzb => k_is); (case zzc => k_is); (case zzd => k_is))
      case kt_UnknownKey_InvalidInput => (refine' Gx.kit_ne ?zza ?zzb ?zzc ?zzd; (case zza => exact rfl); (case zzb => k_is); (case zzc => k_is); (case zzd => k_is))
      case em_UnknownKey_KeyLimit => (refine' Gx.exm_of ?zza ?zzb ?zzc ?zzd; (case zza => k_is); (case zzb => k_is); (case zzc => k_is); (case zzd => k_is))
      case kt_UnknownKey_KeyLimit => (refine' Gx.kit_ne ?zza ?zzb ?zzc ?zzd; (case zza => exact rfl); (case zzb => k_is); (case zzc => k_is); (case zzd => k_is))
      case em_UnknownKey_UnknownKey => (refine' Gx.exm_of ?zza ?zzb ?zzc ?zzd; (case zza => k_is); (case zzb => k_is); (case zzc => k_is); (case zzd => k_is))
      case kt_UnknownKey_UnknownKey => exact Gx.kit_same
      case em_UnknownKey_BadChoice => (refine' Gx.exm_of ?zza ?zzb ?zzc ?zzd; (case zza => k_is); (case zzb => k_is); (case zzc => k_is); (case zzd => k_is))
      case kt_UnknownKey_BadChoice => (refine' Gx.kit_ne ?zza ?zzb ?zzc ?zzd; (case zza => exact rfl); (case zzb => k_is); (case zzc => k_is); (case zzd => k_is))
      case em_UnknownKey_Stalled => (refine' Gx.exm_of ?zza ?zzb ?zzc ?zzd; (case zza => k_is); (case zzb => k_is); (case zzc => k_is); (case zzd => k_is))
      case kt_UnknownKey_Stalled => (refine' Gx.kit_ne ?zza ?zzb ?zzc ?zzd; (case zza => exact rfl); (case zzb => k_is); (case zzc => k_is); (case zzd => k_is))
      case em_UnknownKey_ValueError => (refine' Gx.exm_tyB ?zza ?zzb ?zzd; (case zza => decide +kernel); (case zzb => k_is); (case zzd => k_is))
      case kt_UnknownKey_ValueError => (refine' Gx.kit_tyB ?zza ?zzd; (case zza => decide +kernel); (case zzd => k_is))
      case ns_UnknownKey => k_is
      case d_BadChoice => (refine' Gx.exd_mk (sx := "StoreError") KX G ?zzaS ?zza ?zzxL ?zzhbm ?zzsa ?zzexC ?zztyC ?zzkC ?zzmro ?zzh1 ?zzh2 ?zzhm ?zzhf ?zzsub' ?zzhn ?zzfl ?zzi1 ?zzi2 ?zzlf ?zzcf ?zzlc ?zzhv ?zzhfile ?zzlcc ?zzns ?zztop ?zzop; (case zzaS => k_is); (case zza => k_is); (case zzxL => k_is); (case zzsa => k_is); (case zzexC => k_is); (case zztyC => k_is); (case zzkC => k_is); (case zzmro => k_is); (case zzh1 => k_is); (case zzh2 => k_is); (case zzhbm => decide +kernel); (case zzhm => exact rfl); (case zzhf => k_is); (case zzhn => exact rfl); (case zzsub' => k_is); (case zzfl => k_is); (case zzi1 => k_is); (case zzi2 => k_is); (case zzlf => k_is); (case zzcf => k_is); (case zzlc => k_is); (case zzlcc => k_is); (case zzns => k_is); (case zzop => k_is); (case zzhv => exact rfl); (case zzhfile => exact rfl); (case zztop => exact rfl))
      case xf_BadChoice => (constructor <;> k_is)
      case xc_BadChoice => (constructor <;> k_is)
      case em_BadChoice_StoreError => (refine' Gx.exm_of ?zza ?zzb ?zzc ?zzd; (case zza => k_is); (case zzb => k_is); (case zzc => k_is); (case zzd => k_is))
      case kt_BadChoice_StoreError => (refine' Gx.kit_ne ?zza ?zzb ?zzc ?zzd; (case zza => exact rfl); (case zzb => k_is); (case zzc => k_is); (case zzd => k_is))
      case em_BadChoice_InvalidInput => (refine' Gx.exm_of ?zza ?zzb ?zzc ?zzd; (case zza => k_is); (case zzb => k_is); (case zzc => k_is); (case zzd => k_is))
      case kt_BadChoice_InvalidInput => (refine' Gx.kit_ne ?zza ?zzb ?zzc ?zzd; (case zza => exact rfl); (case zzb => k_is); (case zzc => k_is); (case zzd => k_is))
      case em_BadChoice_KeyLimit => (refine' Gx.exm_of ?zza ?zzb ?zzc ?zzd; (case zza => k_is); (case zzb => k_is); (case zzc => k_is); (case zzd => k_is))
      case kt_BadChoice_KeyLimit => (refine' Gx.kit_ne ?zza ?zzb ?zzc ?zzd; (case zza => exact rfl); (case zzb => k_is); (case zzc => k_is); (case zzd => k_is))
      case em_BadChoice_UnknownKey => (refine' Gx.exm_of ?zza ?zzb ?zzc ?zzd; (case zza => k_is); (case zzb => k_is); (case zzc => k_is); (case zzd => k_is))
      case kt_BadChoice_UnknownKey => (refine' Gx.kit_ne ?zza ?zzb ?zzc ?zzd; (case zza => exact rfl); (case zzb => k_is); (case zzc => k_is); (case zzd => k_is))
      case em_BadChoice_BadChoice => (refine' Gx.exm_of ?zza ?zzb ?zzc ?zzd; (case zza => k_is); (case zzb => k_is); (case zzc => k_is); (case zzd => k_is))
      case kt_BadChoice_BadChoice => exact Gx.kit_same
      case em_BadChoice_Stalled => (refine' Gx.exm_of ?zza ?zzb ?zzc ?zzd; (case zza => k_is); (case zzb => k_is); (case zzc => k_is); (case zzd => k_is))
      case kt_BadChoice_Stalled => (refine' Gx.kit_ne ?zza ?zzb ?zzc ?zzd; (case zza => exact rfl); (case zzb => k_is); (case zzc => k_is); (case zzd => k_is))
      case em_BadChoice_ValueError => (refine' Gx.exm_tyB ?zza ?zzb ?zzd; (case zza => decide +kernel); (case zzb => k_is); (case zzd => k_is))
      case kt_BadChoice_ValueError => (refine' Gx.kit_tyB ?zza ?zzd; (case zza => decide +kernel); (case zzd => k_is))
      case ns_BadChoice => k_is
      case d_Stalled => (refine' Gx.exd_mk (sx := "StoreError") KX G ?zzaS ?zza ?zzxL ?zzhbm ?zzsa ?zzexC ?zztyC ?zzkC ?zzmro ?zzh1 ?zzh2 ?zzhm ?zzhf ?zzsub' ?zzhn ?zzfl ?zzi1 ?zzi2 ?zzlf ?zzcf ?zzlc ?zzhv ?zzhfile ?zzlcc ?zzns ?zztop ?zzop; (case zzaS => k_is); (case zza => k_is); (case zzxL => k_is); (case zzsa => k_is); (case zzexC => k_is); (case zztyC => k_is); (case zzkC => k_is); (case zzmro => k_is); (case zzh1 => k_is); (case zzh2 => k_is); (case zzhbm => decide +kernel); (case zzhm => exact rfl); (case zzhf => k_is); (case zzhn => exact rfl); (case zzsub' => k_is); (case zzfl => k_is); (case zzi1 => k_is); (case zzi2 => k_is); (case zzlf => k_is); (case zzcf => k_is); (case zzlc => k_is); (case zzlcc => k_is); (case zzns => k_is); (case zzop => k_is); (case zzhv => exact rfl); (case zzhfile => exact rfl); (case zztop => exact rfl))
      case xf_Stalled => (constructor <;> k_is)
      case xc_Stalled => (constructor <;> k_is)
      case em_Stalled_StoreError => (refine' Gx.exm_of ?zza ?zzb ?zzc ?zzd; (case zza => k_is); (case zzb => k_is); (case zzc => k_is); (case zzd => k_is))
      case kt_Stalled_StoreError => (refine' Gx.kit_ne ?zza ?zzb ?zzc ?zzd; (case zza => exact rfl); (case zzb => k_is); (case zzc => k_is); (case zzd => k_is))
      case em_Stalled_InvalidInput => (refine' Gx.exm_of ?zza ?zzb ?zzc ?zzd; (case zza => k_is); (case zzb => k_is); (case zzc => k_is); (case zzd => k_is))
      case kt_Stalled_InvalidInput => (refine' Gx.kit_ne ?zza ?zzb ?zzc ?zzd; (case zza => exact rfl); (case zzb => k_is); (case zzc => k_is); (case zzd => k_is))
      case em_Stalled_KeyLimit => (refine' Gx.exm_of ?zza ?zzb ?zzc ?zzd; (case zza => k_is); (case zzb => k_is); (case zzc => k_is); (case zzd => k_is))
      case kt_Stalled_KeyLimit => (refine' Gx.kit_ne ?zza ?zzb ?zzc ?zzd; (case zza => exact rfl); (case zzb => k_is); (case zzc => k_is); (case zzd => k_is))
      case em_Stalled_UnknownKey => (refine' Gx.exm_of ?zza ?zzb ?zzc ?zzd; (case zza => k_is); (case zzb => k_is); (case zzc => k_is); (case zzd => k_is))
      case kt_Stalled_UnknownKey => (refine' Gx.kit_ne ?zza ?zzb ?zzc ?zzd; (case zza => exact rfl); (case zzb => k_is); (case zzc => k_is); (case zzd => k_is))
      case em_Stalled_BadChoice => (refine' Gx.exm_of ?zza ?zzb ?zzc ?zzd; (case zza => k_is); (case zzb => k_is); (case zzc => k_is); (case zzd => k_is))
      case kt_Stalled_BadChoice => (refine' Gx.kit_ne ?zza ?zzb ?zzc ?zzd; (case zza => exact rfl); (case zzb => k_is); (case zzc => k_is); (case zzd => k_is))
      case em_Stalled_Stalled => (refine' Gx.exm_of ?zza ?zzb ?zzc ?zzd; (case zza => k_is); (case zzb => k_is); (case zzc => k_is); (case zzd => k_is))
      case kt_Stalled_Stalled => exact Gx.kit_same
      case em_Stalled_ValueError => (refine' Gx.exm_tyB ?zza ?zzb ?zzd; (case zza => decide +kernel); (case zzb => k_is); (case zzd => k_is))
      case kt_Stalled_ValueError => (refine' Gx.kit_tyB ?zza ?zzd; (case zza => decide +kernel); (case zzd => k_is))
      case ns_Stalled => k_is
#print axioms PySem.Challenge.cw_carrylog_k12_whole_ring_tables_holds

