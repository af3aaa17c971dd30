import PyProof.Rows.All
import Wide.All
import OpenK.AllK
import Wide.FinOn
import HandS.ForMost
import HandS.ForExc
import HandS.Evl
import HandS.TupAny
import HandS.TupMul
import HandS.TryMany
import HandS.ExcField
import HandS.ExcInit
import HandS.Zip
import HandS.DictComp
import HandS.Defaults
import HandS.More
import HandS.SetKeys
import HandS.Deep
import HandS.Codes
import HandS.HeadHook2
import HandS.HeadEnd
import HandS.Head2
import KE.KEqSeq
import PySem.Challenge.RW_sameanswers_k44_any_block_is_read_so
set_option Elab.async false
set_option linter.all false
set_option maxRecDepth 100000
set_option maxHeartbeats 4000000
namespace Sa
open PySem PySem.Spec PyProof.Rows L2

/-! ## operators whatever the operands are -/
section
variable {X : Cx}
def orR (r r' : R2) : R2 := fun x y H Q => r x y H Q ∨ r' x y H Q
def rAddS : R2 := fun x y H Q => ∃ i j, x = .str i ∧ y = .str j ∧ i.length + j.length ≤ sizeLine ∧ Q (.str (i ++ j)) H
def rAddU (K : PySem.W.Frag) : R2 := orR (rI0 fun i j => .int (i + j)) (orR rAddS (orR rCat (rCatA K)))
theorem op_addU {K : PySem.W.Frag} (hK : X.K = K := by rfl) : OpR X (binaryOp .Add) (rAddU K) := hK ▸ op_add.or (op_add_str.or (op_cat.or op_catA))
def rMulU (K : PySem.W.Frag) : R2 := orR (rI CMul fun i j => .int (i * j)) (orR rRep (rRepT K))
theorem op_mulU {K : PySem.W.Frag} (hK : X.K = K := by rfl) : OpR X (binaryOp .Mult) (rMulU K) := hK ▸ op_mul.or (op_rep.or op_repT)
def rSubU : R2 := rI0 fun i j => .int (i - j)
theorem op_subU : OpR X (binaryOp .Sub) rSubU := op_sub
def rDivU : R2 := rI CDiv fun i j => .int (i / j)
theorem op_divU : OpR X (binaryOp .FloorDiv) rDivU := op_fdiv
def rModU : R2 := rI (fun _ j => 0 < j) fun i j => .int (i % j)
theorem op_modU : OpR X (binaryOp .Mod) rModU := op_mod
def rBandU : R2 := rI0 fun i j => .int (Builtin.bitAnd i j)
theorem op_bandU : OpR X (binaryOp .BitAnd) rBandU := op_and
def rOrdS (p : List Nat → List Nat → Bool) : R2 := fun x y H Q => ∃ i j, x = .str i ∧ y = .str j ∧ Q (.bl (p i.cps.toList j.cps.toList)) H
def rLtU : R2 := orR (rI0 fun i j => .bl (decide (i < j))) (rOrdS fun a b => decide (a < b))
def rLeU : R2 := orR (rI0 fun i j => .bl (decide (i ≤ j))) (rOrdS fun a b => !decide (b < a))
def rGtU : R2 := orR (rI0 fun i j => .bl (decide (j < i))) (rOrdS fun a b => decide (b < a))
def rGeU : R2 := orR (rI0 fun i j => .bl (decide (j ≤ i))) (rOrdS fun a b => !decide (a < b))
theorem op_ltU : OpR X (compareOp .Lt) rLtU := op_lt.or op_lt_str
theorem op_leU : OpR X (compareOp .LtE) rLeU := op_le.or op_le_str
theorem op_gtU : OpR X (compareOp .Gt) rGtU := op_gt.or op_gt_str
theorem op_geU : OpR X (compareOp .GtE) rGeU := op_ge.or op_ge_str
def rEqU (K : PySem.W.Frag) : R2 := orR rEq (rEqD K)
def rNeU (K : PySem.W.Frag) : R2 := orR rNe (rNeD K)
theorem op_eqU {K : PySem.W.Frag} {A : Around} (hu : A.units + 64 < cLine) (hA : X.A = A := by rfl) (hK : X.K = K := by rfl) : OpR X (compareOp .Eq) (rEqU K) := hK ▸ op_eq.or (op_eqD (by rw [hA]; exact hu))
theorem op_neU {K : PySem.W.Frag} {A : Around} (hu : A.units + 64 < cLine) (hA : X.A = A := by rfl) (hK : X.K = K := by rfl) : OpR X (compareOp .NotEq) (rNeU K) := hK ▸ op_ne.or (op_neD (by rw [hA]; exact hu))
def rIsU : R2 := fun x y H Q => y = .non ∧ Q (.bl (decide (x = .non))) H
def rIsNotU : R2 := fun x y H Q => y = .non ∧ Q (.bl (!decide (x = .non))) H
theorem op_isU : OpR X (compareOp .Is) rIsU := op_isN
theorem op_isNotU : OpR X (compareOp .IsNot) rIsNotU := op_notN
def rInC : R2 := fun x y H Q => ∃ (c : Nat) (z : Str), x = .str ⟨#[c]⟩ ∧ y = .str z ∧ Q (.bl (decide (c ∈ z.cps.toList))) H
def rInT : R2 := fun x y H Q => ∃ i j, x = .str i ∧ y = .str j ∧ Q (.bl (!(Builtin.Str.occurrences j i 0 j.length 1).isEmpty)) H
def rNotInC : R2 := fun x y H Q => ∃ (c : Nat) (z : Str), x = .str ⟨#[c]⟩ ∧ y = .str z ∧ Q (.bl (!decide (c ∈ z.cps.toList))) H
def rNotInT : R2 := fun x y H Q => ∃ i j, x = .str i ∧ y = .str j ∧ Q (.bl (!(!(Builtin.Str.occurrences j i 0 j.length 1).isEmpty))) H
def rInU (K : PySem.W.Frag) : R2 := orR rInC (orR rInT (rIn K false))
def rNotInU (K : PySem.W.Frag) : R2 := orR rNotInC (orR rNotInT (rIn K true))
theorem op_inU {K : PySem.W.Frag} (hK : X.K = K := by rfl) : OpR X (compareOp .In) (rInU K) := hK ▸ op_in_sign.or (op_in_str.or op_in_seq)
theorem op_notInU {K : PySem.W.Frag} (hK : X.K = K := by rfl) : OpR X (compareOp .NotIn) (rNotInU K) := hK ▸ op_notIn_sign.or (op_notin_str.or op_notIn_seq)
def rSlU (K : PySem.W.Frag) : V → Option Int → Option Int → Hp → VK → Prop := fun x lo hi H Q => rSlL K x lo hi H Q ∨ rSlS x lo hi H Q ∨ rSlA K x lo hi H Q
theorem ix_U {K : PySem.W.Frag} (hK : X.K = K := by rfl) : IxR X (rIx K) := hK ▸ ix_seq
theorem sl_U {K : PySem.W.Frag} (hK : X.K = K := by rfl) : SlR X (rSlU K) := hK ▸ L2.SlR.or sl_list (L2.SlR.or sl_str sl_tupA)
/-! any of whole numbers -/
def rAnyI (K : PySem.W.Frag) : List V → Hp → VK → Prop := fun vs H Q => ∃ (a : Addr) (ns : List Int), vs = [V.ref a] ∧ SqL K H a (ns.map V.int) ∧ Q (.bl (ns.any (· != 0))) H
theorem any_rangeI : ∀ ns : List Int, ((List.range ns.length).any fun i => ns.getD i 0 != 0) = ns.any (· != 0)
  | [] => rfl
  | n :: ns => by
    have ih := any_rangeI ns
    rw [List.length_cons, List.range_succ_eq_map, List.any_cons, List.any_map, List.any_cons, ← ih]
    rfl
theorem cr_anyI (hc : X.calm = true) : CallR X (.builtin "any") (rAnyI X.K) := by
  intro pins s σ H vs us Q I r h
  obtain ⟨a, ns, rfl, hs, q⟩ := h
  obtain ⟨its, rv, hl, _⟩ := I.list hs
  have hi := rv.ints
  have hlen : its.length = ns.length := by rw [← rv.length, List.length_map]
  rw [Vals.ref1 r]
  refine call_any_walk (iter_any hl.isList fun s₂ e2 st hne => ?_)
  cases e2
  refine ⟨_, _, _, _, _, _, fun i => ns.getD i 0 != 0, rfl, Walks.list (A := X.A.in1) (I.ok.hd hc) _ a hne its.toArray, st, fun i v s Q E hv hq => ?_, fun h' tk hk => ?_⟩
  · have hv' : its[i]? = some v := by simpa using hv
    obtain ⟨n, hn⟩ : ∃ n, ns[i]? = some n := by
      have hlt := (List.getElem?_eq_some_iff.mp hv').1
      exact ⟨ns[i]'(by omega), List.getElem?_eq_getElem (by omega)⟩
    obtain ⟨u, hu, ru⟩ := rv.get (i := i) (x := V.int n) (by rw [List.getElem?_map, hn]; rfl)
    rw [hv'] at hu
    cases hu
    obtain ⟨t, rfl⟩ := ru
    have e : ns.getD i 0 = n := by rw [List.getD_eq_getElem?_getD, hn]; rfl
    have hq' : Q (ns.getD i 0 != 0) s := hq
    rw [e] at hq'
    exact truthy_int hq'
  · refine ⟨.bl _, H, I.kept fun b o eo => hk b o (fun hmem => ?_) (Heap.get?_push_of_some _ eo), ?_, q⟩
    · rcases List.mem_cons.mp hmem with e1 | hmem
      · exact absurd (e1 ▸ Heap.lt_size eo) (Nat.lt_irrefl _)
      · cases hmem
    · show Value.bool _ = Value.bool _
      rw [List.size_toArray, hlen, any_rangeI]
def rAnyU (K : PySem.W.Frag) : List V → Hp → VK → Prop := fun vs H Q => rAny K vs H Q ∨ rAnyI K vs H Q
theorem CallR.or2 {f : Value} {r r' : List V → Hp → VK → Prop} (h : CallR X f r) (h' : CallR X f r') : CallR X f (fun vs H Q => r vs H Q ∨ r' vs H Q) := by
  intro pins s σ H vs us Q I rr q
  exact q.elim (fun q => h pins s σ H vs us Q I rr q) (fun q => h' pins s σ H vs us Q I rr q)
theorem cr_anyU {K : PySem.W.Frag} (hc : X.calm = true) (hK : X.K = K := by rfl) : CallR X (.builtin "any") (rAnyU K) := hK ▸ CallR.or2 (cr_any hc) (cr_anyI hc)
end
end Sa

namespace Sa
open PySem L2

/-! ## the text's facts -/
def dOf (x : Str) (st : Stmt) : He.DefD := ⟨(x, none), x, x, defArgs st, defBody st, defScope st, [], []⟩
def Tx (fa : List He.Fa) (fn : List He.DefD) (K : PySem.W.Frag) (mg : Str → Option Value) : Prop := ∃ h : Heap, K.In h ∧ h.Ns mainGlobals mg ∧ He.SaysD fa fn K
section
variable {fa : List He.Fa} {fn : List He.DefD} {K : PySem.W.Frag} {mg : Str → Option Value}
theorem Tx.free (T : Tx fa fn K mg) (i : Nat) {x : Str} (h : fa[i]? = some (.free x) := by rfl) : mg x = none := by
  obtain ⟨hp, X, G, c⟩ := T
  exact He.free_ok X G (c.fact i h)
theorem Tx.glo (T : Tx fa fn K mg) (i : Nat) {x : Str} (h : fa[i]? = some (.glo x) := by rfl) : mg x = some (.ref (He.ga K x)) := by
  obtain ⟨hp, X, G, c⟩ := T
  exact He.glo_ok X G (c.fact i h)
theorem Tx.int (T : Tx fa fn K mg) (i : Nat) {x : Str} {n : Int} (h : fa[i]? = some (.int x n) := by rfl) : ∃ t, mg x = some (.int n t) := by
  obtain ⟨hp, X, G, c⟩ := T
  exact He.int_ok X G (c.fact i h)
theorem Tx.str (T : Tx fa fn K mg) (i : Nat) {x z : Str} (h : fa[i]? = some (.str x z) := by rfl) : ∃ t, mg x = some (.str z t) := by
  obtain ⟨hp, X, G, c⟩ := T
  exact He.str_ok X G (c.fact i h)
end
/-- a def that stands under the module's name x and keeps sp -/
structure DefAt (P : Program) (w : World) (K : PySem.W.Frag) (mg : Str → Option Value) (base : Heap) (CX : CXT) (x : Str) (k : Nat) (ps : List Str) (sp : Sp) : Prop where
  gl : mg x = some (.ref (He.ga K x))
  kp : PySem.W.keepIn K (.ref (He.ga K x)) = true
  ok : ∃ fd, FnOk P w K mg base CX k (He.ga K x) fd ps sp ∧ Binds K fd ps []
/-- how a def without defaults binds its parameters -/
def BindN (x : Str) (st : Stmt) (ps : List Str) : Prop := ∀ (kV doc pm : Value) (an : Option Addr) (cdv ct : Value) (us : List Value), us.length = ps.length →
  bindArgs (PySem.W.fnOf x x (defArgs st) (defBody st) (defScope st) .none kV doc pm an cdv ct) ⟨us, []⟩ = pure (ps.zip us)
section
variable {fa : List He.Fa} {fn : List He.DefD} {P : Program} {w : World} {K : PySem.W.Frag} {mg : Str → Option Value} {base : Heap}
/-- what a body owes -/
def Body (P : Program) (w : World) (K : PySem.W.Frag) (mg : Str → Option Value) (base : Heap) (x : Str) (st : Stmt) (N : List Str) (k : Nat) (sp : Sp) : Prop :=
  ∀ (cdv : Value) (A : Around) (outer : List Env) (s : Shared) (H : Hp) (vs : List V) (Q : VK) (E : XK), sp vs H Q E → let X : Cx := (cxOf CX0 P w K mg base N x (defScope st) (He.ga K x) cdv A outer s H E).nox
    Room k X.A → ∃ t, PSs X (defBody st) t ∧ t { nx := fun _ H' => Q .non H', rt := Q } (start N vs) H
theorem def_of (T : Tx fa fn K mg) (i j : Nat) {x : Str} {st : Stmt} {N ps : List Str} {k : Nat} {sp : Sp} (S : FnScope N ps (defScope st)) (B : BindN x st ps) (len : ∀ vs H Q E, sp vs H Q E → vs.length = ps.length)
    (body : Body P w K mg base x st N k sp) (hd : fn[i]? = some (dOf x st) := by rfl) (hg : fa[j]? = some (.glo x) := by rfl) : DefAt P w K mg base CX0 x (k + 1) ps sp := by
  have gl := T.glo j hg
  obtain ⟨hp, X, G, c⟩ := T
  obtain ⟨fd, F⟩ := c.def_ i hd
  refine ⟨gl, F.kp, fd, F.ok S len fun cdv A outer s H vs Q E hr h => ?_, F.bindsN B⟩
  obtain ⟨t, h1, h2⟩ := body cdv A outer s H vs Q E h hr
  exact ⟨t, h1.nox, h2⟩
end
/-- the law's own def, for the end -/
theorem law_of {fa : List He.Fa} {fn : List He.DefD} {P : Program} {w : World} {K : PySem.W.Frag} {mg : Str → Option Value} {h : Heap} {f : Addr} {N : List Str} {x : Str} {st : Stmt} {k : Nat} {sp : Sp} (KX : K.In h) (G : h.Ns mainGlobals mg) (c : He.SaysD fa fn K)
    (hf : mg "law" = some (.ref f)) (i j : Nat) (S : FnScope N [x] (defScope st)) (B : BindN "law" st [x]) (len : ∀ vs H Q E, sp vs H Q E → vs.length = 1) (body : ∀ base, Body P w K mg base "law" st N k sp)
    (hd : fn[i]? = some (dOf "law" st) := by rfl) (hg : fa[j]? = some (.glo "law") := by rfl) :
    ∃ fd : FuncData, (∀ (s : Shared) (v : Value), BindsTo s fd ⟨[v], []⟩ [(x, v)]) ∧ ∀ base : Heap, K.In base → base.Ns mainGlobals mg → FnOk P w K mg base CX0 (k + 1) f fd [x] sp := by
  obtain ⟨fd, F⟩ := c.def_ i hd
  have gl := He.glo_ok KX G (c.fact j hg)
  cases hf.symm.trans gl
  have b := F.bindsA (ps := [x]) B
  refine ⟨fd, fun s v => b s [v] rfl, fun base _ _ => F.ok S len fun cdv A outer s H vs Q E hr h => ?_⟩
  obtain ⟨t, h1, h2⟩ := body base cdv A outer s H vs Q E h hr
  exact ⟨t, h1.nox, h2⟩
theorem DefAt.up {P : Program} {w : World} {K : PySem.W.Frag} {mg : Str → Option Value} {base : Heap} {CX : CXT} {x : Str} {j k : Nat} {ps : List Str} {sp : Sp} (D : DefAt P w K mg base CX x j ps sp) (h : j ≤ k) : DefAt P w K mg base CX x k ps sp :=
  ⟨D.gl, D.kp, let ⟨fd, F, B⟩ := D.ok; ⟨fd, F.mono h, B⟩⟩
section
variable {X : Cx} {CX : CXT} {x : Str} {k j : Nat} {ps : List Str} {sp : Sp} {E : XK} {p pos : Pos} {e : Expr} {es : List Expr} {t : TA}
def tCallA (sp : Sp) (E : XK) (t : TA) : TE := fun σ H Q => t σ H fun vs H1 => sp vs H1 Q E
theorem pe_callA (D : DefAt X.prog X.w X.K X.mg X.base CX x j ps sp) (hr : Room k X.A) (hx : Passes CX X E) (ha : PA X (e :: es) t) (hjk : j ≤ k := by decide) (hg : Gl X x := by rfl)
    (hdb : (x == ("__debug__" : Str)) = false := by decide) (he : starEach (e :: es) X.env = (false, eval e X.env) :: starEach es X.env := by rfl) (hpl : (backTo pos (starEach es X.env)).any (·.1) = false := by rfl) :
    PE X (.Call (.Name x p) (e :: es) [] pos) (tCallA sp E t) := by
  obtain ⟨fd, F, B⟩ := D.ok
  have h := pe_call (F.mono hjk) hr hg D.gl D.kp B .nil hx ha hdb he hpl (p := p)
  have e : tCall sp [] E t = tCallA sp E t := by
    funext σ H Q
    unfold tCall tCallA
    simp only [List.append_nil]
  rw [← e]
  exact h
theorem pe_gInt {i : Int} (hm : ∃ t, X.mg x = some (.int i t)) (hg : Gl X x := by rfl) (hd : (x == ("__debug__" : Str)) = false := by decide) : PE X (.Name x pos) (tC (.int i)) :=
  let ⟨t, h⟩ := hm; pe_glob hg h ⟨t, rfl⟩ hd
theorem pe_gStr {z : Str} (hm : ∃ t, X.mg x = some (.str z t)) (hg : Gl X x := by rfl) (hd : (x == ("__debug__" : Str)) = false := by decide) : PE X (.Name x pos) (tC (.str z)) :=
  let ⟨t, h⟩ := hm; pe_glob hg h ⟨t, rfl⟩ hd
end

/-! ## readings, one step at a time -/
/-- a new object o at p: all else is as it was -/
structure New (H : Hp) (p : Addr) (o : HO) (H' : Hp) : Prop where
  fr : H p = none
  eq : H' = upd H p o
section
variable {K : PySem.W.Frag} {σ : St} {H : Hp} {D : Ends} {Q : VK} {i j : Int} {n : Nat} {v x y : V} {te ta tb tc : TE} {t u : TS} {g : TG} {tt tA tB1 : TT} {r r' : R2} {a b p : Addr} {xs ys : List V} {s z : Str}
theorem c_seq (h : t { D with nx := u D } σ H) : tSeq t u D σ H := h
theorem c_next (h : D.nx σ H) : tNext D σ H := h
theorem c_ret (h : te σ H D.rt) : tRet te D σ H := h
theorem c_retN (h : D.rt .non H) : tRetN D σ H := h
theorem c_asg (h : te σ H fun x H1 => g x σ H1 D.nx) : tAsg te g D σ H := h
theorem c_gName {R : St → Hp → Prop} (h : R (σ.set n (some v)) H) : gName n v σ H R := h
theorem c_drop (h : te σ H fun _ H1 => D.nx σ H1) : tDrop te D σ H := h
theorem c_ifs (h : tt σ H fun b H1 => if b = true then t D σ H1 else u D σ H1) : tIfS tt t u D σ H := h
theorem c_var (e : σ[n]? = some (some v)) (q : Q v H) : tVar n σ H Q := ⟨v, e, q⟩
theorem c_c (q : Q v H) : tC v σ H Q := q
theorem c_op (h : ta σ H fun x H1 => tb σ H1 fun y H2 => r x y H2 Q) : tOp r ta tb σ H Q := h
theorem c_chain (h : ta σ H fun x H1 => tb σ H1 fun y H2 => r x y H2 fun z H3 => ∃ k, z = .bl k ∧ (if k = true then tc σ H3 fun w' H4 => r' y w' H4 Q else Q (.bl false) H3)) : tChain r r' ta tb tc σ H Q := h
theorem c_test {R : Bool → Hp → Prop} (h : te σ H fun x H1 => ∃ k, x = .bl k ∧ R k H1) : tTest te σ H R := h
theorem c_tB {R : Bool → Hp → Prop} (h : te σ H fun x H1 => ∃ k, x = .bl k ∧ R k H1) : tB te σ H R := h
theorem c_not {R : Bool → Hp → Prop} (h : tt σ H fun c H1 => R (!c) H1) : tNot tt σ H R := h
theorem c_and {R : Bool → Hp → Prop} (h : tA σ H fun c H1 => if c = true then tB1 σ H1 R else R false H1) : tAnd tA tB1 σ H R := h
theorem c_or {R : Bool → Hp → Prop} (h : tA σ H fun c H1 => if c = true then R true H1 else tB1 σ H1 R) : tOr tA tB1 σ H R := h
theorem c_andV (h : ta σ H fun x H1 => ∃ c, x = .bl c ∧ if c = true then tb σ H1 Q else Q (.bl false) H1) : tAndV ta tb σ H Q := h
theorem c_orV (h : ta σ H fun x H1 => ∃ c, x = .bl c ∧ if c = true then Q (.bl true) H1 else tb σ H1 Q) : tOrV ta tb σ H Q := h
theorem c_notV (h : ta σ H fun x H1 => ∃ c, x = .bl c ∧ Q (.bl (!c)) H1) : tNotV ta σ H Q := h
theorem c_if (h : tt σ H fun c H1 => if c = true then ta σ H1 Q else tb σ H1 Q) : tIf tt ta tb σ H Q := h
theorem c_nil {R : List V → Hp → Prop} (h : R [] H) : tNil σ H R := h
theorem c_cons {tr : TA} {R : List V → Hp → Prop} (h : te σ H fun x H1 => tr σ H1 fun xs H2 => R (x :: xs) H2) : tCons te tr σ H R := h
theorem c_call {sp : Sp} {E : XK} {tr : TA} (h : tr σ H fun vs H1 => sp vs H1 Q E) : tCallA sp E tr σ H Q := h
theorem c_cb {rr : List V → Hp → VK → Prop} {tr : TA} (h : tr σ H fun vs H1 => rr vs H1 Q) : tCB rr tr σ H Q := h
def Ret (Q : VK) (v : V) (H : Hp) : Prop := Q v H
theorem c_nw {A : Prop} {o : HO} (hl : A) (h : ∀ p H', New H p o H' → Q (.ref p) H') : A ∧ ∀ p, H p = none → Ret Q (.ref p) (upd H p o) := ⟨hl, fun p hp => h p _ ⟨hp, rfl⟩⟩
theorem c_tup {tr : TA} (h : tr σ H fun xs H1 => xs.length ≤ sizeLine ∧ ∀ p, H1 p = none → Ret Q (.ref p) (upd H1 p (.tup xs))) : tTup tr σ H Q := h
theorem c_lst {tr : TA} (h : tr σ H fun xs H1 => xs.length ≤ sizeLine ∧ ∀ p, H1 p = none → Ret Q (.ref p) (upd H1 p (.lst xs))) : tLst tr σ H Q := h
theorem c_sl {rr : V → Option Int → Option Int → Hp → VK → Prop} {tl th : TO} (h : te σ H fun x H1 => tl σ H1 fun l H2 => th σ H2 fun u H3 => rr x l u H3 Q) : tSl rr te tl th σ H Q := h
theorem c_noPart {R : Option Int → Hp → Prop} (h : R none H) : tNoPart σ H R := h
theorem c_part {R : Option Int → Hp → Prop} (h : te σ H fun x H1 => ∃ i, x = .int i ∧ R (some i) H1) : tPart te σ H R := h
theorem c_bm {T : String} {rr : V → List V → Hp → VK → Prop} {tr : TA} (h : te σ H fun x H1 => tyV K T x H1 ∧ tr σ H1 fun xs H2 => rr x xs H2 Q) : tBM K T rr te tr σ H Q := h
theorem c_bm0 {T : String} {rr : V → List V → Hp → VK → Prop} (h : te σ H fun x H1 => tyV K T x H1 ∧ rr x [] H1 Q) : tBM0 K T rr te σ H Q := h
/-! answers of operators -/
theorem c_bl {b : Bool} {R : Bool → Prop} (h : R b) : ∃ k, V.bl b = V.bl k ∧ R k := ⟨b, rfl, h⟩
theorem c_int {R : Int → Prop} (h : R i) : ∃ k, V.int i = V.int k ∧ R k := ⟨i, rfl, h⟩
theorem c_addI (q : Q (.int (i + j)) H) : rAddU K (.int i) (.int j) H Q := .inl ⟨i, j, rfl, rfl, q⟩
theorem c_addS (hl : s.length + z.length ≤ sizeLine) (q : Q (.str (s ++ z)) H) : rAddU K (.str s) (.str z) H Q := .inr (.inl ⟨s, z, rfl, rfl, hl, q⟩)
theorem c_addL (ha : H a = some (.lst xs)) (hb : H b = some (.lst ys)) (hl : xs.length + ys.length ≤ sizeLine) (q : ∀ p H', New H p (.lst (xs ++ ys)) H' → Q (.ref p) H') : rAddU K (.ref a) (.ref b) H Q :=
  .inr (.inr (.inl ⟨a, b, xs, ys, rfl, rfl, ha, hb, hl, fun p hp => q p _ ⟨hp, rfl⟩⟩))
theorem c_subI (q : Q (.int (i - j)) H) : rSubU (.int i) (.int j) H Q := ⟨i, j, rfl, rfl, q⟩
theorem c_mulI (hc : (-(2 ^ 64) < i ∧ i < 2 ^ 64) ∨ (-(2 ^ 64) < j ∧ j < 2 ^ 64)) (q : Q (.int (i * j)) H) : rMulU K (.int i) (.int j) H Q := .inl ⟨i, j, rfl, rfl, hc, q⟩
theorem c_mulL (ha : H a = some (.lst xs)) (h0 : -(2 ^ 63) ≤ j) (h1 : j < 2 ^ 63) (hl : xs.length * j.toNat ≤ sizeLine) (q : ∀ p H', New H p (.lst (List.replicate j.toNat xs).flatten) H' → Q (.ref p) H') : rMulU K (.ref a) (.int j) H Q :=
  .inr (.inl ⟨a, j, xs, rfl, rfl, ha, h0, h1, hl, fun p hp => q p _ ⟨hp, rfl⟩⟩)
theorem c_divI (hc : 0 < j ∧ j < 1073741824) (q : Q (.int (i / j)) H) : rDivU (.int i) (.int j) H Q := ⟨i, j, rfl, rfl, hc, q⟩
theorem c_modI (hc : 0 < j) (q : Q (.int (i % j)) H) : rModU (.int i) (.int j) H Q := ⟨i, j, rfl, rfl, hc, q⟩
theorem c_bandI (q : Q (.int (Builtin.bitAnd i j)) H) : rBandU (.int i) (.int j) H Q := ⟨i, j, rfl, rfl, q⟩
theorem c_ltI (q : Q (.bl (decide (i < j))) H) : rLtU (.int i) (.int j) H Q := .inl ⟨i, j, rfl, rfl, q⟩
theorem c_leI (q : Q (.bl (decide (i ≤ j))) H) : rLeU (.int i) (.int j) H Q := .inl ⟨i, j, rfl, rfl, q⟩
theorem c_gtI (q : Q (.bl (decide (j < i))) H) : rGtU (.int i) (.int j) H Q := .inl ⟨i, j, rfl, rfl, q⟩
theorem c_geI (q : Q (.bl (decide (j ≤ i))) H) : rGeU (.int i) (.int j) H Q := .inl ⟨i, j, rfl, rfl, q⟩
theorem dI : decide (V.int i = V.int j) = decide (i = j) := by rw [dec_int]; exact Bool.beq_eq_decide_eq _ _
theorem dS : decide (V.str s = V.str z) = decide (s = z) := by rw [dec_str]; exact Bool.beq_eq_decide_eq _ _
theorem c_eqI (q : Q (.bl (decide (i = j))) H) : rEqU K (.int i) (.int j) H Q := .inl ⟨rfl, by rw [dI]; exact q⟩
theorem c_neI (q : Q (.bl (!decide (i = j))) H) : rNeU K (.int i) (.int j) H Q := .inl ⟨rfl, by rw [dI]; exact q⟩
theorem c_eqS (q : Q (.bl (decide (s = z))) H) : rEqU K (.str s) (.str z) H Q := .inl ⟨rfl, by rw [dS]; exact q⟩
theorem c_neS (q : Q (.bl (!decide (s = z))) H) : rNeU K (.str s) (.str z) H Q := .inl ⟨rfl, by rw [dS]; exact q⟩
theorem c_eqB {b c : Bool} (q : Q (.bl (b == c)) H) : rEqU K (.bl b) (.bl c) H Q := .inl ⟨rfl, by rw [dec_bl]; exact q⟩
theorem c_neB {b c : Bool} (q : Q (.bl (b != c)) H) : rNeU K (.bl b) (.bl c) H Q := .inl ⟨rfl, by rw [dec_bl]; exact q⟩
theorem c_eqD {d e : PyData} (hx : Dp K H x d) (hy : Dp K H y e) (sd : SeqAt.shaped d = true) (se : SeqAt.shaped e = true) (q : Q (.bl (PyData.eqv d e)) H) : rEqU K x y H Q := .inr ⟨d, e, hx, hy, sd, se, q⟩
theorem c_neD {d e : PyData} (hx : Dp K H x d) (hy : Dp K H y e) (sd : SeqAt.shaped d = true) (se : SeqAt.shaped e = true) (q : Q (.bl (!PyData.eqv d e)) H) : rNeU K x y H Q := .inr ⟨d, e, hx, hy, sd, se, q⟩
theorem c_isN (q : Q (.bl (decide (x = .non))) H) : rIsU x .non H Q := ⟨rfl, q⟩
theorem c_notN (q : Q (.bl (!decide (x = .non))) H) : rIsNotU x .non H Q := ⟨rfl, q⟩
theorem c_inC {c : Nat} (q : Q (.bl (decide (c ∈ z.cps.toList))) H) : rInU K (.str ⟨#[c]⟩) (.str z) H Q := .inl ⟨c, z, rfl, rfl, q⟩
theorem c_notInC {c : Nat} (q : Q (.bl (!decide (c ∈ z.cps.toList))) H) : rNotInU K (.str ⟨#[c]⟩) (.str z) H Q := .inl ⟨c, z, rfl, rfl, q⟩
theorem c_ixL (h : SqL K H a xs) (e : atI xs i = some v) (q : Q v H) : rIx K (.ref a) (.int i) H Q := .inl ⟨a, xs, i, v, rfl, rfl, h, e, q⟩
theorem c_ixT (h : SqT K H a xs) (e : atI xs i = some v) (q : Q v H) : rIx K (.ref a) (.int i) H Q := .inr (.inl ⟨a, xs, i, v, rfl, rfl, h, e, q⟩)
theorem c_ixS {c : Nat} (h : z.length ≤ sizeLine) (e : atI z.cps.toList i = some c) (q : Q (.str ⟨#[c]⟩) H) : rIx K (.str z) (.int i) H Q := .inr (.inr ⟨z, i, c, rfl, rfl, h, e, q⟩)
theorem c_slL {lo hi : Option Int} (h : SqL K H a xs) (q : ∀ p H', New H p (.lst (cutV xs lo hi)) H' → Q (.ref p) H') : rSlU K (.ref a) lo hi H Q := .inl ⟨a, xs, rfl, h, fun p hp => q p _ ⟨hp, rfl⟩⟩
theorem c_slS {lo hi : Option Int} (h : z.length ≤ sizeLine) (q : Q (.str (cutS z lo hi)) H) : rSlU K (.str z) lo hi H Q := .inr (.inl ⟨z, rfl, h, q⟩)
theorem c_append {l : Addr} (h : H l = some (.lst xs)) (hl : xs.length < sizeLine) (q : Q .non (upd H l (.lst (xs ++ [y])))) : rAppend (.ref l) [y] H Q := ⟨l, xs, y, rfl, rfl, h, hl, q⟩
theorem c_tyL (h : SqL K H a xs) : tyV K "list" (.ref a) H := Or.inl ⟨rfl, _, h⟩
theorem c_tyA {B : Prop} (h : SqL K H a xs) (q : B) : tyV K "list" (.ref a) H ∧ B := ⟨c_tyL h, q⟩
theorem c_setL {l : Addr} {k : Nat} {R : Hp → Prop} (h : H l = some (.lst xs)) (e : ixN xs.length i = some k) (q : R (upd H l (.lst (xs.set k v)))) : rSetL (.ref l) (.int i) v H R := ⟨l, xs, i, k, rfl, rfl, h, e, q⟩
theorem c_gSub {to ti : TE} {ts : TSet} {R : St → Hp → Prop} (h : to σ H fun o H1 => ti σ H1 fun i H2 => ts o i v H2 fun H3 => R σ H3) : gSub to ti ts v σ H R := h
/-! tests of values -/
theorem c_truB {b : Bool} {R : Bool → Prop} (q : R b) : ∃ k, TruV K (.bl b) H k ∧ R k := ⟨b, rfl, q⟩
theorem c_truL {R : Bool → Prop} (h : SqL K H a xs) (q : R (!xs.isEmpty)) : ∃ k, TruV K (.ref a) H k ∧ R k := ⟨_, .inl ⟨xs, h, rfl⟩, q⟩
theorem c_truS {R : Bool → Prop} (h : s.length ≤ sizeLine) (q : R ((s.length : Int) != 0)) : ∃ k, TruV K (.str s) H k ∧ R k := ⟨_, ⟨h, rfl⟩, q⟩
/-! conditions -/
theorem c_ite {c : Prop} [Decidable c] {A B : Prop} (h1 : c → A) (h2 : ¬ c → B) : if decide c = true then A else B := by
  by_cases h : c
  · rw [decide_eq_true h, if_pos rfl]; exact h1 h
  · rw [decide_eq_false h, if_neg Bool.false_ne_true]; exact h2 h
theorem c_iteN {c : Prop} [Decidable c] {A B : Prop} (h1 : ¬ c → A) (h2 : c → B) : if (!decide c) = true then A else B := by
  by_cases h : c
  · rw [decide_eq_true h, Bool.not_true, if_neg Bool.false_ne_true]; exact h2 h
  · rw [decide_eq_false h, Bool.not_false, if_pos rfl]; exact h1 h
theorem c_iteT {b : Bool} {A B : Prop} (hb : b = true) (h : A) : if b = true then A else B := by rw [if_pos hb]; exact h
theorem c_iteF {b : Bool} {A B : Prop} (hb : b = false) (h : B) : if b = true then A else B := by rw [hb, if_neg Bool.false_ne_true]; exact h
theorem c_it1 {A B : Prop} (h : A) : if true = true then A else B := c_iteT rfl h
theorem c_it2 {A B : Prop} (h : B) : if false = true then A else B := c_iteF rfl h
theorem c_it3 {A B : Prop} (h : A) : if (!false) = true then A else B := c_iteT rfl h
theorem c_it4 {A B : Prop} (h : B) : if (!true) = true then A else B := c_iteF rfl h
theorem c_iteB {b : Bool} {A B : Prop} (h1 : b = true → A) (h2 : b = false → B) : if b = true then A else B := by
  cases b with
  | true => exact c_iteT rfl (h1 rfl)
  | false => exact c_iteF rfl (h2 rfl)
theorem c_iteNB {b : Bool} {A B : Prop} (h1 : b = false → A) (h2 : b = true → B) : if (!b) = true then A else B := by
  cases b with
  | true => exact c_iteF rfl (h2 rfl)
  | false => exact c_iteT rfl (h1 rfl)
end
end Sa

namespace Sa
open PySem L2

/-! ## built-ins by names of their readings -/
section
variable {X : Cx} {K : PySem.W.Frag} {H : Hp} {Q : VK} {i j : Int} {a : Addr} {xs : List V} {s z : Str}
def rLenU (K : PySem.W.Frag) : List V → Hp → VK → Prop := fun xs H Q => ∃ x n, xs = [x] ∧ LenV K x H n ∧ Q (.int n) H
theorem cr_len {K : PySem.W.Frag} (hK : X.K = K := by rfl) : CallR X (.builtin "len") (rLenU K) := hK ▸ call_len
theorem c_lenL (h : SqL K H a xs) (q : Q (.int xs.length) H) : rLenU K [.ref a] H Q := ⟨_, _, rfl, .inl ⟨xs, h, rfl⟩, q⟩
theorem c_lenT (h : SqT K H a xs) (q : Q (.int xs.length) H) : rLenU K [.ref a] H Q := ⟨_, _, rfl, .inr ⟨xs, h, rfl⟩, q⟩
theorem c_lenS (h : s.length ≤ sizeLine) (q : Q (.int s.length) H) : rLenU K [.str s] H Q := ⟨_, _, rfl, ⟨h, rfl⟩, q⟩
def rIntU : List V → Hp → VK → Prop := fun xs H Q => (∃ i, xs = [.int i] ∧ Q (.int i) H) ∨ ∃ k, xs = [.bl k] ∧ Q (.int (if k then 1 else 0)) H
theorem cr_int : CallR X (.type "int") rIntU := call_int1
theorem c_intI (q : Q (.int i) H) : rIntU [.int i] H Q := .inl ⟨i, rfl, q⟩
def rOrdU : List V → Hp → VK → Prop := fun xs H Q => ∃ x, xs = [.str x] ∧ x.length = 1 ∧ Q (.int (x.cps.getD 0 0 : Nat)) H
theorem cr_ord : CallR X (.builtin "ord") rOrdU := call_ord
theorem c_ord {c : Nat} (q : Q (.int c) H) : rOrdU [.str ⟨#[c]⟩] H Q := ⟨_, rfl, rfl, q⟩
def rMax2U : List V → Hp → VK → Prop := fun xs H Q => ∃ i j, xs = [.int i, .int j] ∧ Q (.int (if j > i then j else i)) H
def rMin2U : List V → Hp → VK → Prop := fun xs H Q => ∃ i j, xs = [.int i, .int j] ∧ Q (.int (if j < i then j else i)) H
theorem cr_max2 (hc : X.calm = true) : CallR X (.builtin "max") rMax2U := call_max2 hc
theorem cr_min2 (hc : X.calm = true) : CallR X (.builtin "min") rMin2U := call_min2 hc
theorem c_max2 (q : Q (.int (max i j)) H) : rMax2U [.int i, .int j] H Q := ⟨i, j, rfl, by
  have e : (if j > i then j else i) = max i j := by split <;> omega
  rw [e]; exact q⟩
theorem c_min2 (q : Q (.int (min i j)) H) : rMin2U [.int i, .int j] H Q := ⟨i, j, rfl, by
  have e : (if j < i then j else i) = min i j := by split <;> omega
  rw [e]; exact q⟩
def rListU (K : PySem.W.Frag) : List V → Hp → VK → Prop := fun xs H Q => ∃ p ys, xs = [.ref p] ∧ (SqL K H p ys ∨ SqT K H p ys) ∧ ∀ l, H l = none → Q (.ref l) (upd H l (.lst ys))
theorem cr_list {K : PySem.W.Frag} (hK : X.K = K := by rfl) : CallR X (.type "list") (rListU K) := hK ▸ call_list_of
theorem c_listL (h : SqL K H a xs) (q : ∀ l H', New H l (.lst xs) H' → Q (.ref l) H') : rListU K [.ref a] H Q := ⟨a, xs, rfl, .inl h, fun p hp => q p _ ⟨hp, rfl⟩⟩
theorem c_listT (h : SqT K H a xs) (q : ∀ l H', New H l (.lst xs) H' → Q (.ref l) H') : rListU K [.ref a] H Q := ⟨a, xs, rfl, .inr h, fun p hp => q p _ ⟨hp, rfl⟩⟩
def rTupU (K : PySem.W.Frag) : List V → Hp → VK → Prop := fun xs H Q => ∃ p ys, xs = [.ref p] ∧ ((SqL K H p ys ∧ ∀ l, H l = none → Q (.ref l) (upd H l (.tup ys))) ∨ (SqT K H p ys ∧ Q (.ref p) H))
theorem cr_tuple {K : PySem.W.Frag} (hK : X.K = K := by rfl) : CallR X (.type "tuple") (rTupU K) := hK ▸ call_tuple_of
theorem c_tupleL (h : SqL K H a xs) (q : ∀ l H', New H l (.tup xs) H' → Q (.ref l) H') : rTupU K [.ref a] H Q := ⟨a, xs, rfl, .inl ⟨h, fun p hp => q p _ ⟨hp, rfl⟩⟩⟩
theorem c_tupleT (h : SqT K H a xs) (q : Q (.ref a) H) : rTupU K [.ref a] H Q := ⟨a, xs, rfl, .inr ⟨h, q⟩⟩
theorem c_anyI {ns : List Int} (h : SqL K H a (ns.map V.int)) (q : Q (.bl (ns.any (· != 0))) H) : rAnyU K [.ref a] H Q := .inr ⟨a, ns, rfl, h, q⟩
theorem c_anyB {bs : List Bool} (h : SqL K H a (bs.map V.bl)) (q : Q (.bl (bs.any id)) H) : rAnyU K [.ref a] H Q := .inl ⟨a, bs, rfl, h, q⟩
def rAllU (K : PySem.W.Frag) : List V → Hp → VK → Prop := rAll K
theorem cr_allU {K : PySem.W.Frag} (hc : X.calm = true) (hK : X.K = K := by rfl) : CallR X (.builtin "all") (rAllU K) := hK ▸ cr_all hc
theorem c_allB {bs : List Bool} (h : SqL K H a (bs.map V.bl)) (q : Q (.bl (bs.all id)) H) : rAllU K [.ref a] H Q := ⟨a, bs, rfl, h, q⟩
end
section
variable {X : Cx} {K : PySem.W.Frag} {σ : St} {H : Hp} {Q : VK} {a : Addr} {s z : Str} {ys : List Str} {to te : TE} {o e : Expr}
/-- a text's method of one argument -/
def tM1U (r : V → List V → Hp → VK → Prop) (to te : TE) : TE := fun σ H Q => to σ H fun x H1 => (∃ a, x = .str a) ∧ te σ H1 fun y H2 => r x [y] H2 Q
theorem c_m1 {r : V → List V → Hp → VK → Prop} (h : to σ H fun x H1 => (∃ a, x = .str a) ∧ te σ H1 fun y H2 => r x [y] H2 Q) : tM1 r to te σ H Q := h
theorem c_isStr {A : Prop} (h : A) : (∃ b, V.str s = V.str b) ∧ A := ⟨⟨s, rfl⟩, h⟩
def rJoin (K : PySem.W.Frag) : V → List V → Hp → VK → Prop := fun x xs H Q => ∃ a p, ∃ ys : List Str, x = .str a ∧ xs = [.ref p] ∧ (SqL K H p (ys.map V.str) ∨ SqT K H p (ys.map V.str)) ∧
  (ys.map (·.length)).sum + ys.length * a.length ≤ 16777216 ∧ Q (.str (Txt.join a ys)) H
theorem pe_joinU {K : PySem.W.Frag} {apos pos : Pos} (ho : PE X o to) (he : PE X e te) (hK : X.K = K := by rfl) (hs : starEach [e] X.env = [(false, eval e X.env)] := by rfl) (hbase : attributeBase o "join" X.env (eval o X.env) = eval o X.env := by rfl) (hline : (apos.endLine == pos.line) = true := by rfl) :
    PE X (.Call (.Attribute o "join" apos) [e] [] pos) (tM1 (rJoin K) to te) := hK ▸ pe_join ho he hs hbase hline
theorem c_join (h : SqL K H a (ys.map V.str)) (hl : (ys.map (·.length)).sum + ys.length * s.length ≤ 16777216) (q : Q (.str (Txt.join s ys)) H) : rJoin K (.str s) [.ref a] H Q := ⟨s, a, ys, rfl, rfl, .inl h, hl, q⟩
end

/-! ## rules that name the written part -/
section
variable {X : Cx} {K : PySem.W.Frag} {e o : Expr} {es : List Expr} {te to ta : TE} {tr : TA} {tg : Expr} {x : Str}
theorem pt_tru {a : Expr} (ha : PE X a ta) (hK : X.K = K := by rfl) (he : ∀ whole, isTrue a X.env whole = (do let v ← whole; standAt a.pos; holding [v] (truthy v)) := by intro _; rfl) :
    PT X a (fun σ H Q => ta σ H fun x H' => ∃ k, TruV K x H' k ∧ Q k H') := hK ▸ pt_truth ha he
theorem pi_listU (hl : PE X e te) (hK : X.K = K := by rfl) : PI X tg e (iList K te) := hK ▸ pi_list hl
theorem pi_tupU (hl : PE X e te) (hK : X.K = K := by rfl) : PI X tg e (iTup K te) := hK ▸ pi_tup hl
theorem pg_tupU {pos : Pos} {k n : Nat} {t : TGs} (hc : X.calm = true) (h : PGs X es t) (hK : X.K = K := by rfl) (hn : (assignEach es X.env).length = n := by rfl) (hst : (assignEach es X.env).findIdx? (·.1) = none := by rfl) : PG X (.Tuple es k pos) (gTup K n t) := hK ▸ pg_tup hc h hn hst
theorem pg_lstU {pos : Pos} {k n : Nat} {t : TGs} (hc : X.calm = true) (h : PGs X es t) (hK : X.K = K := by rfl) (hn : (assignEach es X.env).length = n := by rfl) (hst : (assignEach es X.env).findIdx? (·.1) = none := by rfl) : PG X (.Tuple es k pos) (gLst K n t) := hK ▸ pg_lst hc h hn hst
theorem pe_appendU {apos cpos : Pos} (ho : PE X o to) (he : PE X e te) (hK : X.K = K := by rfl) (hbase : attributeBase o "append" X.env (eval o X.env) = eval o X.env := by rfl)
    (hfew : ((backTo cpos (starEach [e] X.env)).all (fun x => !x.1) && (backToKw cpos (keywordEach [] X.env)).all (fun x => x.1.isSome)
      && decide (([e] : List Expr).length + ([] : List Keyword).length + (if ([] : List Keyword).isEmpty then 0 else 1) < 30)) = true := by rfl)
    (hline : (apos.endLine == cpos.line) = true := by rfl) (hs : starEach [e] X.env = (false, eval e X.env) :: starEach [] X.env := by rfl) (hplain : (backTo cpos (starEach [] X.env)).any (·.1) = false := by rfl) :
    PE X (.Call (.Attribute o "append" apos) [e] [] cpos) (tBM K "list" rAppend to (tCons te tNil)) :=
  hK ▸ pe_bm PySem.F.plainAttrs_list PySem.F.slot_list_append PySem.F.type_list_append mt_append ho (pa_cons he pa_nil hs) hbase hfew hline hs hplain
theorem pe_extendU {apos cpos : Pos} (ho : PE X o to) (he : PE X e te) (hK : X.K = K := by rfl) (hbase : attributeBase o "extend" X.env (eval o X.env) = eval o X.env := by rfl)
    (hfew : ((backTo cpos (starEach [e] X.env)).all (fun x => !x.1) && (backToKw cpos (keywordEach [] X.env)).all (fun x => x.1.isSome)
      && decide (([e] : List Expr).length + ([] : List Keyword).length + (if ([] : List Keyword).isEmpty then 0 else 1) < 30)) = true := by rfl)
    (hline : (apos.endLine == cpos.line) = true := by rfl) (hs : starEach [e] X.env = (false, eval e X.env) :: starEach [] X.env := by rfl) (hplain : (backTo cpos (starEach [] X.env)).any (·.1) = false := by rfl) :
    PE X (.Call (.Attribute o "extend" apos) [e] [] cpos) (tBM K "list" rExtend to (tCons te tNil)) :=
  hK ▸ pe_bm PySem.F.plainAttrs_list PySem.F.slot_list_extend PySem.F.type_list_extend mt_extend ho (pa_cons he pa_nil hs) hbase hfew hline hs hplain
end

/-! ## what is kept of a heap -/
/-- all that was tracked is kept, but for the objects at ms -/
def Kp (ms : List Addr) (H H' : Hp) : Prop := ∀ a o, a ∉ ms → H a = some o → H' a = some o
section
variable {K : PySem.W.Frag} {H H1 H2 : Hp} {a b p : Addr} {o u : HO} {ms ns : List Addr} {xs : List V}
theorem Kp.refl : Kp ms H H := fun _ _ _ h => h
theorem Kp.trans (e : Kp ms H H1) (f : Kp ms H1 H2) : Kp ms H H2 := fun a o n h => f a o n (e a o n h)
theorem Kp.mono (e : Kp [] H H1) : Kp ms H H1 := fun a o _ h => e a o (by simp) h
theorem Kp.new (hp : H p = none) : Kp ms H (upd H p o) := fun a u _ h => by rw [upd_ne (ne_of_none h hp)]; exact h
theorem Kp.mut (hp : p ∈ ms) : Kp ms H (upd H p o) := fun a u n h => by rw [upd_ne (fun e : a = p => n (by rw [e]; exact hp))]; exact h
theorem Kp.at0 (e : Kp [] H H1) (h : H a = some o) : H1 a = some o := e a o (by simp) h
theorem Kp.at1 (e : Kp [b] H H1) (n : a ≠ b) (h : H a = some o) : H1 a = some o := e a o (by simpa using n) h
/-- an object that H did not know may change -/
theorem Kp.fresh_mut (e : Kp ms H H1) (hp : H p = none) : Kp ms H (upd H1 p o) := fun a u n h => by rw [upd_ne (ne_of_none h hp)]; exact e a u n h
theorem Kp.drop_fresh (e : Kp (p :: ms) H H1) (hp : H p = none) : Kp ms H H1 := fun a u n h => e a u (by simp only [List.mem_cons, not_or]; exact ⟨ne_of_none h hp, n⟩) h
theorem upd_new (hp : H p = none) (h : H a = some o) : upd H p u a = some o := by rw [upd_ne (ne_of_none h hp)]; exact h
theorem upd_other (n : a ≠ p) (h : H a = some o) : upd H p u a = some o := by rw [upd_ne n]; exact h
theorem upd_free (n : a ≠ p) (h : H a = none) : upd H p u a = none := by rw [upd_ne n]; exact h
theorem free0 (e : Kp [] H H1) (h : H1 a = none) : H a = none := by
  cases q : H a with
  | none => rfl
  | some o => rw [e.at0 q] at h; cases h
theorem free1 (e : Kp [b] H H1) (n : a ≠ b) (h : H1 a = none) : H a = none := by
  cases q : H a with
  | none => rfl
  | some o => rw [e.at1 n q] at h; cases h
theorem free_upd (h : upd H p u a = none) : H a = none := by
  by_cases e : a = p
  · subst e; rw [upd_same] at h; cases h
  · rw [upd_ne e] at h; exact h
theorem rd_at (e : ∀ o, H a = some o → H1 a = some o) (h : Rd H a u) : Rd H1 a u := by
  rcases h with h | ⟨o, h⟩
  · exact .inl (e _ h)
  · exact .inr ⟨o, e _ h⟩
theorem SqL.at (e : ∀ o, H a = some o → H1 a = some o) (h : SqL K H a xs) : SqL K H1 a xs := h.elim (fun h => .inl (rd_at e h)) .inr
theorem SqT.at (e : ∀ o, H a = some o → H1 a = some o) (h : SqT K H a xs) : SqT K H1 a xs := h.elim (fun h => .inl (rd_at e h)) .inr
theorem SqL.kp (e : Kp [] H H1) (h : SqL K H a xs) : SqL K H1 a xs := SqL.at (fun _ => e.at0) h
theorem SqT.kp (e : Kp [] H H1) (h : SqT K H a xs) : SqT K H1 a xs := SqT.at (fun _ => e.at0) h
theorem SqL.kp1 (e : Kp [b] H H1) (n : a ≠ b) (h : SqL K H a xs) : SqL K H1 a xs := SqL.at (fun _ => e.at1 n) h
theorem SqT.kp1 (e : Kp [b] H H1) (n : a ≠ b) (h : SqT K H a xs) : SqT K H1 a xs := SqT.at (fun _ => e.at1 n) h
theorem SqL.new (hp : H p = none) (h : SqL K H a xs) : SqL K (upd H p u) a xs := SqL.at (fun _ => upd_new hp) h
theorem SqT.new (hp : H p = none) (h : SqT K H a xs) : SqT K (upd H p u) a xs := SqT.at (fun _ => upd_new hp) h
theorem SqL.other (n : a ≠ p) (h : SqL K H a xs) : SqL K (upd H p u) a xs := SqL.at (fun _ => upd_other n) h
theorem SqT.other (n : a ≠ p) (h : SqT K H a xs) : SqT K (upd H p u) a xs := SqT.at (fun _ => upd_other n) h
theorem New.kp (N : New H p o H1) : Kp ms H H1 := by rw [N.eq]; exact Kp.new N.fr
theorem New.at_ (N : New H p o H1) : H1 p = some o := by rw [N.eq]; exact upd_same
theorem New.keep (N : New H p o H1) (h : H a = some u) : H1 a = some u := by rw [N.eq]; exact upd_new N.fr h
theorem New.free (N : New H p o H1) (h : H1 a = none) : H a = none := by rw [N.eq] at h; exact free_upd h
theorem New.ne (N : New H p o H1) (h : H a = some u) : p ≠ a := (ne_of_none h N.fr).symm
theorem New.sqL (N : New H p o H1) (h : SqL K H a xs) : SqL K H1 a xs := SqL.kp N.kp h
theorem New.sqT (N : New H p o H1) (h : SqT K H a xs) : SqT K H1 a xs := SqT.kp N.kp h
theorem ne_of2 (h : H a = some o) (h' : H b = none) : a ≠ b := ne_of_none h h'
end

/-! ## items -/
theorem atI_at {xs : List V} {i : Int} (h0 : 0 ≤ i) (h1 : i < xs.length) : atI xs i = some (xs.getD i.toNat .non) := by
  have e : i = ((i.toNat : Nat) : Int) := by omega
  have h : xs[i.toNat]? = some (xs.getD i.toNat .non) := by
    rw [List.getD_eq_getElem?_getD, List.getElem?_eq_getElem (by omega)]
    rfl
  exact e ▸ atI_nat h
theorem atI_ints {ns : List Int} {i : Int} (h0 : 0 ≤ i) (h1 : i < ns.length) : atI (ns.map V.int) i = some (.int (ns.getD i.toNat 0)) := by
  rw [atI_at h0 (by rw [List.length_map]; exact h1)]
  congr 1
  rw [List.getD_eq_getElem?_getD, List.getD_eq_getElem?_getD, List.getElem?_map, List.getElem?_eq_getElem (by omega)]
  rfl
theorem atI_strs {ns : List Str} {i : Int} (h0 : 0 ≤ i) (h1 : i < ns.length) : atI (ns.map V.str) i = some (.str (ns.getD i.toNat Str.empty)) := by
  rw [atI_at h0 (by rw [List.length_map]; exact h1)]
  congr 1
  rw [List.getD_eq_getElem?_getD, List.getD_eq_getElem?_getD, List.getElem?_map, List.getElem?_eq_getElem (by omega)]
  rfl
theorem atI_codes {z : Str} {i : Int} (h0 : 0 ≤ i) (h1 : i < z.length) : atI z.cps.toList i = some (z.cps.getD i.toNat 0) := by
  have e : i = ((i.toNat : Nat) : Int) := by omega
  have hl : i.toNat < z.cps.size := by have : z.length = z.cps.size := rfl; omega
  unfold atI
  have q : ixN z.cps.toList.length i = some i.toNat := by
    unfold ixN
    rw [if_pos h0, if_pos (by rw [Array.length_toList]; omega)]
  rw [q]
  show z.cps.toList[i.toNat]? = _
  rw [Array.getElem?_toList, Array.getElem?_eq_getElem hl, Array.getD, dif_pos hl]
  rfl

/-! ## the law's box: its digits at d, its place -/
structure Bx (H : Hp) (b d : Addr) : Prop where
  ex : ∃ (at_ : Int) (ds : List Int), H b = some (.lst [.ref d, .int at_]) ∧ H d = some (.lst (ds.map V.int)) ∧ 0 ≤ at_
section
variable {H H1 : Hp} {b d p : Addr} {o : HO}
theorem Bx.ne (h : Bx H b d) : d ≠ b := by
  obtain ⟨at_, ds, h1, h2, _⟩ := h.ex
  intro e
  subst e
  rw [h1] at h2
  cases ds with
  | nil => cases h2
  | cons n r => simp at h2
theorem Bx.kp0 (h : Bx H b d) (e : Kp [] H H1) : Bx H1 b d := by
  obtain ⟨at_, ds, h1, h2, h3⟩ := h.ex
  exact ⟨at_, ds, e.at0 h1, e.at0 h2, h3⟩
theorem Bx.new (h : Bx H b d) (hp : H p = none) : Bx (upd H p o) b d := h.kp0 (Kp.new hp)
theorem Bx.other (h : Bx H b d) (n1 : p ≠ b) (n2 : p ≠ d) : Bx (upd H p o) b d := by
  obtain ⟨at_, ds, h1, h2, h3⟩ := h.ex
  exact ⟨at_, ds, upd_other (Ne.symm n1) h1, upd_other (Ne.symm n2) h2, h3⟩
theorem Bx.nw (h : Bx H b d) (N : New H p o H1) : Bx H1 b d := by rw [N.eq]; exact h.new N.fr
theorem Bx.ne_new (h : Bx H b d) (hp : H p = none) : p ≠ b ∧ p ≠ d := by
  obtain ⟨at_, ds, h1, h2, h3⟩ := h.ex
  exact ⟨fun e => ne_of_none h1 hp e.symm, fun e => ne_of_none h2 hp e.symm⟩
end
end Sa

namespace Sa
open PySem L2

/-! ## loops -/
section
variable {K : PySem.W.Frag} {σ : St} {H : Hp} {D : Ends} {wi : TI} {g : TG} {tb : TS} {ta : TA} {tl te : TE} {tt : TT} {R : It → Hp → Prop} {a : Addr} {xs : List V} {lo hi : Int} {n : Nat} {Q : VK} {vs : List Nat} {z : Str}
def ForJ (J : It) (g : TG) (tb : TS) (D : Ends) (σ : St) (H1 : Hp) : Prop := ∃ W : Nat → Nat → St → Hp → Prop, (∃ m, W 0 m σ H1) ∧ ∀ i m σ H, W i m σ H →
  (J.stop i H ∧ D.nx σ H) ∨ (J.go i H ∧ ∃ N : St → Hp → Prop, (∀ σ' H', N σ' H' → ∃ m', m' < m ∧ W (i + 1) m' σ' H') ∧ ∀ x H', J.yld i H x H' → g x σ H' fun σ2 H2 => tb { D with nx := N, ct := N, bk := D.nx } σ2 H2)
def LcJ (J : It) (g : TG) (tt : TT) (te : TE) (vs : List Nat) (σ : St) (H1 : Hp) (Q : VK) : Prop := ∀ D, H1 D = none → ∃ W : Nat → Nat → Hp → Prop, (∃ m, W 0 m (upd H1 D (.lst []))) ∧ ∀ i m H, W i m H →
  (J.stop i H ∧ Q (.ref D) H) ∨ (J.go i H ∧ ∃ Nx : Hp → Prop, (∀ H', Nx H' → ∃ m', m' < m ∧ W (i + 1) m' H') ∧ ∀ x H', J.yld i H x H' → g x (wipe σ vs) H' fun σ2 H2 => wipe σ2 vs = wipe σ vs ∧ tt σ2 H2 fun b H3 =>
    if b = true then te σ2 H3 fun y H4 => ∃ acc, H4 D = some (.lst acc) ∧ acc.length < sizeLine ∧ Nx (upd H4 D (.lst (acc ++ [y]))) else Nx H3)
theorem c_for (h : wi σ H fun J H1 => ForJ J g tb D σ H1) : tFor wi g tb D σ H := h
theorem c_lc (h : wi σ H fun J H1 => LcJ J g tt te vs σ H1 Q) : tLc wi g tt te vs σ H Q := h
theorem c_rng1 (h : ta σ H fun vs H1 => ∃ j : Int, vs = [.int j] ∧ -(2 ^ 62) ≤ j ∧ j < 2 ^ 62 ∧ R (Itr 0 j.toNat) H1) : iRng1 ta σ H R := h
theorem c_rng2 (h : ta σ H fun vs H1 => ∃ i j : Int, vs = [.int i, .int j] ∧ (-(2 ^ 62) ≤ i ∧ i < 2 ^ 62 ∧ -(2 ^ 62) ≤ j ∧ j < 2 ^ 62) ∧ R (Itr i (j - i).toNat) H1) : iRng2 ta σ H R := h
theorem c_r1F (h1 : -4611686018427387904 ≤ hi ∧ hi < 4611686018427387904) (h : ForJ (Itr 0 hi.toNat) g tb D σ H) : ∃ j : Int, [V.int hi] = [.int j] ∧ -(2 ^ 62) ≤ j ∧ j < 2 ^ 62 ∧ ForJ (Itr 0 j.toNat) g tb D σ H := ⟨hi, rfl, by omega, by omega, h⟩
theorem c_r2F (h1 : -4611686018427387904 ≤ hi ∧ hi < 4611686018427387904 ∧ -4611686018427387904 ≤ lo ∧ lo < 4611686018427387904) (h : ForJ (Itr lo (hi - lo).toNat) g tb D σ H) : ∃ i j : Int, [V.int lo, V.int hi] = [.int i, .int j] ∧ (-(2 ^ 62) ≤ i ∧ i < 2 ^ 62 ∧ -(2 ^ 62) ≤ j ∧ j < 2 ^ 62) ∧ ForJ (Itr i (j - i).toNat) g tb D σ H :=
  ⟨lo, hi, rfl, by omega, h⟩
theorem c_itLF (h : SqL K H a xs) (q : ForJ (Itl K a) g tb D σ H) : ∃ b, V.ref a = .ref b ∧ (∃ xs, SqL K H b xs) ∧ ForJ (Itl K b) g tb D σ H := ⟨a, rfl, ⟨xs, h⟩, q⟩
theorem c_itTF (h : SqT K H a xs) (q : ForJ (Itt K a) g tb D σ H) : ∃ b, V.ref a = .ref b ∧ (∃ xs, SqT K H b xs) ∧ ForJ (Itt K b) g tb D σ H := ⟨a, rfl, ⟨xs, h⟩, q⟩
theorem c_itSF (q : ForJ (Its z) g tb D σ H) : ∃ x, V.str z = .str x ∧ ForJ (Its x) g tb D σ H := ⟨z, rfl, q⟩
theorem c_r1C (h1 : -4611686018427387904 ≤ hi ∧ hi < 4611686018427387904) (h : LcJ (Itr 0 hi.toNat) g tt te vs σ H Q) : ∃ j : Int, [V.int hi] = [.int j] ∧ -(2 ^ 62) ≤ j ∧ j < 2 ^ 62 ∧ LcJ (Itr 0 j.toNat) g tt te vs σ H Q := ⟨hi, rfl, by omega, by omega, h⟩
theorem c_r2C (h1 : -4611686018427387904 ≤ hi ∧ hi < 4611686018427387904 ∧ -4611686018427387904 ≤ lo ∧ lo < 4611686018427387904) (h : LcJ (Itr lo (hi - lo).toNat) g tt te vs σ H Q) : ∃ i j : Int, [V.int lo, V.int hi] = [.int i, .int j] ∧ (-(2 ^ 62) ≤ i ∧ i < 2 ^ 62 ∧ -(2 ^ 62) ≤ j ∧ j < 2 ^ 62) ∧ LcJ (Itr i (j - i).toNat) g tt te vs σ H Q :=
  ⟨lo, hi, rfl, by omega, h⟩
theorem c_itLC (h : SqL K H a xs) (q : LcJ (Itl K a) g tt te vs σ H Q) : ∃ b, V.ref a = .ref b ∧ (∃ xs, SqL K H b xs) ∧ LcJ (Itl K b) g tt te vs σ H Q := ⟨a, rfl, ⟨xs, h⟩, q⟩
theorem c_itTC (h : SqT K H a xs) (q : LcJ (Itt K a) g tt te vs σ H Q) : ∃ b, V.ref a = .ref b ∧ (∃ xs, SqT K H b xs) ∧ LcJ (Itt K b) g tt te vs σ H Q := ⟨a, rfl, ⟨xs, h⟩, q⟩
theorem c_itSC (q : LcJ (Its z) g tt te vs σ H Q) : ∃ x, V.str z = .str x ∧ LcJ (Its x) g tt te vs σ H Q := ⟨z, rfl, q⟩
theorem c_iList (h : tl σ H fun x H1 => ∃ a, x = .ref a ∧ (∃ xs, SqL K H1 a xs) ∧ R (Itl K a) H1) : iList K tl σ H R := h
theorem c_iTup (h : tl σ H fun x H1 => ∃ a, x = .ref a ∧ (∃ xs, SqT K H1 a xs) ∧ R (Itt K a) H1) : iTup K tl σ H R := h
theorem c_iStr (h : tl σ H fun v H1 => ∃ x, v = .str x ∧ R (Its x) H1) : iStr tl σ H R := h
/-- for .. in range: the word Pv by the turn -/
theorem forR (Pv : Nat → St → Hp → Prop) (h0 : Pv 0 σ H) (hs : ∀ i σ H, i < n → Pv i σ H → g (.int (lo + i)) σ H fun σ2 H2 => tb { D with nx := Pv (i + 1), ct := Pv (i + 1), bk := D.nx } σ2 H2) (hd : ∀ σ H, Pv n σ H → D.nx σ H) : ForJ (Itr lo n) g tb D σ H := for_range Pv h0 hs hd
theorem forL (xs : List V) (Pv : Nat → St → Hp → Prop) (h0 : Pv 0 σ H) (hl : ∀ i σ H, i ≤ xs.length → Pv i σ H → SqL K H a xs)
    (hs : ∀ i x σ H, xs[i]? = some x → Pv i σ H → g x σ H fun σ2 H2 => tb { D with nx := Pv (i + 1), ct := Pv (i + 1), bk := D.nx } σ2 H2) (hd : ∀ σ H, Pv xs.length σ H → D.nx σ H) : ForJ (Itl K a) g tb D σ H := for_list Pv h0 hl hs hd
theorem forT (xs : List V) (Pv : Nat → St → Hp → Prop) (h0 : Pv 0 σ H) (hl : ∀ i σ H, i ≤ xs.length → Pv i σ H → SqT K H a xs)
    (hs : ∀ i x σ H, xs[i]? = some x → Pv i σ H → g x σ H fun σ2 H2 => tb { D with nx := Pv (i + 1), ct := Pv (i + 1), bk := D.nx } σ2 H2) (hd : ∀ σ H, Pv xs.length σ H → D.nx σ H) : ForJ (Itt K a) g tb D σ H := for_tup Pv h0 hl hs hd
theorem forS (Pv : Nat → St → Hp → Prop) (h0 : Pv 0 σ H)
    (hs : ∀ (i : Nat) (c : Nat) σ H, z.cps.toList[i]? = some c → Pv i σ H → g (.str ⟨#[c]⟩) σ H fun σ2 H2 => tb { D with nx := Pv (i + 1), ct := Pv (i + 1), bk := D.nx } σ2 H2) (hd : ∀ σ H, Pv z.cps.toList.length σ H → D.nx σ H) : ForJ (Its z) g tb D σ H := by
  refine ⟨fun i m σ H => m = z.cps.size - i ∧ i ≤ z.cps.size ∧ Pv i σ H, ⟨_, rfl, Nat.zero_le _, h0⟩, ?_⟩
  rintro i m σ H ⟨rfl, hi, p⟩
  by_cases hlt : i < z.cps.size
  · refine .inr ⟨hlt, Pv (i + 1), fun σ' H' p' => ⟨_, by omega, rfl, hlt, p'⟩, fun x H' y => ?_⟩
    obtain ⟨e, c, hc, e2⟩ := y
    subst e e2
    exact hs i c σ _ (by rw [Array.getElem?_toList]; exact hc) p
  · have e : i = z.cps.toList.length := by rw [Array.length_toList]; omega
    subst e
    exact .inl ⟨by rw [Array.length_toList] at hlt; exact Nat.le_of_not_lt hlt, hd σ H p⟩

/-! comprehensions: the word Pv by the new list's place, the turn, what the list holds, the heap -/
def LcN (Pv : Addr → Nat → List V → Hp → Prop) (Dl : Addr) (i : Nat) (H : Hp) : Prop := ∃ acc, H Dl = some (.lst acc) ∧ acc.length ≤ i ∧ Pv Dl i acc H
abbrev LcT (g : TG) (tt : TT) (te : TE) (vs : List Nat) (σ : St) (Pv : Addr → Nat → List V → Hp → Prop) (Dl : Addr) (i : Nat) (x : V) (H' : Hp) : Prop :=
  g x (wipe σ vs) H' fun σ2 H2 => wipe σ2 vs = wipe σ vs ∧ tt σ2 H2 fun b H3 =>
    if b = true then te σ2 H3 fun y H4 => ∃ acc, H4 Dl = some (.lst acc) ∧ acc.length < sizeLine ∧ LcN Pv Dl (i + 1) (upd H4 Dl (.lst (acc ++ [y]))) else LcN Pv Dl (i + 1) H3
theorem lc_push {Pv : Addr → Nat → List V → Hp → Prop} {Dl : Addr} {i : Nat} {H4 : Hp} {acc : List V} {y : V} (h : H4 Dl = some (.lst acc)) (hl : acc.length ≤ i) (hi : i < 16777216) (p : Pv Dl (i + 1) (acc ++ [y]) (upd H4 Dl (.lst (acc ++ [y])))) :
    ∃ acc, H4 Dl = some (.lst acc) ∧ acc.length < sizeLine ∧ LcN Pv Dl (i + 1) (upd H4 Dl (.lst (acc ++ [y]))) :=
  ⟨acc, h, by rw [sizeLine_eq]; omega, acc ++ [y], upd_same, by rw [List.length_append, List.length_singleton]; omega, p⟩
theorem lc_skip {Pv : Addr → Nat → List V → Hp → Prop} {Dl : Addr} {i : Nat} {H3 : Hp} {acc : List V} (h : H3 Dl = some (.lst acc)) (hl : acc.length ≤ i) (p : Pv Dl (i + 1) acc H3) : LcN Pv Dl (i + 1) H3 := ⟨acc, h, by omega, p⟩
theorem lcR (Pv : Addr → Nat → List V → Hp → Prop) (h0 : ∀ Dl, H Dl = none → Pv Dl 0 [] (upd H Dl (.lst [])))
    (hs : ∀ Dl i acc H', H Dl = none → i < n → H' Dl = some (.lst acc) → acc.length ≤ i → Pv Dl i acc H' → LcT g tt te vs σ Pv Dl i (.int (lo + i)) H')
    (hd : ∀ Dl acc H', H Dl = none → H' Dl = some (.lst acc) → acc.length ≤ n → Pv Dl n acc H' → Q (.ref Dl) H') : LcJ (Itr lo n) g tt te vs σ H Q := fun Dl hD =>
  lc_range (LcN Pv Dl) ⟨[], upd_same, Nat.zero_le _, h0 Dl hD⟩ (fun i H' hi ⟨acc, h1, h2, h3⟩ => hs Dl i acc H' hD hi h1 h2 h3) fun H' ⟨acc, h1, h2, h3⟩ => hd Dl acc H' hD h1 h2 h3
theorem lcL (xs : List V) (Pv : Addr → Nat → List V → Hp → Prop) (h0 : ∀ Dl, H Dl = none → Pv Dl 0 [] (upd H Dl (.lst []))) (hl : ∀ Dl i acc H', H Dl = none → Pv Dl i acc H' → SqL K H' a xs)
    (hs : ∀ Dl i x acc H', H Dl = none → xs[i]? = some x → H' Dl = some (.lst acc) → acc.length ≤ i → Pv Dl i acc H' → LcT g tt te vs σ Pv Dl i x H')
    (hd : ∀ Dl acc H', H Dl = none → H' Dl = some (.lst acc) → acc.length ≤ xs.length → Pv Dl xs.length acc H' → Q (.ref Dl) H') : LcJ (Itl K a) g tt te vs σ H Q := fun Dl hD =>
  lc_list (xs := xs) (LcN Pv Dl) ⟨[], upd_same, Nat.zero_le _, h0 Dl hD⟩ (fun i H' _ ⟨acc, _, _, h3⟩ => hl Dl i acc H' hD h3) (fun i x H' hi ⟨acc, h1, h2, h3⟩ => hs Dl i x acc H' hD hi h1 h2 h3) fun H' ⟨acc, h1, h2, h3⟩ => hd Dl acc H' hD h1 h2 h3
theorem lcT (xs : List V) (Pv : Addr → Nat → List V → Hp → Prop) (h0 : ∀ Dl, H Dl = none → Pv Dl 0 [] (upd H Dl (.lst []))) (hl : ∀ Dl i acc H', H Dl = none → Pv Dl i acc H' → SqT K H' a xs)
    (hs : ∀ Dl i x acc H', H Dl = none → xs[i]? = some x → H' Dl = some (.lst acc) → acc.length ≤ i → Pv Dl i acc H' → LcT g tt te vs σ Pv Dl i x H')
    (hd : ∀ Dl acc H', H Dl = none → H' Dl = some (.lst acc) → acc.length ≤ xs.length → Pv Dl xs.length acc H' → Q (.ref Dl) H') : LcJ (Itt K a) g tt te vs σ H Q := fun Dl hD =>
  lc_tup (xs := xs) (LcN Pv Dl) ⟨[], upd_same, Nat.zero_le _, h0 Dl hD⟩ (fun i H' _ ⟨acc, _, _, h3⟩ => hl Dl i acc H' hD h3) (fun i x H' hi ⟨acc, h1, h2, h3⟩ => hs Dl i x acc H' hD hi h1 h2 h3) fun H' ⟨acc, h1, h2, h3⟩ => hd Dl acc H' hD h1 h2 h3
theorem c_unL {K : PySem.W.Frag} {ys : List V} {gs : TGs} {R : St → Hp → Prop} (h : SqL K H a ys) (hl : ys.length = n) (q : gs ys σ H R) : gLst K n gs (.ref a) σ H R := ⟨a, ys, rfl, h, hl, q⟩
theorem c_unT {K : PySem.W.Frag} {ys : List V} {gs : TGs} {R : St → Hp → Prop} (h : SqT K H a ys) (hl : ys.length = n) (q : gs ys σ H R) : gTup K n gs (.ref a) σ H R := ⟨a, ys, rfl, h, hl, q⟩
theorem c_gCons {v : V} {r : List V} {gs : TGs} {R : St → Hp → Prop} (q : g v σ H fun σ' H' => gs r σ' H' R) : gCons g gs (v :: r) σ H R := ⟨v, r, rfl, q⟩
theorem c_gNil {R : St → Hp → Prop} (q : R σ H) : gNil [] σ H R := ⟨rfl, q⟩
theorem c_cut {t u : TS} (Mid : St → Hp → Prop) (h1 : t { D with nx := Mid } σ H) (h2 : ∀ σ' H', Mid σ' H' → u D σ' H') : Evl.tCut t u D σ H := ⟨Mid, h1, h2⟩
theorem c_yes {R : Bool → Hp → Prop} (h : R true H) : tYes σ H R := h
end
end Sa

namespace Sa
open PySem L2

/-! ## texts by their codes -/
def txt (cs : List Nat) : Str := ⟨cs.toArray⟩
theorem txt_len (cs : List Nat) : (txt cs).length = cs.length := by show cs.toArray.size = _; simp
theorem txt_cps (cs : List Nat) : (txt cs).cps.toList = cs := by show cs.toArray.toList = _; simp
theorem txt_of (s : Str) : s = txt s.cps.toList := by cases s; simp [txt]
theorem txt_app (cs ds : List Nat) : txt cs ++ txt ds = txt (cs ++ ds) := by
  show Str.append _ _ = _
  simp [Str.append, txt]
theorem txt_inj {cs ds : List Nat} : txt cs = txt ds ↔ cs = ds := by
  constructor
  · intro h
    have e := congrArg (fun s : Str => s.cps.toList) h
    simpa [txt] using e
  · intro h; rw [h]
theorem txt_one (c : Nat) : (⟨#[c]⟩ : Str) = txt [c] := rfl
theorem cutS_txt (cs : List Nat) (lo hi : Option Int) : cutS (txt cs) lo hi = txt ((cs.drop (HT.sIx cs.length 0 lo)).take (HT.sIx cs.length cs.length hi - HT.sIx cs.length 0 lo)) := by
  unfold cutS
  rw [txt_len, txt_cps]
  rfl
theorem join_ones : ∀ cs : List Nat, Str.join (txt []) (cs.map fun c => txt [c]) = txt cs
  | [] => rfl
  | [c] => rfl
  | c :: d :: r => by
    have ih := join_ones (d :: r)
    show txt [c] ++ txt [] ++ Str.join (txt []) ((d :: r).map fun c => txt [c]) = txt (c :: d :: r)
    rw [ih, txt_app, txt_app]
    rfl
theorem tjoin (s : Str) (ys : List Str) : Txt.join s ys = Str.join s ys := StrLaws.glued_eq_join s ys
theorem tjoin_ones (cs : List Nat) : Txt.join (txt []) (cs.map fun c => txt [c]) = txt cs := by rw [tjoin, join_ones]
theorem sum_ones (cs : List Nat) : (((cs.map fun c => txt [c])).map (·.length)).sum = cs.length := by
  induction cs with
  | nil => rfl
  | cons c r ih =>
    simp only [List.map_cons, List.sum_cons, ih, List.length_cons, txt_len]
    simp
    omega
/-! ## slices -/
def cutL {α : Type} (xs : List α) (lo hi : Option Int) : List α := (xs.drop (HT.sIx xs.length 0 lo)).take (HT.sIx xs.length xs.length hi - HT.sIx xs.length 0 lo)
theorem cutV_eq (xs : List V) (lo hi : Option Int) : cutV xs lo hi = cutL xs lo hi := rfl
theorem cutL_map {α β : Type} (f : α → β) (xs : List α) (lo hi : Option Int) : cutL (xs.map f) lo hi = (cutL xs lo hi).map f := by
  unfold cutL
  rw [List.length_map, List.map_take, List.map_drop]
theorem cutV_ints (ns : List Int) (lo hi : Option Int) : cutV (ns.map V.int) lo hi = (cutL ns lo hi).map V.int := by rw [cutV_eq, cutL_map]
theorem sIx_of {n d : Nat} {i : Int} (h : 0 ≤ i) : HT.sIx n d (some i) = min i.toNat n := by
  obtain ⟨k, rfl⟩ := Int.eq_ofNat_of_zero_le h
  exact HT.sIx_nat n d k
theorem cutL_lt {α : Type} {xs : List α} {i j : Int} (h0 : 0 ≤ i) (h1 : i ≤ j) (h2 : j ≤ xs.length) : cutL xs (some i) (some j) = (xs.drop i.toNat).take (j.toNat - i.toNat) := by
  unfold cutL
  rw [sIx_of h0, sIx_of (by omega), Nat.min_eq_left (by omega), Nat.min_eq_left (by omega)]
theorem cutL_to {α : Type} {xs : List α} {j : Int} (h1 : 0 ≤ j) (h2 : j ≤ xs.length) : cutL xs none (some j) = xs.take j.toNat := by
  unfold cutL
  rw [sIx_of h1, Nat.min_eq_left (by omega)]
  simp [HT.sIx]
theorem cutL_from {α : Type} {xs : List α} {i : Int} (h0 : 0 ≤ i) (h1 : i ≤ xs.length) : cutL xs (some i) none = xs.drop i.toNat := by
  unfold cutL
  rw [sIx_of h0, Nat.min_eq_left (by omega)]
  show (xs.drop i.toNat).take (xs.length - i.toNat) = _
  rw [List.take_of_length_le (by rw [List.length_drop]; omega)]
/-! ## lists of whole numbers compared -/
section
variable {K : PySem.W.Frag} {H : Hp} {Q : VK} {a b : Addr} {ns ms : List Int}
theorem dpAll_ints : ∀ ns : List Int, DpAll K H (ns.map V.int) (ns.map PyData.int)
  | [] => .nil
  | n :: r => .cons (.int n) (dpAll_ints r)
theorem dp_ints (h : SqL K H a (ns.map V.int)) : Dp K H (.ref a) (.list (ns.map PyData.int)) := .lst h (dpAll_ints ns)
theorem eqvAll_ints : ∀ ns ms : List Int, PyData.eqvAll (ns.map PyData.int) (ms.map PyData.int) = decide (ns = ms)
  | [], [] => by simp [PyData.eqvAll]
  | [], _ :: _ => by simp [PyData.eqvAll]
  | _ :: _, [] => by simp [PyData.eqvAll]
  | a :: r, b :: t => by
    simp only [List.map_cons, PyData.eqvAll, PyData.eqv, eqvAll_ints r t]
    by_cases h : a = b <;> by_cases h' : r = t <;> simp [h, h']
theorem c_eqLI (ha : SqL K H a (ns.map V.int)) (hb : SqL K H b (ms.map V.int)) (q : Q (.bl (decide (ns = ms))) H) : rEqU K (.ref a) (.ref b) H Q :=
  c_eqD (dp_ints ha) (dp_ints hb) (PySem.W.ke_shaped_ints ns) (PySem.W.ke_shaped_ints ms) (by rw [PyData.eqv, eqvAll_ints]; exact q)
theorem c_neLI (ha : SqL K H a (ns.map V.int)) (hb : SqL K H b (ms.map V.int)) (q : Q (.bl (!decide (ns = ms))) H) : rNeU K (.ref a) (.ref b) H Q :=
  c_neD (dp_ints ha) (dp_ints hb) (PySem.W.ke_shaped_ints ns) (PySem.W.ke_shaped_ints ms) (by rw [PyData.eqv, eqvAll_ints]; exact q)
end
theorem map_snocI (ds : List Int) (z : Int) : ds.map V.int ++ [V.int z] = (ds ++ [z]).map V.int := by rw [List.map_append]; rfl
theorem take_succ' {α : Type} {xs : List α} {i : Nat} {x : α} (h : xs[i]? = some x) : xs.take (i + 1) = xs.take i ++ [x] := by
  rw [List.take_succ, h]; rfl
end Sa

open PySem L2 Sa
/-! ## tactics -/
-- heap look-ups
local macro_rules | `(tactic| walk_at "ne") => `(tactic| first | assumption | (apply Ne.symm; assumption) | (refine ne_of2 ?_ ?_ <;> assumption) | (apply Ne.symm; refine ne_of2 ?_ ?_ <;> assumption))
local macro_rules | `(tactic| walk_at "lk") => `(tactic| first
  | assumption
  | exact upd_same
  | ((with_reducible refine upd_new ?_ ?_); (· assumption); walk_at "lk")
  | ((with_reducible refine upd_other ?_ ?_); (· walk_at "ne"); walk_at "lk")
  | ((with_reducible refine New.at_ ?_); assumption)
  | ((with_reducible refine New.keep (by assumption) ?_); walk_at "lk")
  | ((with_reducible refine New.sqL (by assumption) ?_); walk_at "lk")
  | ((with_reducible refine New.sqT (by assumption) ?_); walk_at "lk")
  | ((with_reducible refine Kp.at0 (by assumption) ?_); walk_at "lk")
  | ((with_reducible apply SqL.of); walk_at "lk")
  | ((with_reducible apply SqT.of); walk_at "lk")
  | ((with_reducible refine SqL.new ?_ ?_); (· assumption); walk_at "lk")
  | ((with_reducible refine SqT.new ?_ ?_); (· assumption); walk_at "lk"))
-- arithmetic of lengths
local macro_rules | `(tactic| walk_at "sz") => `(tactic| first | assumption | decide | (exact Nat.zero_le _) | (simp only [sizeLine_eq, List.length_cons, List.length_nil, List.length_append, List.length_map, List.length_replicate] at *; omega))
-- one step of a reading
local macro_rules | `(tactic| walk_at "s1") => `(tactic| first
  | (with_reducible apply c_seq)
  | ((with_reducible apply c_var); (exact rfl))
  | (with_reducible apply c_c)
  | (with_reducible apply c_op)
  | (with_reducible apply c_addI) | (with_reducible apply c_subI)
  | (with_reducible refine c_bl ?_) | (with_reducible refine c_int ?_)
  | (with_reducible apply c_asg) | (with_reducible apply c_gName) | (with_reducible apply c_ret) | (with_reducible apply c_retN) | (with_reducible apply c_ifs) | (with_reducible apply c_drop)
  | (with_reducible apply c_test) | (with_reducible apply c_tB) | (with_reducible apply c_not) | (with_reducible apply c_and) | (with_reducible apply c_or)
  | (with_reducible apply c_eqI) | (with_reducible apply c_neI) | (with_reducible apply c_ltI) | (with_reducible apply c_leI) | (with_reducible apply c_gtI) | (with_reducible apply c_geI)
  | (with_reducible apply c_nil) | (with_reducible apply c_cons) | (with_reducible apply c_call) | (with_reducible apply c_cb) | (with_reducible apply c_tup) | (with_reducible apply c_lst)
  | (with_reducible apply c_sl) | (with_reducible apply c_noPart) | (with_reducible apply c_part) | (with_reducible apply c_bm) | (with_reducible apply c_bm0) | (with_reducible apply c_m1) | (with_reducible apply c_isStr)
  | (with_reducible apply c_chain) | (with_reducible apply c_andV) | (with_reducible apply c_orV) | (with_reducible apply c_notV) | (with_reducible apply c_if)
  | (with_reducible apply c_intI) | (with_reducible apply c_ord) | (with_reducible apply c_max2) | (with_reducible apply c_min2)
  | ((with_reducible apply c_mulI); (first | (exact Or.inr ⟨by decide, by decide⟩) | (exact Or.inl ⟨by decide, by decide⟩)))
  | ((with_reducible apply c_divI); (exact ⟨by decide, by decide⟩))
  | ((with_reducible apply c_modI); (first | decide | assumption | omega))
  | (with_reducible apply c_eqS) | (with_reducible apply c_neS) | (with_reducible apply c_eqB) | (with_reducible apply c_neB) | (with_reducible apply c_isN) | (with_reducible apply c_notN)
  | (with_reducible apply c_inC) | (with_reducible apply c_notInC)
  | (with_reducible refine c_truB ?_)
  | (with_reducible apply c_gSub)
  | (with_reducible apply c_next)
  | (with_reducible apply c_for) | (with_reducible apply c_lc) | (with_reducible apply c_rng1) | (with_reducible apply c_rng2) | (with_reducible apply c_iList) | (with_reducible apply c_iTup) | (with_reducible apply c_iStr)
  | ((with_reducible refine c_r1F ?_ ?_); (· first | decide | omega)) | ((with_reducible refine c_r2F ?_ ?_); (· first | decide | omega))
  | ((with_reducible apply c_itLF); (· walk_at "lk")) | ((with_reducible apply c_itTF); (· walk_at "lk")) | (with_reducible apply c_itSF)
  | ((with_reducible refine c_r1C ?_ ?_); (· first | decide | omega)) | ((with_reducible refine c_r2C ?_ ?_); (· first | decide | omega))
  | ((with_reducible apply c_itLC); (· walk_at "lk")) | ((with_reducible apply c_itTC); (· walk_at "lk")) | (with_reducible apply c_itSC)
  | ((with_reducible apply c_append); (· walk_at "lk"); (· walk_at "sz"))
  | (with_reducible apply c_yes)
  | (with_reducible apply c_it1) | (with_reducible apply c_it2) | (with_reducible apply c_it3) | (with_reducible apply c_it4)
  | (with_reducible apply c_gCons) | (with_reducible apply c_gNil)
  | ((with_reducible apply c_unL); (· walk_at "lk"); (· exact rfl)) | ((with_reducible apply c_unT); (· walk_at "lk"); (· exact rfl))
  | ((with_reducible apply c_lenL); (· walk_at "lk"))
  | ((with_reducible apply c_lenT); (· walk_at "lk"))
  | ((with_reducible apply c_ixL); (· walk_at "lk"); (· exact rfl))
  | ((with_reducible apply c_ixT); (· walk_at "lk"); (· exact rfl))
  | ((with_reducible apply c_setL); (· walk_at "lk"); (· exact rfl))
  | ((with_reducible apply c_tyA); (· walk_at "lk")))
local macro_rules | `(tactic| walk_at "nw") => `(tactic| ((with_reducible refine c_nw ?_ ?_); (· walk_at "sz")))
local macro_rules | `(tactic| walk_at "st") => `(tactic| repeat (walk_at "s1"))
-- steps and ways, as far as they go
local macro_rules | `(tactic| walk_at "go") => `(tactic| repeat' (first | walk_at "s1" | ((with_reducible refine c_iteT ?_ ?_); (· exact rfl)) | ((with_reducible refine c_iteF ?_ ?_); (· exact rfl)) | ((with_reducible refine c_ite ?_ ?_) <;> intro hcnd) | ((with_reducible refine c_iteN ?_ ?_) <;> intro hcnd) | ((with_reducible refine c_iteNB ?_ ?_) <;> intro hcnd) | ((with_reducible refine c_iteB ?_ ?_) <;> intro hcnd)))

namespace K44
open PySem L2 Sa
def top (i : Nat) : Stmt := PySem.Challenge.pw_sameanswers_k44_any_block_is_read_so.main.body.getD i (.Pass ⟨0, 0, 0, 0⟩)
abbrev s__law_draw : Stmt := top 12
abbrev s__law_cell : Stmt := top 10
abbrev s__law_digits : Stmt := top 11
abbrev s__are_codes : Stmt := top 6
abbrev s__sign : Stmt := top 7
abbrev s_decode_piece : Stmt := top 8
abbrev s__law_due : Stmt := top 15
abbrev s__law_pieces : Stmt := top 13
abbrev s__law_stored_text : Stmt := top 14
abbrev s__law_read : Stmt := top 16
abbrev s__law_torn_piece : Stmt := top 17
abbrev s_law : Stmt := top 18
def fa : List He.Fa := [.free "int", .free "len", .glo "_law_draw", .glo "_law_cell", .free "range", .glo "_law_digits", .int "PERCENT" 37, .int "LINE_END" 10, .glo "_are_codes", .str "SIGNS" " !\"#$&'()*+,-./0123456789:;<=>?@ABCDEFGHIJKLMNOPQRSTUVWXYZ[\\]^_`abcdefghijklmnopqrstuvwxyz{|}~", .glo "_sign", .free "any", .int "PIECE" 24, .int "RECORD" 76, .glo "decode_piece", .glo "_law_due", .free "ord", .free "max", .glo "_law_pieces", .glo "_law_stored_text", .free "list", .glo "_law_read", .glo "_law_torn_piece", .glo "law"]
def fn : List He.DefD := [dOf "_law_draw" s__law_draw, dOf "_law_cell" s__law_cell, dOf "_law_digits" s__law_digits, dOf "_are_codes" s__are_codes, dOf "_sign" s__sign, dOf "decode_piece" s_decode_piece, dOf "_law_due" s__law_due, dOf "_law_pieces" s__law_pieces, dOf "_law_stored_text" s__law_stored_text, dOf "_law_read" s__law_read, dOf "_law_torn_piece" s__law_torn_piece, dOf "law" s_law]
abbrev TX (K : PySem.W.Frag) (mg : Str → Option Value) : Prop := Tx fa fn K mg
end K44

namespace K44
open PySem L2 Sa
section
variable {P : Program} {w : World} {K : PySem.W.Frag} {mg : Str → Option Value} {base : Heap}
theorem sc__law_draw : FnScope ["_law_box", "_law_many", "_law_at"] ["_law_box", "_law_many"] (defScope s__law_draw) := ⟨rfl, rfl, rfl, by decide +kernel, rfl, by decide +kernel, by decide +kernel⟩
theorem bn__law_draw : BindN "_law_draw" s__law_draw ["_law_box", "_law_many"] := fun _ _ _ _ _ _ us hl => match us, hl with | [_, _], _ => rfl
def spDraw : Sp := fun vs H Q _ => ∃ (b d : Addr) (many : Int), vs = [.ref b, .int many] ∧ Bx H b d ∧ 0 < many ∧ ∀ (i : Int) (H' : Hp), 0 ≤ i → i < many → Kp [b] H H' → Bx H' b d → Q (.int i) H'
theorem b__law_draw (T : TX K mg) : Body P w K mg base "_law_draw" s__law_draw ["_law_box", "_law_many", "_law_at"] 1 spDraw := by
  intro cdv A outer s H vs Q E h X hr
  obtain ⟨b, d, many, rfl, B, hm, k⟩ := h
  obtain ⟨at_, ds, h1, h2, h3⟩ := B.ex
  refine ⟨_, (pss_cons (ps_set (i := 2) sc__law_draw.nd rfl (Or.inl rfl) (pe_ix (ix_U (K := K)) (pv 0) pe_int (fun _ _ => rfl))) (pss_cons (ps_asg (pe_op (op_addU (K := K)) (pv 2) pe_int) (pg_sub (pv 0) pe_int set_list)) (pss_cons (ps_if (pt_cmpR op_ltU (pv 2) (pe_callB (cr_len (K := K)) rfl (T.free 1) PySem.boot_len (pa_cons (pe_ix (ix_U (K := K)) (pv 0) pe_int (fun _ _ => rfl)) pa_nil)) (nomark _)) (pss_one (ps_ret (pe_op op_modU (pe_callTy cr_int rfl (T.free 0) (by decide +kernel) (pa_cons (pe_ix (ix_U (K := K)) (pe_ix (ix_U (K := K)) (pv 0) pe_int (fun _ _ => rfl)) (pv 2) (fun _ _ => rfl)) pa_nil)) (pv 1)))) pss_nil) (pss_one (ps_ret (pe_op op_modU (pe_callTy cr_int rfl (T.free 0) (by decide +kernel) (pa_cons (pe_op (op_addU (K := K)) (pe_op (op_mulU (K := K)) (pv 2) pe_int) pe_int) pa_nil)) (pv 1))))))), ?_⟩
  have hne := B.ne
  walk_at "st"
  have fin : ∀ z : Int, Q (.int (z % many)) (upd H b (.lst [.ref d, .int (at_ + 1)])) := fun z => by
    refine k _ _ (Int.emod_nonneg _ (by omega)) (Int.emod_lt_of_pos _ hm) (Kp.mut (by simp)) ⟨at_ + 1, ds, upd_same, upd_other hne h2, by omega⟩
  refine c_ite (fun hlt => ?_) (fun hlt => ?_)
  · walk_at "st"
    rw [List.length_map] at hlt
    refine c_ixL (by walk_at "lk") (atI_ints h3 hlt) ?_
    walk_at "st"
    exact fin _
  · walk_at "st"
    exact fin _
theorem D__law_draw (T : TX K mg) : DefAt P w K mg base CX0 "_law_draw" 2 ["_law_box", "_law_many"] spDraw :=
  def_of T 0 2 sc__law_draw bn__law_draw (fun vs H Q E h => by obtain ⟨b, d, many, rfl, _⟩ := h; rfl) (b__law_draw T)

theorem sc__law_cell : FnScope ["_law_script", "_law_k"] ["_law_script", "_law_k"] (defScope s__law_cell) := ⟨rfl, rfl, rfl, by decide +kernel, rfl, by decide +kernel, by decide +kernel⟩
theorem bn__law_cell : BindN "_law_cell" s__law_cell ["_law_script", "_law_k"] := fun _ _ _ _ _ _ us hl => match us, hl with | [_, _], _ => rfl
def spCell (K : PySem.W.Frag) : Sp := fun vs H Q _ => ∃ (a : Addr) (ns : List Int) (k : Int), vs = [.ref a, .int k] ∧ SqL K H a (ns.map V.int) ∧ 0 ≤ k ∧ ∀ n : Int, Q (.int n) H
theorem b__law_cell (T : TX K mg) : Body P w K mg base "_law_cell" s__law_cell ["_law_script", "_law_k"] 1 (spCell K) := by
  intro cdv A outer s H vs Q E h X hr
  obtain ⟨a, ns, k, rfl, hs, h0, q⟩ := h
  refine ⟨_, (pss_cons (ps_if (pt_cmpR op_ltU (pv 1) (pe_callB (cr_len (K := K)) rfl (T.free 1) PySem.boot_len (pa_cons (pv 0) pa_nil)) (nomark _)) (pss_one (ps_ret (pe_ix (ix_U (K := K)) (pv 0) (pv 1) (fun _ _ => rfl)))) pss_nil) (pss_one (ps_ret pe_int))), ?_⟩
  walk_at "st"
  refine c_ite (fun hlt => ?_) (fun hlt => ?_)
  · walk_at "st"
    rw [List.length_map] at hlt
    refine c_ixL hs (atI_ints h0 hlt) ?_
    exact q _
  · walk_at "st"
    exact q _
theorem D__law_cell (T : TX K mg) : DefAt P w K mg base CX0 "_law_cell" 2 ["_law_script", "_law_k"] (spCell K) :=
  def_of T 1 3 sc__law_cell bn__law_cell (fun vs H Q E h => by obtain ⟨b, d, many, rfl, _⟩ := h; rfl) (b__law_cell T)
theorem sc__law_digits : FnScope ["_law_script", "_law_first", "_law_last", "_law_digits_here", "_law_k", "_law_cell_here", "_law_turn", "_law_seed"] ["_law_script", "_law_first", "_law_last"] (defScope s__law_digits) := ⟨rfl, rfl, rfl, by decide +kernel, rfl, by decide +kernel, by decide +kernel⟩
theorem bn__law_digits : BindN "_law_digits" s__law_digits ["_law_script", "_law_first", "_law_last"] := fun _ _ _ _ _ _ us hl => match us, hl with | [_, _, _], _ => rfl
def spDigits (K : PySem.W.Frag) : Sp := fun vs H Q _ => ∃ (a : Addr) (ns : List Int), vs = [.ref a, .int 0, .int 63] ∧ SqL K H a (ns.map V.int) ∧ ∀ (p : Addr) (ds : List Int), H p = none → Q (.ref p) (upd H p (.lst (ds.map V.int)))
theorem b__law_digits (T : TX K mg) : Body P w K mg base "_law_digits" s__law_digits ["_law_script", "_law_first", "_law_last", "_law_digits_here", "_law_k", "_law_cell_here", "_law_turn", "_law_seed"] 2 (spDigits K) := by
  intro cdv A outer s H vs Q E h X hr
  obtain ⟨a, ns, rfl, hs, q⟩ := h
  have D__law_cell : DefAt P w K mg base CX0 "_law_cell" 2 ["_law_script", "_law_k"] (spCell K) := D__law_cell T
  refine ⟨_, (pss_cons (ps_set (i := 3) sc__law_digits.nd rfl (Or.inl rfl) (pe_lst pa_nil)) (pss_cons (ps_for PassesOwn.never rfl (pi_range2 rfl (T.free 4) (pa_cons (pv 1) (pa_cons (pv 2) pa_nil))) (pg_name (i := 4) sc__law_digits.nd rfl (Or.inl rfl)) (pss_cons (ps_set (i := 5) sc__law_digits.nd rfl (Or.inl rfl) (pe_callA D__law_cell hr pass0 (pa_cons (pv 0) (pa_cons (pv 4) pa_nil)))) (Evl.pss_cut (ps_if (pt_cmpR op_ltU (pv 5) pe_int (nomark _)) (pss_one (ps_set (i := 5) sc__law_digits.nd rfl (Or.inl rfl) (pe_op op_subU pe_int (pe_op (op_mulU (K := K)) pe_int (pv 5))))) pss_nil) (pss_one (ps_if (pt_cmpR op_geU (pv 5) pe_int (nomark _)) (pss_one (ps_for PassesOwn.never rfl (pi_range1 rfl (T.free 4) (pa_cons pe_int pa_nil)) (pg_name (i := 6) sc__law_digits.nd rfl (Or.inl rfl)) (pss_one (ps_if (pt_cmpR op_gtU (pv 5) pe_int (nomark _)) (pss_cons (ps_expr (pe_appendU (K := K) (pv 3) (pe_op op_modU (pe_callTy cr_int rfl (T.free 0) (by decide +kernel) (pa_cons (pv 5) pa_nil)) pe_int))) (pss_one (ps_set (i := 5) sc__law_digits.nd rfl (Or.inl rfl) (pe_op op_divU (pv 5) pe_int)))) pss_nil)))) (pss_cons (ps_set (i := 7) sc__law_digits.nd rfl (Or.inl rfl) (pe_op op_modU (pe_callTy cr_int rfl (T.free 0) (by decide +kernel) (pa_cons (pe_op (op_addU (K := K)) (pe_op (op_addU (K := K)) (pe_op (op_mulU (K := K)) (pv 5) pe_int) (pe_op (op_mulU (K := K)) (pv 4) pe_int)) pe_int) pa_nil)) pe_int)) (pss_one (ps_for PassesOwn.never rfl (pi_range1 rfl (T.free 4) (pa_cons pe_int pa_nil)) (pg_name (i := 6) sc__law_digits.nd rfl (Or.inl rfl)) (pss_cons (ps_set (i := 7) sc__law_digits.nd rfl (Or.inl rfl) (pe_op op_modU (pe_callTy cr_int rfl (T.free 0) (by decide +kernel) (pa_cons (pe_op (op_addU (K := K)) (pe_op (op_addU (K := K)) (pe_op (op_mulU (K := K)) (pv 7) pe_int) (pe_op (op_mulU (K := K)) pe_int (pv 6))) pe_int) pa_nil)) pe_int)) (pss_one (ps_expr (pe_appendU (K := K) (pv 3) (pe_op op_modU (pe_callTy cr_int rfl (T.free 0) (by decide +kernel) (pa_cons (pe_op op_divU (pv 7) pe_int) pa_nil)) pe_int))))))))))))) (pss_one (ps_ret (pv 3))))), ?_⟩
  walk_at "st"
  walk_at "nw"
  rintro p _ ⟨hp, rfl⟩
  walk_at "st"
  refine forR (fun i σ H' => ∃ (ds : List Int) (v4 v5 v6 v7 : Option V), σ = [some (.ref a), some (.int 0), some (.int 63), some (.ref p), v4, v5, v6, v7] ∧ H' = upd H p (.lst (ds.map V.int)) ∧ ds.length ≤ 60 * i)
    ⟨[], _, _, _, _, rfl, rfl, Nat.le_refl _⟩ ?_ ?_
  · rintro i σ _ hi ⟨ds, v4, v5, v6, v7, rfl, rfl, hl⟩
    have hi : i < 63 := hi
    walk_at "st"
    refine ⟨a, ns, _, rfl, by walk_at "lk", by omega, fun n => ?_⟩
    walk_at "st"
    refine c_cut (fun σ' H' => ∃ m : Int, σ' = [some (.ref a), some (.int 0), some (.int 63), some (.ref p), some (.int (0 + (i : Int))), some (.int m), v6, v7] ∧ H' = upd H p (.lst (ds.map V.int))) ?_ ?_
    · walk_at "st"
      refine c_ite (fun hlt => ?_) (fun hlt => ?_)
      · walk_at "st"
        exact ⟨_, rfl, rfl⟩
      · walk_at "st"
        exact ⟨_, rfl, rfl⟩
    · rintro _ _ ⟨m, rfl, rfl⟩
      walk_at "st"
      refine c_ite (fun hlt => ?_) (fun hlt => ?_)
      · walk_at "st"
        refine forR (fun j σ H' => ∃ (ds' : List Int) (v6 : Option V) (m : Int), σ = [some (.ref a), some (.int 0), some (.int 63), some (.ref p), some (.int (0 + (i : Int))), some (.int m), v6, v7] ∧ H' = upd H p (.lst (ds'.map V.int)) ∧ ds'.length ≤ ds.length + j)
          ⟨ds, _, _, rfl, rfl, Nat.le_refl _⟩ ?_ ?_
        · rintro j σ _ hj ⟨ds', v6, m, rfl, rfl, hl'⟩
          have hj : j < 60 := hj
          walk_at "st"
          refine c_ite (fun hlt => ?_) (fun hlt => ?_)
          · walk_at "st"
            refine ⟨ds' ++ [m % 1000], _, _, rfl, by rw [upd_upd, map_snocI], by rw [List.length_append, List.length_singleton]; omega⟩
          · walk_at "st"
            exact ⟨ds', _, _, rfl, rfl, by omega⟩
        · rintro σ _ ⟨ds', v6, m, rfl, rfl, hl'⟩
          have hl' : ds'.length ≤ ds.length + 60 := hl'
          walk_at "st"
          exact ⟨ds', _, _, _, _, rfl, rfl, by omega⟩
      · walk_at "st"
        refine forR (fun j σ H' => ∃ (ds' : List Int) (v6 : Option V) (m z : Int), σ = [some (.ref a), some (.int 0), some (.int 63), some (.ref p), some (.int (0 + (i : Int))), some (.int m), v6, some (.int z)] ∧ H' = upd H p (.lst (ds'.map V.int)) ∧ ds'.length ≤ ds.length + j)
          ⟨ds, _, _, _, rfl, rfl, Nat.le_refl _⟩ ?_ ?_
        · rintro j σ _ hj ⟨ds', v6, m, z, rfl, rfl, hl'⟩
          have hj : j < 12 := hj
          walk_at "st"
          refine ⟨ds' ++ [_], _, _, _, rfl, by rw [upd_upd, map_snocI], by rw [List.length_append, List.length_singleton]; omega⟩
        · rintro σ _ ⟨ds', v6, m, z, rfl, rfl, hl'⟩
          have hl' : ds'.length ≤ ds.length + 12 := hl'
          walk_at "st"
          exact ⟨ds', _, _, _, _, rfl, rfl, by omega⟩
  · rintro σ _ ⟨ds, v4, v5, v6, v7, rfl, rfl, hl⟩
    walk_at "st"
    exact q p ds hp
theorem D__law_digits (T : TX K mg) : DefAt P w K mg base CX0 "_law_digits" 3 ["_law_script", "_law_first", "_law_last"] (spDigits K) :=
  def_of T 2 5 sc__law_digits bn__law_digits (fun vs H Q E h => by obtain ⟨b, d, rfl, _⟩ := h; rfl) (b__law_digits T)
end
end K44



namespace K44
open PySem L2 Sa
/-! what a block says -/
def goodC (c : Int) : Bool := decide (c = 10) || (decide (32 ≤ c) && decide (c ≤ 126) && !decide (c = 37))
theorem goodC_rng {c : Int} (h : goodC c = true) : 10 ≤ c ∧ c ≤ 126 := by
  simp only [goodC, Bool.or_eq_true, Bool.and_eq_true, decide_eq_true_eq, Bool.not_eq_true', decide_eq_false_iff_not] at h
  omega
section
variable {P : Program} {w : World} {K : PySem.W.Frag} {mg : Str → Option Value} {base : Heap}
theorem sc__are_codes : FnScope ["codes", "code"] ["codes"] (defScope s__are_codes) := ⟨rfl, rfl, rfl, by decide +kernel, rfl, by decide +kernel, by decide +kernel⟩
theorem bn__are_codes : BindN "_are_codes" s__are_codes ["codes"] := fun _ _ _ _ _ _ us hl => match us, hl with | [_], _ => rfl
def spAreCodes (K : PySem.W.Frag) : Sp := fun vs H Q _ => ∃ (a : Addr) (cs : List Int), vs = [.ref a] ∧ SqL K H a (cs.map V.int) ∧ Q (.bl (cs.all goodC)) H
theorem b__are_codes (T : TX K mg) : Body P w K mg base "_are_codes" s__are_codes ["codes", "code"] 1 (spAreCodes K) := by
  intro cdv A outer s H vs Q E h X hr
  obtain ⟨a, cs, rfl, hs, q⟩ := h
  refine ⟨_, (pss_cons (ps_for PassesOwn.never rfl (pi_listU (K := K) (pv 0)) (pg_name (i := 1) sc__are_codes.nd rfl (Or.inl rfl)) (pss_one (ps_if (PW.pt (pw_and (pt_cmpR (op_neU (K := K) hr.units) (pv 1) (pe_gInt (T.int 7)) (nomark _)) (pw_and1 (PW.pt (pw_or (pt_not (pt_chain op_leU op_leU pe_int (pv 1) pe_int)) (pw_or1 (pt_cmpR (op_eqU (K := K) hr.units) (pv 1) (pe_gInt (T.int 6)) (nomark _)))))))) (pss_one (ps_ret pe_bl)) pss_nil))) (pss_one (ps_ret pe_bl))), ?_⟩
  walk_at "st"
  refine forL (cs.map V.int) (fun i σ H' => ∃ v, σ = [some (.ref a), v] ∧ H = H' ∧ (cs.take i).all goodC = true) ⟨_, rfl, rfl, rfl⟩ (by rintro i σ _ _ ⟨v, rfl, rfl, _⟩; exact hs) ?_ ?_
  · rintro i x σ _ hx ⟨v, rfl, rfl, hg⟩
    rw [List.getElem?_map] at hx
    obtain ⟨c, hc, rfl⟩ := Option.map_eq_some_iff.mp hx
    have yes : goodC c = true → (cs.take (i + 1)).all goodC = true := fun h => by rw [take_succ' hc, List.all_append, hg]; simp [h]
    have no : goodC c = false → Q (.bl false) H := fun h => by
      have e : cs.all goodC = false := by
        cases q2 : cs.all goodC with
        | false => rfl
        | true => rw [List.all_eq_true.mp q2 c (List.mem_of_getElem? hc)] at h; cases h
      rw [e] at q
      exact q
    walk_at "go"
    all_goals first
      | exact no (by simp [goodC] <;> omega)
      | exact ⟨_, rfl, rfl, yes (by simp [goodC] <;> omega)⟩
  · rintro σ _ ⟨v, rfl, rfl, hg⟩
    walk_at "st"
    rw [List.length_map, ← List.length_map (f := V.int), List.length_map, List.take_length] at hg
    rw [hg] at q
    exact q
theorem D__are_codes (T : TX K mg) : DefAt P w K mg base CX0 "_are_codes" 2 ["codes"] (spAreCodes K) :=
  def_of T 3 8 sc__are_codes bn__are_codes (fun vs H Q E h => by obtain ⟨b, d, rfl, _⟩ := h; rfl) (b__are_codes T)
theorem sc__sign : FnScope ["code"] ["code"] (defScope s__sign) := ⟨rfl, rfl, rfl, by decide +kernel, rfl, by decide +kernel, by decide +kernel⟩
theorem bn__sign : BindN "_sign" s__sign ["code"] := fun _ _ _ _ _ _ us hl => match us, hl with | [_], _ => rfl
theorem signs_lo : ∀ c : Nat, c < 37 → 32 ≤ c → atI (PySem.Str.ofString " !\"#$&'()*+,-./0123456789:;<=>?@ABCDEFGHIJKLMNOPQRSTUVWXYZ[\\]^_`abcdefghijklmnopqrstuvwxyz{|}~").cps.toList ((c : Int) - 32) = some c := by decide +kernel
theorem signs_hi : ∀ c : Nat, c < 127 → 38 ≤ c → atI (PySem.Str.ofString " !\"#$&'()*+,-./0123456789:;<=>?@ABCDEFGHIJKLMNOPQRSTUVWXYZ[\\]^_`abcdefghijklmnopqrstuvwxyz{|}~").cps.toList ((c : Int) - 33) = some c := by decide +kernel
def spSign : Sp := fun vs H Q _ => ∃ (c : Nat), vs = [.int c] ∧ goodC c = true ∧ Q (.str (txt [c])) H
theorem b__sign (T : TX K mg) : Body P w K mg base "_sign" s__sign ["code"] 1 spSign := by
  intro cdv A outer s H vs Q E h X hr
  obtain ⟨c, rfl, hg, q⟩ := h
  have hg2 : c = 10 ∨ (32 ≤ c ∧ c ≤ 126 ∧ c ≠ 37) := by
    simp only [goodC, Bool.or_eq_true, Bool.and_eq_true, decide_eq_true_eq, Bool.not_eq_true', decide_eq_false_iff_not] at hg
    omega
  refine ⟨_, (pss_cons (ps_if (pt_cmpR (op_eqU (K := K) hr.units) (pv 0) (pe_gInt (T.int 7)) (nomark _)) (pss_one (ps_ret pe_str)) pss_nil) (pss_one (ps_ret (pe_ifExp (pt_cmpR op_ltU (pv 0) (pe_gInt (T.int 6)) (nomark _)) (pe_ix (ix_U (K := K)) (pe_gStr (T.str 9)) (pe_op op_subU (pv 0) pe_int) (fun _ _ => rfl)) (pe_ix (ix_U (K := K)) (pe_gStr (T.str 9)) (pe_op op_subU (pv 0) pe_int) (fun _ _ => rfl)))))), ?_⟩
  walk_at "go"
  · have e : c = 10 := by omega
    subst e
    exact q
  · exact c_ixS (by decide +kernel) (signs_lo c (by omega) (by omega)) q
  · exact c_ixS (by decide +kernel) (signs_hi c (by omega) (by omega)) q
theorem D__sign (T : TX K mg) : DefAt P w K mg base CX0 "_sign" 2 ["code"] spSign :=
  def_of T 4 10 sc__sign bn__sign (fun vs H Q E h => by obtain ⟨b, rfl, _⟩ := h; rfl) (b__sign T)
end
/-! what a piece says: its place, how many, the record's number, its codes -/
def codesOf (xs : List Int) : List Int := (xs.drop 6).take (xs.getD 5 0).toNat
def restOf (xs : List Int) : List Int := (xs.drop (6 + (xs.getD 5 0).toNat)).take (31 - (6 + (xs.getD 5 0).toNat))
def isPiece (xs : List Int) : Prop := xs.getD 0 0 = 76 ∧ xs.getD 31 0 = 76 ∧ xs.getD 1 0 < xs.getD 2 0 ∧ xs.getD 5 0 ≤ 24 ∧ (restOf xs).any (· != 0) = false ∧ (codesOf xs).all goodC = true
instance (xs : List Int) : Decidable (isPiece xs) := inferInstanceAs (Decidable (_ ∧ _ ∧ _ ∧ _ ∧ _ ∧ _))
structure Bytes (xs : List Int) : Prop where
  len : xs.length = 32
  rng : ∀ x ∈ xs, 0 ≤ x ∧ x ≤ 255
theorem Bytes.at {xs : List Int} (h : Bytes xs) (i : Nat) : 0 ≤ xs.getD i 0 ∧ xs.getD i 0 ≤ 255 := by
  rw [List.getD_eq_getElem?_getD]
  cases e : xs[i]? with
  | none => exact ⟨Int.le_refl _, by decide⟩
  | some x => exact h.rng x (List.mem_of_getElem? e)
theorem cut16 {xs : List Int} (h : xs.length = 32) : (xs.drop 1).take 5 = [xs.getD 1 0, xs.getD 2 0, xs.getD 3 0, xs.getD 4 0, xs.getD 5 0] := by
  rcases xs with _ | ⟨x0, _ | ⟨x1, _ | ⟨x2, _ | ⟨x3, _ | ⟨x4, _ | ⟨x5, r⟩⟩⟩⟩⟩⟩ <;> first | rfl | (exfalso; simp at h)
/-- the answer v at H says what the piece xs says -/
def Said (H : Hp) (v : V) (xs : List Int) : Prop :=
  (¬ isPiece xs ∧ v = .non) ∨ (isPiece xs ∧ ∃ p, v = .ref p ∧ H p = some (.tup [.int (xs.getD 1 0), .int (xs.getD 2 0), .int (xs.getD 3 0 * 256 + xs.getD 4 0), .str (txt ((codesOf xs).map Int.toNat))]))
def spSays (K : PySem.W.Frag) : Sp := fun vs H Q _ => ∃ (a : Addr) (xs : List Int), vs = [.ref a] ∧ SqL K H a (xs.map V.int) ∧ Bytes xs ∧ ∀ v H', Kp [] H H' → Said H' v xs → Q v H'
section
variable {P : Program} {w : World} {K : PySem.W.Frag} {mg : Str → Option Value} {base : Heap}
theorem sc_decode_piece : FnScope ["block", "place", "many", "high", "low", "count", "codes", "code"] ["block"] (defScope s_decode_piece) := ⟨rfl, rfl, rfl, by decide +kernel, rfl, by decide +kernel, by decide +kernel⟩
theorem bn_decode_piece : BindN "decode_piece" s_decode_piece ["block"] := fun _ _ _ _ _ _ us hl => match us, hl with | [_], _ => rfl
theorem b_decode_piece (T : TX K mg) : Body P w K mg base "decode_piece" s_decode_piece ["block", "place", "many", "high", "low", "count", "codes", "code"] 2 (spSays K) := by
  intro cdv A outer s H vs Q E h X hr
  obtain ⟨a, xs, rfl, hs, hb, q⟩ := h
  have D__are_codes : DefAt P w K mg base CX0 "_are_codes" 2 ["codes"] (spAreCodes K) := D__are_codes T
  have D__sign : DefAt P w K mg base CX0 "_sign" 2 ["code"] spSign := D__sign T
  have hx : ∀ i : Nat, i < 32 → atI (xs.map V.int) (i : Int) = some (.int (xs.getD i 0)) := fun i hi => by
    rw [atI_ints (by omega) (by rw [hb.len]; omega)]
    simp
  refine ⟨_, (pss_cons (ps_if (PW.pt (pw_or (pt_cmpR (op_neU (K := K) hr.units) (pe_ix (ix_U (K := K)) (pv 0) pe_int (fun _ _ => rfl)) (pe_gInt (T.int 13)) (nomark _)) (pw_or1 (pt_cmpR (op_neU (K := K) hr.units) (pe_ix (ix_U (K := K)) (pv 0) pe_int (fun _ _ => rfl)) (pe_gInt (T.int 13)) (nomark _))))) (pss_one (ps_ret pe_non)) pss_nil) (pss_cons (ps_asg (pe_slice (sl_U (K := K)) (pv 0) (po_some pe_int) (po_some pe_int)) (pg_lstU (K := K) (n := 5) rfl (pgs_cons (pg_name (i := 1) sc_decode_piece.nd rfl (Or.inl rfl)) (pgs_cons (pg_name (i := 2) sc_decode_piece.nd rfl (Or.inl rfl)) (pgs_cons (pg_name (i := 3) sc_decode_piece.nd rfl (Or.inl rfl)) (pgs_cons (pg_name (i := 4) sc_decode_piece.nd rfl (Or.inl rfl)) (pgs_cons (pg_name (i := 5) sc_decode_piece.nd rfl (Or.inl rfl)) pgs_nil))))))) (pss_cons (ps_if (PW.pt (pw_or (pt_cmpR op_geU (pv 1) (pv 2) (nomark _)) (pw_or (pt_cmpR op_gtU (pv 5) (pe_gInt (T.int 12)) (nomark _)) (pw_or1 (pt_tru (K := K) (pe_callB (cr_anyU (K := K) rfl) rfl (T.free 11) (by decide +kernel) (pa_cons (pe_slice (sl_U (K := K)) (pv 0) (po_some (pe_op (op_addU (K := K)) pe_int (pv 5))) (po_some pe_int)) pa_nil))))))) (pss_one (ps_ret pe_non)) pss_nil) (pss_cons (ps_set (i := 6) sc_decode_piece.nd rfl (Or.inl rfl) (pe_slice (sl_U (K := K)) (pv 0) (po_some pe_int) (po_some (pe_op (op_addU (K := K)) pe_int (pv 5))))) (pss_cons (ps_if (pt_not (pt_tru (K := K) (pe_callA D__are_codes hr pass0 (pa_cons (pv 6) pa_nil)))) (pss_one (ps_ret pe_non)) pss_nil) (pss_one (ps_ret (pe_tup (pa_cons (pv 1) (pa_cons (pv 2) (pa_cons (pe_op (op_addU (K := K)) (pe_op (op_mulU (K := K)) (pv 3) pe_int) (pv 4)) (pa_cons (pe_joinU (K := K) pe_str (pe_lc (own := [("code", 7)]) rfl sc_decode_piece.nd (pi_listU (K := K) (pv 6)) (blkOk_by (N := ["block", "place", "many", "high", "low", "count", "codes", "code"]) (sc := defScope s_decode_piece) (by decide +kernel)) (fun _ _ _ _ _ => (pg_name (i := 7) sc_decode_piece.nd rfl (Or.inl rfl))) (fun _ _ _ _ _ => pts_nil) (fun _ _ _ _ _ => (pe_callA D__sign hr pass0 (pa_cons (pv 7) pa_nil))))) pa_nil)))))))))))), ?_⟩
  walk_at "st"
  refine c_ixL hs (hx 0 (by decide)) ?_
  walk_at "st"
  have no : ∀ H', Kp [] H H' → ¬ isPiece xs → Q .non H' := fun H' e h => q _ _ e (.inl ⟨h, rfl⟩)
  refine c_iteN (fun h0 => ?_) (fun h0 => ?_)
  · walk_at "st"
    exact no _ Kp.refl fun z => h0 z.1
  walk_at "st"
  refine c_ixL hs (hx 31 (by decide)) ?_
  walk_at "st"
  refine c_iteN (fun h31 => ?_) (fun h31 => ?_)
  · walk_at "st"
    exact no _ Kp.refl fun z => h31 z.2.1
  walk_at "st"
  refine c_slL hs ?_
  rintro p _ ⟨hp, rfl⟩
  have hs1 : SqL K (upd H p (.lst ([xs.getD 1 0, xs.getD 2 0, xs.getD 3 0, xs.getD 4 0, xs.getD 5 0].map V.int))) a (xs.map V.int) := SqL.new hp hs
  have e1 : Kp [] H (upd H p (.lst ([xs.getD 1 0, xs.getD 2 0, xs.getD 3 0, xs.getD 4 0, xs.getD 5 0].map V.int))) := Kp.new hp
  rw [cutV_ints, cutL_lt (by decide) (by decide) (by rw [hb.len]; decide)]
  show gLst _ _ _ _ _ (upd H p (.lst (((xs.drop 1).take 5).map V.int))) _
  rw [cut16 hb.len]
  refine c_unL (SqL.of upd_same) rfl ?_
  clear hp
  generalize upd H p (.lst ([xs.getD 1 0, xs.getD 2 0, xs.getD 3 0, xs.getD 4 0, xs.getD 5 0].map V.int)) = H1 at hs1 e1 ⊢
  have b5 := hb.at 5
  show gCons _ _ [V.int (xs.getD 1 0), V.int (xs.getD 2 0), V.int (xs.getD 3 0), V.int (xs.getD 4 0), V.int (xs.getD 5 0)] _ _ _
  walk_at "st"
  refine c_ite (fun h1 => ?_) (fun h1 => ?_)
  · walk_at "st"
    exact no _ e1 fun z => absurd z.2.2.1 (by omega)
  walk_at "st"
  refine c_ite (fun h2 => ?_) (fun h2 => ?_)
  · walk_at "st"
    exact no _ e1 fun z => absurd z.2.2.2.1 (by omega)
  walk_at "st"
  refine c_slL hs1 ?_
  rintro p2 _ ⟨hp2, rfl⟩
  rw [cutV_ints, cutL_lt (by omega) (by omega) (by rw [hb.len]; decide)]
  have er : (xs.drop (6 + xs.getD 5 0).toNat).take ((31 : Int).toNat - (6 + xs.getD 5 0).toNat) = restOf xs := by
    unfold restOf
    have z : (6 + xs.getD 5 0).toNat = 6 + (xs.getD 5 0).toNat := by omega
    rw [z]
    rfl
  rw [er]
  have hs2 : SqL K (upd H1 p2 (.lst ((restOf xs).map V.int))) a (xs.map V.int) := SqL.new hp2 hs1
  have e2 : Kp [] H (upd H1 p2 (.lst ((restOf xs).map V.int))) := e1.trans (Kp.new hp2)
  walk_at "st"
  refine c_anyI (SqL.of upd_same) ?_
  clear hp2
  generalize upd H1 p2 (.lst ((restOf xs).map V.int)) = H2 at hs2 e2 ⊢
  walk_at "st"
  refine c_iteB (fun h3 => ?_) (fun h3 => ?_)
  · walk_at "st"
    exact no _ e2 fun z => by rw [z.2.2.2.2.1] at h3; cases h3
  walk_at "st"
  refine c_slL hs2 ?_
  rintro p3 _ ⟨hp3, rfl⟩
  rw [cutV_ints, cutL_lt (by decide) (by omega) (by rw [hb.len]; omega)]
  have er : (xs.drop (6 : Int).toNat).take ((6 + xs.getD 5 0).toNat - (6 : Int).toNat) = codesOf xs := by
    unfold codesOf
    have z : (6 + xs.getD 5 0).toNat - (6 : Int).toNat = (xs.getD 5 0).toNat := by omega
    rw [z]
    rfl
  rw [er]
  have hs3 : SqL K (upd H2 p3 (.lst ((codesOf xs).map V.int))) p3 ((codesOf xs).map V.int) := SqL.of upd_same
  have e3 : Kp [] H (upd H2 p3 (.lst ((codesOf xs).map V.int))) := e2.trans (Kp.new hp3)
  clear hp3
  generalize upd H2 p3 (.lst ((codesOf xs).map V.int)) = H3 at hs3 e3 ⊢
  walk_at "st"
  refine ⟨_, _, rfl, hs3, ?_⟩
  walk_at "st"
  refine c_iteNB (fun h4 => ?_) (fun h4 => ?_)
  · walk_at "st"
    exact no _ e3 fun z => by rw [z.2.2.2.2.2] at h4; cases h4
  walk_at "st"
  have len24 : (codesOf xs).length ≤ 24 := by
    unfold codesOf
    rw [List.length_take]
    omega
  refine lcL ((codesOf xs).map V.int) (fun Dl i acc H' => Kp [] H3 H' ∧ acc = ((codesOf xs).take i).map fun c => V.str (txt [c.toNat])) (fun Dl hD => ⟨Kp.new hD, rfl⟩) (fun Dl i acc H' hD e => SqL.kp e.1 hs3) ?_ ?_
  · rintro Dl i x acc H' hD hx hacc hl ⟨e, rfl⟩
    rw [List.getElem?_map] at hx
    obtain ⟨c, hc, rfl⟩ := Option.map_eq_some_iff.mp hx
    have hg : goodC c = true := List.all_eq_true.mp h4 c (List.mem_of_getElem? hc)
    have hr := goodC_rng hg
    have ec : c = ((c.toNat : Nat) : Int) := by omega
    have hi : i < (codesOf xs).length := (List.getElem?_eq_some_iff.mp hc).1
    walk_at "st"
    refine ⟨rfl, ?_⟩
    walk_at "st"
    refine ⟨c.toNat, by rw [← ec], by rw [← ec]; exact hg, ?_⟩
    exact lc_push hacc hl (by omega) ⟨e.fresh_mut hD, by rw [take_succ' hc, List.map_append]; rfl⟩
  · rintro Dl acc H' hD hacc hl ⟨e, rfl⟩
    rw [List.length_map, List.take_length] at hacc
    have ey : ((codesOf xs).map fun c => V.str (txt [c.toNat])) = (((codesOf xs).map Int.toNat).map fun c => txt [c]).map V.str := by simp [Function.comp_def]
    rw [ey] at hacc
    have es : PySem.Str.ofString "" = txt [] := by decide +kernel
    rw [es]
    refine c_join (ys := ((codesOf xs).map Int.toNat).map fun c => txt [c]) (SqL.of hacc) ?_ ?_
    · rw [sum_ones, List.length_map, txt_len]
      simp only [List.length_nil, Nat.mul_zero, Nat.add_zero]
      omega
    rw [tjoin_ones]
    walk_at "st"
    walk_at "nw"
    rintro p4 _ ⟨hp4, rfl⟩
    exact q _ _ (e3.trans (e.trans (Kp.new hp4))) (.inr ⟨⟨h0, h31, by omega, by omega, h3, h4⟩, p4, rfl, upd_same⟩)
theorem D_decode_piece (T : TX K mg) : DefAt P w K mg base CX0 "decode_piece" 3 ["block"] (spSays K) :=
  def_of T 5 14 sc_decode_piece bn_decode_piece (fun vs H Q E h => by obtain ⟨b, d, rfl, _⟩ := h; rfl) (b_decode_piece T)
end
end K44



namespace K44
open PySem L2 Sa
theorem duesigns : ∀ c : Nat, c < 127 → 32 ≤ c → c ≠ 37 → atI (PySem.Str.ofString " !\"#$?&'()*+,-./0123456789:;<=>?@ABCDEFGHIJKLMNOPQRSTUVWXYZ[\\]^_`abcdefghijklmnopqrstuvwxyz{|}~").cps.toList ((c : Int) - 32) = some c := by decide +kernel
theorem any_filter (ns : List Int) : ns.any (· != 0) = false ↔ ns.filter (fun n => !decide (n = 0)) = [] := by
  rw [List.filter_eq_nil_iff, List.any_eq_false]
  constructor
  · intro h n hn
    have := h n hn
    simpa using this
  · intro h n hn
    have := h n hn
    simpa using this
section
variable {P : Program} {w : World} {K : PySem.W.Frag} {mg : Str → Option Value} {base : Heap}
theorem sc__law_due : FnScope ["_law_block", "_law_signs", "_law_text", "_law_code", "_law_byte"] ["_law_block"] (defScope s__law_due) := ⟨rfl, rfl, rfl, by decide +kernel, rfl, by decide +kernel, by decide +kernel⟩
theorem bn__law_due : BindN "_law_due" s__law_due ["_law_block"] := fun _ _ _ _ _ _ us hl => match us, hl with | [_], _ => rfl
theorem b__law_due (T : TX K mg) : Body P w K mg base "_law_due" s__law_due ["_law_block", "_law_signs", "_law_text", "_law_code", "_law_byte"] 1 (spSays K) := by
  intro cdv A outer s H vs Q E h X hr
  obtain ⟨a, xs, rfl, hs, hb, q⟩ := h
  have hx : ∀ i : Nat, i < 32 → atI (xs.map V.int) (i : Int) = some (.int (xs.getD i 0)) := fun i hi => by
    rw [atI_ints (by omega) (by rw [hb.len]; omega)]
    simp
  have no : ∀ H', Kp [] H H' → ¬ isPiece xs → Q .non H' := fun H' e h => q _ _ e (.inl ⟨h, rfl⟩)
  have b5 := hb.at 5
  refine ⟨_, (pss_cons (ps_if (PW.pt (pw_or (pt_cmpR (op_neU (K := K) hr.units) (pe_ix (ix_U (K := K)) (pv 0) pe_int (fun _ _ => rfl)) pe_int (nomark _)) (pw_or (pt_cmpR (op_neU (K := K) hr.units) (pe_ix (ix_U (K := K)) (pv 0) pe_int (fun _ _ => rfl)) pe_int (nomark _)) (pw_or (pt_cmpR op_geU (pe_ix (ix_U (K := K)) (pv 0) pe_int (fun _ _ => rfl)) (pe_ix (ix_U (K := K)) (pv 0) pe_int (fun _ _ => rfl)) (nomark _)) (pw_or1 (pt_cmpR op_gtU (pe_ix (ix_U (K := K)) (pv 0) pe_int (fun _ _ => rfl)) pe_int (nomark _))))))) (pss_one (ps_ret pe_non)) pss_nil) (pss_cons (ps_set (i := 1) sc__law_due.nd rfl (Or.inl rfl) pe_str) (pss_cons (ps_set (i := 2) sc__law_due.nd rfl (Or.inl rfl) pe_str) (pss_cons (ps_for PassesOwn.never rfl (pi_listU (K := K) (pe_slice (sl_U (K := K)) (pv 0) (po_some pe_int) (po_some (pe_op (op_addU (K := K)) pe_int (pe_ix (ix_U (K := K)) (pv 0) pe_int (fun _ _ => rfl)))))) (pg_name (i := 3) sc__law_due.nd rfl (Or.inl rfl)) (pss_one (ps_if (pt_cmpR (op_eqU (K := K) hr.units) (pv 3) pe_int (nomark _)) (pss_one (ps_set (i := 2) sc__law_due.nd rfl (Or.inl rfl) (pe_op (op_addU (K := K)) (pv 2) pe_str))) (pss_one (ps_if (PW.pt (pw_or (pt_cmpR (op_eqU (K := K) hr.units) (pv 3) pe_int (nomark _)) (pw_or (pt_cmpR op_ltU (pv 3) pe_int (nomark _)) (pw_or1 (pt_cmpR op_gtU (pv 3) pe_int (nomark _)))))) (pss_one (ps_ret pe_non)) (pss_one (ps_set (i := 2) sc__law_due.nd rfl (Or.inl rfl) (pe_op (op_addU (K := K)) (pv 2) (pe_ix (ix_U (K := K)) (pv 1) (pe_op op_subU (pv 3) pe_int) (fun _ _ => rfl)))))))))) (pss_cons (ps_if (pt_cmpR (op_neU (K := K) hr.units) (pe_lc (own := [("_law_byte", 4)]) rfl sc__law_due.nd (pi_listU (K := K) (pe_slice (sl_U (K := K)) (pv 0) (po_some (pe_op (op_addU (K := K)) pe_int (pe_ix (ix_U (K := K)) (pv 0) pe_int (fun _ _ => rfl)))) (po_some pe_int))) (blkOk_by (N := ["_law_block", "_law_signs", "_law_text", "_law_code", "_law_byte"]) (sc := defScope s__law_due) (by decide +kernel)) (fun _ _ _ _ _ => (pg_name (i := 4) sc__law_due.nd rfl (Or.inl rfl))) (fun _ _ _ _ _ => (pts_one (pt_cmpR (op_neU (K := K) hr.units) (pv 4) pe_int (nomark _)))) (fun _ _ _ _ _ => (pv 4))) (pe_lst pa_nil) (nomark _)) (pss_one (ps_ret pe_non)) pss_nil) (pss_one (ps_ret (pe_tup (pa_cons (pe_ix (ix_U (K := K)) (pv 0) pe_int (fun _ _ => rfl)) (pa_cons (pe_ix (ix_U (K := K)) (pv 0) pe_int (fun _ _ => rfl)) (pa_cons (pe_op (op_addU (K := K)) (pe_op (op_mulU (K := K)) pe_int (pe_ix (ix_U (K := K)) (pv 0) pe_int (fun _ _ => rfl))) (pe_ix (ix_U (K := K)) (pv 0) pe_int (fun _ _ => rfl))) (pa_cons (pv 2) pa_nil)))))))))))), ?_⟩
  walk_at "st"
  refine c_ixL hs (hx 0 (by decide)) ?_
  walk_at "st"
  refine c_iteN (fun h0 => ?_) (fun h0 => ?_)
  · walk_at "st"
    exact no _ Kp.refl fun z => h0 z.1
  walk_at "st"
  refine c_ixL hs (hx 31 (by decide)) ?_
  walk_at "st"
  refine c_iteN (fun h31 => ?_) (fun h31 => ?_)
  · walk_at "st"
    exact no _ Kp.refl fun z => h31 z.2.1
  walk_at "st"
  refine c_ixL hs (hx 1 (by decide)) ?_
  walk_at "st"
  refine c_ixL hs (hx 2 (by decide)) ?_
  walk_at "st"
  refine c_ite (fun h1 => ?_) (fun h1 => ?_)
  · walk_at "st"
    exact no _ Kp.refl fun z => absurd z.2.2.1 (by omega)
  walk_at "st"
  refine c_ixL hs (hx 5 (by decide)) ?_
  walk_at "st"
  refine c_ite (fun h2 => ?_) (fun h2 => ?_)
  · walk_at "st"
    exact no _ Kp.refl fun z => absurd z.2.2.2.1 (by omega)
  walk_at "st"
  refine c_ixL hs (hx 5 (by decide)) ?_
  walk_at "st"
  refine c_slL hs ?_
  rintro p3 _ ⟨hp3, rfl⟩
  rw [cutV_ints, cutL_lt (by decide) (by omega) (by rw [hb.len]; omega)]
  have er : (xs.drop (6 : Int).toNat).take ((6 + xs.getD 5 0).toNat - (6 : Int).toNat) = codesOf xs := by
    unfold codesOf
    have z : (6 + xs.getD 5 0).toNat - (6 : Int).toNat = (xs.getD 5 0).toNat := by omega
    rw [z]
    rfl
  rw [er]
  have hs3 : SqL K (upd H p3 (.lst ((codesOf xs).map V.int))) p3 ((codesOf xs).map V.int) := SqL.of upd_same
  have hs4 : SqL K (upd H p3 (.lst ((codesOf xs).map V.int))) a (xs.map V.int) := SqL.new hp3 hs
  have e3 : Kp [] H (upd H p3 (.lst ((codesOf xs).map V.int))) := Kp.new hp3
  have len24 : (codesOf xs).length ≤ 24 := by
    unfold codesOf
    rw [List.length_take]
    omega
  clear hp3
  generalize upd H p3 (.lst ((codesOf xs).map V.int)) = H3 at hs3 hs4 e3 ⊢
  walk_at "st"
  have es : PySem.Str.ofString "" = txt [] := by decide +kernel
  have en : PySem.Str.ofString "\n" = txt [10] := by decide +kernel
  refine forL ((codesOf xs).map V.int) (fun i σ H' => ∃ v, σ = [some (.ref a), some (.str (PySem.Str.ofString " !\"#$?&'()*+,-./0123456789:;<=>?@ABCDEFGHIJKLMNOPQRSTUVWXYZ[\\]^_`abcdefghijklmnopqrstuvwxyz{|}~")), some (.str (txt (((codesOf xs).take i).map Int.toNat))), v, none] ∧ H3 = H' ∧ ((codesOf xs).take i).all goodC = true)
    ⟨none, by rw [es]; rfl, rfl, rfl⟩ (by rintro i σ _ _ ⟨v, _, rfl, _⟩; exact hs3) ?_ ?_
  · rintro i x σ _ hx ⟨v, rfl, rfl, hg⟩
    rw [List.getElem?_map] at hx
    obtain ⟨c, hc, rfl⟩ := Option.map_eq_some_iff.mp hx
    have hi : i < (codesOf xs).length := (List.getElem?_eq_some_iff.mp hc).1
    have yes : goodC c = true → ((codesOf xs).take (i + 1)).all goodC = true := fun h => by rw [take_succ' hc, List.all_append, hg]; simp [h]
    have no2 : goodC c = false → Q .non H3 := fun h => no _ e3 fun z => by
      have := List.all_eq_true.mp z.2.2.2.2.2 c (List.mem_of_getElem? hc)
      rw [h] at this
      cases this
    have tx : ((codesOf xs).take (i + 1)).map Int.toNat = ((codesOf xs).take i).map Int.toNat ++ [c.toNat] := by rw [take_succ' hc, List.map_append]; rfl
    have sz : (txt (((codesOf xs).take i).map Int.toNat)).length ≤ 24 := by
      rw [txt_len, List.length_map, List.length_take]
      omega
    walk_at "st"
    refine c_ite (fun h => ?_) (fun h => ?_)
    · walk_at "st"
      rw [en]
      refine c_addS (by rw [txt_len [10], sizeLine_eq]; simp only [List.length_cons, List.length_nil]; omega) ?_
      walk_at "st"
      refine ⟨some (.int c), ?_, rfl, yes (by simp [goodC, h])⟩
      rw [tx, txt_app, h]
      rfl
    · walk_at "st"
      refine c_ite (fun h' => ?_) (fun h' => ?_)
      · walk_at "st"
        exact no2 (by simp [goodC]; omega)
      walk_at "st"
      refine c_ite (fun h' => ?_) (fun h' => ?_)
      · walk_at "st"
        exact no2 (by simp [goodC]; omega)
      walk_at "st"
      refine c_ite (fun h' => ?_) (fun h' => ?_)
      · walk_at "st"
        exact no2 (by simp [goodC]; omega)
      walk_at "st"
      have ec : c = ((c.toNat : Nat) : Int) := by omega
      refine c_ixS (c := c.toNat) (by decide +kernel) ?_ ?_
      · have z := duesigns c.toNat (by omega) (by omega) (by omega)
        rw [← ec] at z
        exact z
      walk_at "st"
      refine c_addS (by rw [txt_one, txt_len [_], sizeLine_eq]; simp only [List.length_cons, List.length_nil]; omega) ?_
      walk_at "st"
      refine ⟨some (.int c), ?_, rfl, yes (by simp [goodC]; omega)⟩
      rw [tx, ← txt_app]
      rfl
  · rintro σ _ ⟨v, rfl, rfl, h4⟩
    rw [List.length_map, List.take_length] at h4 ⊢
    walk_at "st"
    refine c_ixL hs4 (hx 5 (by decide)) ?_
    walk_at "st"
    refine c_slL hs4 ?_
    rintro p2 _ ⟨hp2, rfl⟩
    rw [cutV_ints, cutL_lt (by omega) (by omega) (by rw [hb.len]; decide)]
    have er : (xs.drop (6 + xs.getD 5 0).toNat).take ((31 : Int).toNat - (6 + xs.getD 5 0).toNat) = restOf xs := by
      unfold restOf
      have z : (6 + xs.getD 5 0).toNat = 6 + (xs.getD 5 0).toNat := by omega
      rw [z]
      rfl
    rw [er]
    have hs5 : SqL K (upd H3 p2 (.lst ((restOf xs).map V.int))) a (xs.map V.int) := SqL.new hp2 hs4
    have hs6 : SqL K (upd H3 p2 (.lst ((restOf xs).map V.int))) p2 ((restOf xs).map V.int) := SqL.of upd_same
    have e5 : Kp [] H (upd H3 p2 (.lst ((restOf xs).map V.int))) := e3.trans (Kp.new hp2)
    clear hp2
    generalize upd H3 p2 (.lst ((restOf xs).map V.int)) = H5 at hs5 hs6 e5 ⊢
    walk_at "st"
    have len31 : (restOf xs).length ≤ 31 := by
      unfold restOf
      rw [List.length_take]
      omega
    refine lcL ((restOf xs).map V.int) (fun Dl i acc H' => Kp [] H5 H' ∧ acc = (((restOf xs).take i).filter fun n => !decide (n = 0)).map V.int) (fun Dl hD => ⟨Kp.new hD, rfl⟩) (fun Dl i acc H' hD e => SqL.kp e.1 hs6) ?_ ?_
    · rintro Dl i x acc H' hD hx hacc hl ⟨e, rfl⟩
      rw [List.getElem?_map] at hx
      obtain ⟨c, hc, rfl⟩ := Option.map_eq_some_iff.mp hx
      have hi : i < (restOf xs).length := (List.getElem?_eq_some_iff.mp hc).1
      walk_at "st"
      refine ⟨rfl, ?_⟩
      walk_at "st"
      refine c_iteN (fun h => ?_) (fun h => ?_)
      · walk_at "st"
        exact lc_push hacc hl (by omega) ⟨e.fresh_mut hD, by rw [take_succ' hc, List.filter_append, List.map_append]; simp [h]⟩
      · exact lc_skip hacc hl ⟨e, by rw [take_succ' hc, List.filter_append, List.map_append]; simp [h]⟩
    · rintro Dl acc H' hD hacc hl ⟨e, rfl⟩
      rw [List.length_map, List.take_length] at hacc
      walk_at "st"
      walk_at "nw"
      rintro p6 _ ⟨hp6, rfl⟩
      walk_at "st"
      refine c_neLI (ns := (restOf xs).filter fun n => !decide (n = 0)) (ms := []) (SqL.new hp6 (SqL.of hacc)) (SqL.of upd_same) ?_
      have e7 : Kp [] H (upd H' p6 (.lst ([] : List V))) := e5.trans (e.trans (Kp.new hp6))
      have hs7 : SqL K (upd H' p6 (.lst ([] : List V))) a (xs.map V.int) := SqL.new hp6 (SqL.kp e hs5)
      clear hp6
      generalize upd H' p6 (.lst ([] : List V)) = H7 at hs7 e7 ⊢
      walk_at "st"
      refine c_iteN (fun h => ?_) (fun h => ?_)
      · walk_at "st"
        exact no _ e7 fun z => h ((any_filter _).mp z.2.2.2.2.1)
      walk_at "st"
      refine c_ixL hs7 (hx 1 (by decide)) ?_
      walk_at "st"
      refine c_ixL hs7 (hx 2 (by decide)) ?_
      walk_at "st"
      refine c_ixL hs7 (hx 3 (by decide)) ?_
      walk_at "st"
      refine c_ixL hs7 (hx 4 (by decide)) ?_
      walk_at "st"
      walk_at "nw"
      rintro p8 _ ⟨hp8, rfl⟩
      refine q _ _ (e7.trans (Kp.new hp8)) (.inr ⟨⟨h0, h31, by omega, by omega, (any_filter _).mpr h, h4⟩, p8, rfl, ?_⟩)
      rw [Int.mul_comm]
      exact upd_same
theorem D__law_due (T : TX K mg) : DefAt P w K mg base CX0 "_law_due" 2 ["_law_block"] (spSays K) :=
  def_of T 6 15 sc__law_due bn__law_due (fun vs H Q E h => by obtain ⟨b, d, rfl, _⟩ := h; rfl) (b__law_due T)
end
end K44



namespace K44
open PySem L2 Sa
/-! the pieces that the law builds -/
def partOf (cs : List Nat) (k : Nat) : List Nat := (cs.drop (24 * k)).take 24
def headOf (n : Int) (cs : List Nat) (many : Nat) (k : Nat) : List Int := [76, (k : Int), (many : Int), n / 256, n % 256, ((partOf cs k).length : Int)] ++ (partOf cs k).map Int.ofNat
def blockOf (n : Int) (cs : List Nat) (many : Nat) (k : Nat) : List Int := headOf n cs many k ++ List.replicate (31 - (headOf n cs many k).length) 0 ++ [76]
def manyOf (cs : List Nat) : Nat := max 1 ((cs.length + 23) / 24)
theorem rep_ints (k : Nat) (z : Int) : (List.replicate k [V.int z]).flatten = (List.replicate k z).map V.int := by
  induction k with
  | zero => rfl
  | succ k ih => rw [List.replicate_succ, List.flatten_cons, ih, List.replicate_succ]; rfl
def spPieces (K : PySem.W.Frag) : Sp := fun vs H Q _ => ∃ (n : Int) (cs : List Nat), vs = [.int n, .str (txt cs)] ∧ cs.length ≤ 10000 ∧
  ∀ (p : Addr) (qs : List Addr) (H' : Hp), Kp [] H H' → H p = none → H' p = some (.lst (qs.map V.ref)) → qs.length = manyOf cs →
    (∀ k q, qs[k]? = some q → H q = none ∧ H' q = some (.lst ((blockOf n cs (manyOf cs) k).map V.int))) → Q (.ref p) H'
section
variable {P : Program} {w : World} {K : PySem.W.Frag} {mg : Str → Option Value} {base : Heap}
theorem sc__law_pieces : FnScope ["_law_number", "_law_text", "_law_blocks", "_law_many", "_law_k", "_law_part", "_law_block", "_law_sign"] ["_law_number", "_law_text"] (defScope s__law_pieces) := ⟨rfl, rfl, rfl, by decide +kernel, rfl, by decide +kernel, by decide +kernel⟩
theorem bn__law_pieces : BindN "_law_pieces" s__law_pieces ["_law_number", "_law_text"] := fun _ _ _ _ _ _ us hl => match us, hl with | [_, _], _ => rfl
theorem b__law_pieces (T : TX K mg) : Body P w K mg base "_law_pieces" s__law_pieces ["_law_number", "_law_text", "_law_blocks", "_law_many", "_law_k", "_law_part", "_law_block", "_law_sign"] 1 (spPieces K) := by
  intro cdv A outer s H vs Q E h X hr
  obtain ⟨n, cs, rfl, hl, q⟩ := h
  refine ⟨_, (pss_cons (ps_set (i := 2) sc__law_pieces.nd rfl (Or.inl rfl) (pe_lst pa_nil)) (pss_cons (ps_set (i := 3) sc__law_pieces.nd rfl (Or.inl rfl) (pe_callB (cr_max2 rfl) rfl (T.free 17) (by decide +kernel) (pa_cons pe_int (pa_cons (pe_op op_divU (pe_op (op_addU (K := K)) (pe_callB (cr_len (K := K)) rfl (T.free 1) PySem.boot_len (pa_cons (pv 1) pa_nil)) pe_int) pe_int) pa_nil)))) (pss_cons (ps_for PassesOwn.never rfl (pi_range1 rfl (T.free 4) (pa_cons (pv 3) pa_nil)) (pg_name (i := 4) sc__law_pieces.nd rfl (Or.inl rfl)) (pss_cons (ps_set (i := 5) sc__law_pieces.nd rfl (Or.inl rfl) (pe_slice (sl_U (K := K)) (pv 1) (po_some (pe_op (op_mulU (K := K)) pe_int (pv 4))) (po_some (pe_op (op_addU (K := K)) (pe_op (op_mulU (K := K)) pe_int (pv 4)) pe_int)))) (pss_cons (ps_set (i := 6) sc__law_pieces.nd rfl (Or.inl rfl) (pe_lst (pa_cons pe_int (pa_cons (pv 4) (pa_cons (pv 3) (pa_cons (pe_op op_divU (pv 0) pe_int) (pa_cons (pe_op op_modU (pe_callTy cr_int rfl (T.free 0) (by decide +kernel) (pa_cons (pv 0) pa_nil)) pe_int) (pa_cons (pe_callB (cr_len (K := K)) rfl (T.free 1) PySem.boot_len (pa_cons (pv 5) pa_nil)) pa_nil)))))))) (pss_cons (ps_for PassesOwn.never rfl (pi_str (pv 5)) (pg_name (i := 7) sc__law_pieces.nd rfl (Or.inl rfl)) (pss_one (ps_expr (pe_appendU (K := K) (pv 6) (pe_callB cr_ord rfl (T.free 16) (by decide +kernel) (pa_cons (pv 7) pa_nil)))))) (pss_one (ps_expr (pe_appendU (K := K) (pv 2) (pe_op (op_addU (K := K)) (pe_op (op_addU (K := K)) (pv 6) (pe_op (op_mulU (K := K)) (pe_lst (pa_cons pe_int pa_nil)) (pe_op op_subU pe_int (pe_callB (cr_len (K := K)) rfl (T.free 1) PySem.boot_len (pa_cons (pv 6) pa_nil))))) (pe_lst (pa_cons pe_int pa_nil)))))))))) (pss_one (ps_ret (pv 2)))))), ?_⟩
  walk_at "st"
  walk_at "nw"
  rintro p _ ⟨hp, rfl⟩
  walk_at "st"
  refine c_lenS (by rw [txt_len, sizeLine_eq]; omega) ?_
  rw [txt_len]
  walk_at "st"
  have em : max (1 : Int) (((cs.length : Int) + 23) / 24) = ((manyOf cs : Nat) : Int) := by unfold manyOf; omega
  have mb : 1 ≤ manyOf cs ∧ manyOf cs ≤ 1000 := by unfold manyOf; omega
  rw [em]
  generalize hm : manyOf cs = many at *
  walk_at "st"
  refine forR (fun i σ H' => ∃ (qs : List Addr) (v4 v5 v6 v7 : Option V), σ = [some (.int n), some (.str (txt cs)), some (.ref p), some (.int (many : Int)), v4, v5, v6, v7] ∧ qs.length = i ∧ H' p = some (.lst (qs.map V.ref)) ∧ Kp [] H H' ∧
      ∀ k q, qs[k]? = some q → H q = none ∧ q ≠ p ∧ H' q = some (.lst ((blockOf n cs many k).map V.int)))
    ⟨[], _, _, _, _, rfl, rfl, upd_same, Kp.new hp, fun k q h => by simp at h⟩ ?_ ?_
  · rintro i σ H1 hi ⟨qs, v4, v5, v6, v7, rfl, hq, h1, e1, hqs⟩
    have hi : i < many := by omega
    walk_at "st"
    refine c_slS (by rw [txt_len, sizeLine_eq]; omega) ?_
    have ec : cutS (txt cs) (some (24 * (0 + (i : Int)))) (some (24 * (0 + (i : Int)) + 24)) = txt (partOf cs i) := by
      rw [cutS_txt, sIx_of (by omega), sIx_of (by omega)]
      congr 1
      unfold partOf
      have z1 : (24 * (0 + (i : Int))).toNat = 24 * i := by omega
      have z2 : (24 * (0 + (i : Int)) + 24).toNat = 24 * i + 24 := by omega
      rw [z1, z2]
      by_cases hc : 24 * i ≤ cs.length
      · rw [Nat.min_eq_left hc]
        by_cases hd : 24 * i + 24 ≤ cs.length
        · rw [Nat.min_eq_left hd]
          congr 1
          omega
        · rw [Nat.min_eq_right (by omega), List.take_of_length_le (by rw [List.length_drop]; omega), List.take_of_length_le (by rw [List.length_drop]; omega)]
      · rw [Nat.min_eq_right (by omega), Nat.min_eq_right (by omega)]
        rw [List.drop_of_length_le (Nat.le_refl _), List.drop_of_length_le (by omega)]
        simp
    rw [ec]
    have pl : (partOf cs i).length ≤ 24 := by unfold partOf; rw [List.length_take]; omega
    walk_at "st"
    refine c_lenS (by rw [txt_len, sizeLine_eq]; omega) ?_
    rw [txt_len]
    walk_at "st"
    walk_at "nw"
    rintro bl _ ⟨hbl, rfl⟩
    have nb : bl ≠ p := (ne_of2 h1 hbl).symm
    walk_at "st"
    have e0 : (0 : Int) + (i : Int) = (i : Int) := by omega
    refine forS (fun j σ H' => ∃ (v7 : Option V), σ = [some (.int n), some (.str (txt cs)), some (.ref p), some (.int (many : Int)), some (.int (0 + (i : Int))), some (.str (txt (partOf cs i))), some (.ref bl), v7] ∧
        H' = upd H1 bl (.lst (([76, (i : Int), (many : Int), n / 256, n % 256, ((partOf cs i).length : Int)] ++ ((partOf cs i).take j).map Int.ofNat).map V.int)))
      ⟨_, rfl, by rw [e0]; rfl⟩ ?_ ?_
    · rintro j c σ _ hj ⟨v7, rfl, rfl⟩
      rw [txt_cps] at hj
      have hjl : j < (partOf cs i).length := (List.getElem?_eq_some_iff.mp hj).1
      walk_at "st"
      refine c_append upd_same ?_ ?_
      · simp only [sizeLine_eq, List.length_map, List.length_append, List.length_cons, List.length_nil, List.length_take]
        omega
      walk_at "st"
      refine ⟨_, rfl, ?_⟩
      rw [upd_upd, map_snocI, take_succ' hj, List.map_append (f := Int.ofNat), ← List.append_assoc]
      rfl
    · rintro σ _ ⟨v7, rfl, rfl⟩
      rw [txt_cps, List.take_length]
      have eh : [76, (i : Int), (many : Int), n / 256, n % 256, ((partOf cs i).length : Int)] ++ (partOf cs i).map Int.ofNat = headOf n cs many i := rfl
      rw [eh]
      have hl1 : (headOf n cs many i).length = 6 + (partOf cs i).length := by unfold headOf; simp; omega
      walk_at "st"
      have h2 : upd H1 bl (.lst ((headOf n cs many i).map V.int)) p = some (.lst (qs.map V.ref)) := upd_other nb.symm h1
      have h3 : upd H1 bl (.lst ((headOf n cs many i).map V.int)) bl = some (.lst ((headOf n cs many i).map V.int)) := upd_same
      have e3 : Kp [] H1 (upd H1 bl (.lst ((headOf n cs many i).map V.int))) := Kp.new hbl
      have hbl0 : H bl = none := free0 e1 hbl
      generalize upd H1 bl (.lst ((headOf n cs many i).map V.int)) = H3 at h2 h3 e3 ⊢
      walk_at "nw"
      intro p4 H4 N4
      walk_at "st"
      refine c_mulL N4.at_ (by rw [List.length_map]; omega) (by rw [List.length_map]; omega) ?_ fun p5 H5 N5 => ?_
      · rw [List.length_map, sizeLine_eq]
        show 1 * _ ≤ _
        omega
      rw [rep_ints, List.length_map] at N5
      refine c_addL (xs := (headOf n cs many i).map V.int) (by walk_at "lk") N5.at_ ?_ fun p6 H6 N6 => ?_
      · rw [List.length_map, List.length_map, List.length_replicate, sizeLine_eq]
        omega
      walk_at "st"
      walk_at "nw"
      intro p7 H7 N7
      refine c_addL (N7.keep N6.at_) N7.at_ ?_ fun p8 H8 N8 => ?_
      · simp only [List.length_append, List.length_map, List.length_replicate, List.length_cons, List.length_nil, sizeLine_eq]
        omega
      have eb : (headOf n cs many i).map V.int ++ (List.replicate (31 - ((headOf n cs many i).length : Int)).toNat (0 : Int)).map V.int ++ [V.int 76] = (blockOf n cs many i).map V.int := by
        unfold blockOf
        rw [List.map_append, List.map_append]
        have z : (31 - ((headOf n cs many i).length : Int)).toNat = 31 - (headOf n cs many i).length := by omega
        rw [z]
        rfl
      rw [eb] at N8
      have e8 : Kp [] H3 H8 := N4.kp.trans (N5.kp.trans (N6.kp.trans (N7.kp.trans N8.kp)))
      have h8 := N8.at_
      have f8 : H3 p8 = none := free0 (N4.kp.trans (N5.kp.trans (N6.kp.trans N7.kp))) N8.fr
      walk_at "st"
      have n8 : p8 ≠ p := (ne_of2 h2 f8).symm
      refine ⟨qs ++ [p8], _, _, _, _, rfl, by rw [List.length_append, hq]; rfl, ?_, ?_, ?_⟩
      · rw [List.map_append]
        exact upd_same
      · exact (e1.trans (e3.trans e8)).fresh_mut hp
      · intro k q hk
        by_cases hkl : k < qs.length
        · rw [List.getElem?_append_left hkl] at hk
          obtain ⟨z1, z2, z3⟩ := hqs k q hk
          exact ⟨z1, z2, upd_other z2 (e8.at0 (e3.at0 z3))⟩
        · rw [List.getElem?_append_right (by omega)] at hk
          have hk0 : k - qs.length = 0 := by
            cases e : k - qs.length with
            | zero => rfl
            | succ m => rw [e] at hk; simp at hk
          rw [hk0] at hk
          have eq8 : p8 = q := by simpa using hk
          have ek : k = i := by omega
          subst eq8 ek
          exact ⟨free0 e1 (free0 e3 f8), n8, upd_other n8 h8⟩
  · rintro σ H1 ⟨qs, v4, v5, v6, v7, rfl, hq, h1, e1, hqs⟩
    walk_at "st"
    exact q p qs H1 e1 hp h1 (by omega) fun k z hz => ⟨(hqs k z hz).1, (hqs k z hz).2.2⟩
theorem D__law_pieces (T : TX K mg) : DefAt P w K mg base CX0 "_law_pieces" 2 ["_law_number", "_law_text"] (spPieces K) :=
  def_of T 7 18 sc__law_pieces bn__law_pieces (fun vs H Q E h => by obtain ⟨b, d, rfl, _⟩ := h; rfl) (b__law_pieces T)
end
end K44



namespace K44
open PySem L2 Sa
theorem storesigns : ∀ c ∈ (PySem.Str.ofString " !\"#$&'()*+,-./0123456789:;<=>?@ABCDEFGHIJKLMNOPQRSTUVWXYZ[\\]^_`abcdefghijklmnopqrstuvwxyz{|}~\n").cps.toList, goodC (c : Int) = true := by decide +kernel
theorem storelen : (PySem.Str.ofString " !\"#$&'()*+,-./0123456789:;<=>?@ABCDEFGHIJKLMNOPQRSTUVWXYZ[\\]^_`abcdefghijklmnopqrstuvwxyz{|}~\n").length = 95 := by decide +kernel
theorem getD_mem {α : Type} (xs : Array α) (i : Nat) (d : α) (h : i < xs.size) : xs.getD i d ∈ xs.toList := by
  rw [Array.getD, dif_pos h]
  show xs[i] ∈ _
  simp
def spStored : Sp := fun vs H Q _ => ∃ (b d : Addr) (many : Nat), vs = [.ref b, .int many] ∧ Bx H b d ∧ many ≤ 1000 ∧ ∀ (cs : List Nat) (H' : Hp), cs.length = many → (∀ c ∈ cs, goodC (c : Int) = true) → Kp [b] H H' → Bx H' b d → Q (.str (txt cs)) H'
section
variable {P : Program} {w : World} {K : PySem.W.Frag} {mg : Str → Option Value} {base : Heap}
theorem sc__law_stored_text : FnScope ["_law_box", "_law_many", "_law_signs", "_law_text", "_law_turn"] ["_law_box", "_law_many"] (defScope s__law_stored_text) := ⟨rfl, rfl, rfl, by decide +kernel, rfl, by decide +kernel, by decide +kernel⟩
theorem bn__law_stored_text : BindN "_law_stored_text" s__law_stored_text ["_law_box", "_law_many"] := fun _ _ _ _ _ _ us hl => match us, hl with | [_, _], _ => rfl
theorem b__law_stored_text (T : TX K mg) : Body P w K mg base "_law_stored_text" s__law_stored_text ["_law_box", "_law_many", "_law_signs", "_law_text", "_law_turn"] 2 spStored := by
  intro cdv A outer s H vs Q E h X hr
  obtain ⟨b, d, many, rfl, B, hm, q⟩ := h
  have D__law_draw : DefAt P w K mg base CX0 "_law_draw" 2 ["_law_box", "_law_many"] spDraw := D__law_draw T
  have es : PySem.Str.ofString "" = txt [] := by decide +kernel
  refine ⟨_, (pss_cons (ps_set (i := 2) sc__law_stored_text.nd rfl (Or.inl rfl) pe_str) (pss_cons (ps_set (i := 3) sc__law_stored_text.nd rfl (Or.inl rfl) pe_str) (pss_cons (ps_for PassesOwn.never rfl (pi_range1 rfl (T.free 4) (pa_cons (pv 1) pa_nil)) (pg_name (i := 4) sc__law_stored_text.nd rfl (Or.inl rfl)) (pss_one (ps_set (i := 3) sc__law_stored_text.nd rfl (Or.inl rfl) (pe_op (op_addU (K := K)) (pv 3) (pe_ix (ix_U (K := K)) (pv 2) (pe_callA D__law_draw hr pass0 (pa_cons (pv 0) (pa_cons (pe_callB (cr_len (K := K)) rfl (T.free 1) PySem.boot_len (pa_cons (pv 2) pa_nil)) pa_nil))) (fun _ _ => rfl)))))) (pss_one (ps_ret (pv 3)))))), ?_⟩
  walk_at "st"
  refine forR (fun i σ H' => ∃ (cs : List Nat) (v4 : Option V), σ = [some (.ref b), some (.int many), some (.str (PySem.Str.ofString " !\"#$&'()*+,-./0123456789:;<=>?@ABCDEFGHIJKLMNOPQRSTUVWXYZ[\\]^_`abcdefghijklmnopqrstuvwxyz{|}~\n")), some (.str (txt cs)), v4] ∧ cs.length = i ∧ (∀ c ∈ cs, goodC (c : Int) = true) ∧ Kp [b] H H' ∧ Bx H' b d)
    ⟨[], none, by rw [es]; rfl, rfl, by simp, Kp.refl, B⟩ ?_ ?_
  · rintro i σ H1 hi ⟨cs, v4, rfl, hl, hg, e1, B1⟩
    walk_at "st"
    refine c_lenS (by rw [storelen, sizeLine_eq]; decide) ?_
    rw [storelen]
    walk_at "st"
    refine ⟨b, d, _, rfl, B1, by decide, fun j H2 h0 h1 e2 B2 => ?_⟩
    have hj : j.toNat < (PySem.Str.ofString " !\"#$&'()*+,-./0123456789:;<=>?@ABCDEFGHIJKLMNOPQRSTUVWXYZ[\\]^_`abcdefghijklmnopqrstuvwxyz{|}~\n").length := by rw [storelen]; omega
    refine c_ixS (by rw [storelen, sizeLine_eq]; decide) (atI_codes h0 (by omega)) ?_
    have hgood := storesigns _ (getD_mem _ j.toNat 0 hj)
    generalize (PySem.Str.ofString " !\"#$&'()*+,-./0123456789:;<=>?@ABCDEFGHIJKLMNOPQRSTUVWXYZ[\\]^_`abcdefghijklmnopqrstuvwxyz{|}~\n").cps.getD j.toNat 0 = c at hgood ⊢
    refine c_addS (by rw [txt_len, txt_one, txt_len, sizeLine_eq]; simp only [List.length_cons, List.length_nil]; omega) ?_
    rw [txt_one, txt_app]
    walk_at "st"
    refine ⟨cs ++ [c], _, rfl, by rw [List.length_append, hl]; rfl, fun z hz => ?_, e1.trans e2, B2⟩
    rcases List.mem_append.mp hz with h | h
    · exact hg z h
    · rw [List.mem_singleton.mp h]
      exact hgood
  · rintro σ H1 ⟨cs, v4, rfl, hl, hg, e1, B1⟩
    walk_at "st"
    exact q cs H1 (by omega) hg e1 B1
theorem D__law_stored_text (T : TX K mg) : DefAt P w K mg base CX0 "_law_stored_text" 3 ["_law_box", "_law_many"] spStored :=
  def_of T 8 19 sc__law_stored_text bn__law_stored_text (fun vs H Q E h => by obtain ⟨b, d, m, rfl, _⟩ := h; rfl) (b__law_stored_text T)
/-! what is said twice is the same -/
def saysD (xs : List Int) : PyData := if isPiece xs then .tuple [.int (xs.getD 1 0), .int (xs.getD 2 0), .int (xs.getD 3 0 * 256 + xs.getD 4 0), .str (txt ((codesOf xs).map Int.toNat))] else .none
theorem Said.dp {H : Hp} {v : V} {xs : List Int} (h : Said H v xs) : Dp K H v (saysD xs) := by
  unfold saysD
  rcases h with ⟨h, rfl⟩ | ⟨h, p, rfl, hp⟩
  · rw [if_neg h]; exact .non
  · rw [if_pos h]
    exact .tup (SqT.of hp) (.cons (.int _) (.cons (.int _) (.cons (.int _) (.cons (.str _) .nil))))
theorem codes_ok (xs : List Int) (h : Bytes xs) : PyData.strOk (txt ((codesOf xs).map Int.toNat)) = true := by
  unfold PyData.strOk txt
  rw [Array.all_eq_true']
  intro c hc
  have hc' : c ∈ (codesOf xs).map Int.toNat := by simpa using hc
  obtain ⟨z, hz, rfl⟩ := List.mem_map.mp hc'
  have := h.rng z (List.mem_of_mem_drop (List.mem_of_mem_take hz))
  exact decide_eq_true (by omega)
theorem says_shaped (xs : List Int) (h : Bytes xs) : SeqAt.shaped (saysD xs) = true := by
  unfold saysD
  split
  · simp [SeqAt.shaped, PyData.canLay0, PyData.canLayAll0, PyData.depth, PyData.depthAll, codes_ok xs h]
  · decide
theorem Said.kp {H H' : Hp} {v : V} {xs : List Int} (h : Said H v xs) (e : Kp [] H H') : Said H' v xs := by
  rcases h with h | ⟨h, p, hv, hp⟩
  · exact .inl h
  · exact .inr ⟨h, p, hv, e.at0 hp⟩
def spTrue (K : PySem.W.Frag) (C : List Int → Prop) : Sp := fun vs H Q _ => ∃ (a : Addr) (xs : List Int), vs = [.ref a] ∧ SqL K H a (xs.map V.int) ∧ Bytes xs ∧ C xs ∧ ∀ H', Kp [] H H' → Q (.bl true) H'
theorem sc__law_read : FnScope ["_law_block", "_law_handed"] ["_law_block"] (defScope s__law_read) := ⟨rfl, rfl, rfl, by decide +kernel, rfl, by decide +kernel, by decide +kernel⟩
theorem bn__law_read : BindN "_law_read" s__law_read ["_law_block"] := fun _ _ _ _ _ _ us hl => match us, hl with | [_], _ => rfl
theorem b__law_read (T : TX K mg) : Body P w K mg base "_law_read" s__law_read ["_law_block", "_law_handed"] 3 (spTrue K fun _ => True) := by
  intro cdv A outer s H vs Q E h X hr
  obtain ⟨a, xs, rfl, hs, hb, _, q⟩ := h
  have D_decode_piece : DefAt P w K mg base CX0 "decode_piece" 3 ["block"] (spSays K) := D_decode_piece T
  have D__law_due : DefAt P w K mg base CX0 "_law_due" 2 ["_law_block"] (spSays K) := D__law_due T
  refine ⟨_, (pss_cons (ps_set (i := 1) sc__law_read.nd rfl (Or.inl rfl) (pe_callTy (cr_list (K := K)) rfl (T.free 20) (by decide +kernel) (pa_cons (pv 0) pa_nil))) (pss_one (ps_ret (pe_and (pe_cmpR (op_eqU (K := K) hr.units) (pe_callA D_decode_piece hr pass0 (pa_cons (pv 1) pa_nil)) (pe_callA D__law_due hr pass0 (pa_cons (pv 0) pa_nil)) (nomark _)) (pe_one (pe_cmpR (op_eqU (K := K) hr.units) (pv 1) (pv 0) (nomark _))))))), ?_⟩
  walk_at "st"
  refine c_listL hs fun p H1 N1 => ?_
  walk_at "st"
  refine ⟨p, xs, rfl, SqL.of N1.at_, hb, fun v H2 e2 s2 => ?_⟩
  walk_at "st"
  refine ⟨a, xs, rfl, SqL.kp e2 (N1.sqL hs), hb, fun v3 H3 e3 s3 => ?_⟩
  refine c_eqD (s2.kp e3).dp s3.dp (says_shaped xs hb) (says_shaped xs hb) ?_
  rw [SeqAt.eqv_refl _ (SeqAt.canLay_of_shaped (says_shaped xs hb))]
  walk_at "st"
  refine c_eqLI (SqL.of (e3.at0 (e2.at0 N1.at_))) (SqL.kp e3 (SqL.kp e2 (N1.sqL hs))) ?_
  rw [decide_eq_true rfl]
  exact q H3 (N1.kp.trans (e2.trans e3))
theorem D__law_read (T : TX K mg) : DefAt P w K mg base CX0 "_law_read" 4 ["_law_block"] (spTrue K fun _ => True) :=
  def_of T 9 21 sc__law_read bn__law_read (fun vs H Q E h => by obtain ⟨b, d, rfl, _⟩ := h; rfl) (b__law_read T)
/-! torn pieces -/
theorem getD_app_l {xs ys : List Int} {i : Nat} (h : i < xs.length) : (xs ++ ys).getD i 0 = xs.getD i 0 := by
  rw [List.getD_eq_getElem?_getD, List.getD_eq_getElem?_getD, List.getElem?_append_left h]
theorem getD_app_r {xs ys : List Int} {i : Nat} (h : xs.length ≤ i) : (xs ++ ys).getD i 0 = ys.getD (i - xs.length) 0 := by
  rw [List.getD_eq_getElem?_getD, List.getD_eq_getElem?_getD, List.getElem?_append_right h]
theorem getD_rep (n i : Nat) : (List.replicate n (0 : Int)).getD i 0 = 0 := by
  rw [List.getD_eq_getElem?_getD, List.getElem?_replicate]
  split <;> rfl
theorem torn_lo {xs : List Int} (hb : Bytes xs) (m : Nat) (hm : m ≤ 32) : Bytes (xs.take m ++ List.replicate (32 - m) 0) := by
  refine ⟨by rw [List.length_append, List.length_take, List.length_replicate, hb.len]; omega, fun x hx => ?_⟩
  rcases List.mem_append.mp hx with h | h
  · exact hb.rng x (List.mem_of_mem_take h)
  · rw [(List.mem_replicate.mp h).2]; decide
theorem torn_hi {xs : List Int} (hb : Bytes xs) (m : Nat) (hm : m ≤ 32) : Bytes (List.replicate m 0 ++ xs.drop m) := by
  refine ⟨by rw [List.length_append, List.length_drop, List.length_replicate, hb.len]; omega, fun x hx => ?_⟩
  rcases List.mem_append.mp hx with h | h
  · rw [(List.mem_replicate.mp h).2]; decide
  · exact hb.rng x (List.mem_of_mem_drop h)
theorem piece_lo {xs : List Int} (hb : Bytes xs) (hp : isPiece xs) (m : Nat) (hm : m ≤ 32) : isPiece (xs.take m ++ List.replicate (32 - m) 0) ↔ m = 32 := by
  constructor
  · intro h
    by_cases e : m = 32
    · exact e
    · have h31 := h.2.1
      rw [getD_app_r (by rw [List.length_take]; omega), getD_rep] at h31
      cases h31
  · intro e
    subst e
    rw [Nat.sub_self, List.take_of_length_le (by rw [hb.len]; exact Nat.le_refl _)]
    simpa using hp
theorem piece_hi {xs : List Int} (hb : Bytes xs) (hp : isPiece xs) (m : Nat) (hm : m ≤ 32) : isPiece (List.replicate m 0 ++ xs.drop m) ↔ m = 0 := by
  constructor
  · intro h
    by_cases e : m = 0
    · exact e
    · have h0 := h.1
      rw [getD_app_l (by rw [List.length_replicate]; omega), getD_rep] at h0
      cases h0
  · intro e
    subst e
    simpa using hp
theorem Said.isNone {H : Hp} {v : V} {xs : List Int} (h : Said H v xs) : decide (v = .non) = !decide (isPiece xs) := by
  rcases h with ⟨h, rfl⟩ | ⟨h, p, rfl, _⟩
  · simp [h]
  · simp [h]
theorem sc__law_torn_piece : FnScope ["_law_block", "_law_zeros", "_law_many"] ["_law_block"] (defScope s__law_torn_piece) := ⟨rfl, rfl, rfl, by decide +kernel, rfl, by decide +kernel, by decide +kernel⟩
theorem bn__law_torn_piece : BindN "_law_torn_piece" s__law_torn_piece ["_law_block"] := fun _ _ _ _ _ _ us hl => match us, hl with | [_], _ => rfl
theorem b__law_torn_piece (T : TX K mg) : Body P w K mg base "_law_torn_piece" s__law_torn_piece ["_law_block", "_law_zeros", "_law_many"] 3 (spTrue K isPiece) := by
  intro cdv A outer s H vs Q E h X hr
  obtain ⟨a, xs, rfl, hs, hb, hp, q⟩ := h
  have D_decode_piece : DefAt P w K mg base CX0 "decode_piece" 3 ["block"] (spSays K) := D_decode_piece T
  refine ⟨_, (pss_cons (ps_set (i := 1) sc__law_torn_piece.nd rfl (Or.inl rfl) (pe_op (op_mulU (K := K)) (pe_lst (pa_cons pe_int pa_nil)) pe_int)) (pss_cons (ps_for PassesOwn.never rfl (pi_range1 rfl (T.free 4) (pa_cons pe_int pa_nil)) (pg_name (i := 2) sc__law_torn_piece.nd rfl (Or.inl rfl)) (pss_cons (ps_if (pt_cmpR (op_neU (K := K) hr.units) (pe_cmpR op_isU (pe_callA D_decode_piece hr pass0 (pa_cons (pe_op (op_addU (K := K)) (pe_slice (sl_U (K := K)) (pv 0) po_none (po_some (pv 2))) (pe_slice (sl_U (K := K)) (pv 1) (po_some (pv 2)) po_none)) pa_nil)) pe_non (nomark _)) (pe_cmpR op_ltU (pv 2) pe_int (nomark _)) (nomark _)) (pss_one (ps_ret pe_bl)) pss_nil) (pss_one (ps_if (pt_cmpR (op_neU (K := K) hr.units) (pe_cmpR op_isU (pe_callA D_decode_piece hr pass0 (pa_cons (pe_op (op_addU (K := K)) (pe_slice (sl_U (K := K)) (pv 1) po_none (po_some (pv 2))) (pe_slice (sl_U (K := K)) (pv 0) (po_some (pv 2)) po_none)) pa_nil)) pe_non (nomark _)) (pe_cmpR op_gtU (pv 2) pe_int (nomark _)) (nomark _)) (pss_one (ps_ret pe_bl)) pss_nil)))) (pss_one (ps_ret pe_bl)))), ?_⟩
  walk_at "st"
  walk_at "nw"
  intro p H1 N1
  walk_at "st"
  refine c_mulL N1.at_ (by decide) (by decide) (by rw [sizeLine_eq]; decide) fun z H2 N2 => ?_
  rw [rep_ints] at N2
  walk_at "st"
  refine forR (fun i σ H' => ∃ (v2 : Option V), σ = [some (.ref a), some (.ref z), v2] ∧ Kp [] H2 H') ⟨_, rfl, Kp.refl⟩ ?_ ?_
  · rintro i σ H3 hi ⟨v2, rfl, e3⟩
    have hi : i < 33 := hi
    have hz : SqL K H3 z ((List.replicate 32 (0 : Int)).map V.int) := SqL.of (e3.at0 N2.at_)
    have ha : SqL K H3 a (xs.map V.int) := SqL.kp e3 (N2.sqL (N1.sqL hs))
    have e0 : (0 : Int) + (i : Int) = (i : Int) := by omega
    rw [e0]
    walk_at "st"
    refine c_slL ha fun p4 H4 N4 => ?_
    rw [cutV_ints, cutL_to (by omega) (by rw [hb.len]; omega)] at N4
    walk_at "st"
    refine c_slL (N4.sqL hz) fun p5 H5 N5 => ?_
    rw [cutV_ints, cutL_from (by omega) (by rw [List.length_replicate]; omega)] at N5
    refine c_addL (N5.keep N4.at_) N5.at_ ?_ fun p6 H6 N6 => ?_
    · rw [List.length_map, List.length_map, List.length_take, List.length_drop, List.length_replicate, hb.len, sizeLine_eq]
      omega
    have el : (xs.take ((i : Int)).toNat).map V.int ++ ((List.replicate 32 (0 : Int)).drop ((i : Int)).toNat).map V.int = (xs.take i ++ List.replicate (32 - i) 0).map V.int := by
      rw [List.map_append, Int.toNat_natCast, List.drop_replicate]
    rw [el] at N6
    walk_at "st"
    refine ⟨p6, _, rfl, SqL.of N6.at_, torn_lo hb i (by omega), fun v7 H7 e7 s7 => ?_⟩
    walk_at "st"
    rw [s7.isNone]
    refine c_iteF ?_ ?_
    · have z := piece_lo hb hp i (by omega)
      by_cases h : i = 32
      · rw [decide_eq_true (z.mpr h), decide_eq_false (show ¬ ((i : Int) < 32) by omega)]
        rfl
      · rw [decide_eq_false (fun y => h (z.mp y)), decide_eq_true (show (i : Int) < 32 by omega)]
        rfl
    walk_at "st"
    have k7 : Kp [] H3 H7 := N4.kp.trans (N5.kp.trans (N6.kp.trans e7))
    refine c_slL (SqL.kp k7 hz) fun p8 H8 N8 => ?_
    rw [cutV_ints, cutL_to (by omega) (by rw [List.length_replicate]; omega)] at N8
    walk_at "st"
    refine c_slL (N8.sqL (SqL.kp k7 ha)) fun p9 H9 N9 => ?_
    rw [cutV_ints, cutL_from (by omega) (by rw [hb.len]; omega)] at N9
    refine c_addL (N9.keep N8.at_) N9.at_ ?_ fun q6 G6 M6 => ?_
    · rw [List.length_map, List.length_map, List.length_take, List.length_drop, List.length_replicate, hb.len, sizeLine_eq]
      omega
    have el : ((List.replicate 32 (0 : Int)).take ((i : Int)).toNat).map V.int ++ (xs.drop ((i : Int)).toNat).map V.int = (List.replicate i 0 ++ xs.drop i).map V.int := by
      rw [List.map_append, Int.toNat_natCast, List.take_replicate, Nat.min_eq_left (by omega)]
    rw [el] at M6
    walk_at "st"
    refine ⟨q6, _, rfl, SqL.of M6.at_, torn_hi hb i (by omega), fun w7 G7 f7 t7 => ?_⟩
    walk_at "st"
    rw [t7.isNone]
    refine c_iteF ?_ ?_
    · have z := piece_hi hb hp i (by omega)
      by_cases h : i = 0
      · rw [decide_eq_true (z.mpr h), decide_eq_false (show ¬ (0 < (i : Int)) by omega)]
        rfl
      · rw [decide_eq_false (fun y => h (z.mp y)), decide_eq_true (show 0 < (i : Int) by omega)]
        rfl
    walk_at "st"
    exact ⟨_, rfl, e3.trans (k7.trans (N8.kp.trans (N9.kp.trans (M6.kp.trans f7))))⟩
  · rintro σ H3 ⟨v2, rfl, e3⟩
    walk_at "st"
    exact q H3 (N1.kp.trans (N2.kp.trans e3))
theorem D__law_torn_piece (T : TX K mg) : DefAt P w K mg base CX0 "_law_torn_piece" 4 ["_law_block"] (spTrue K isPiece) :=
  def_of T 10 22 sc__law_torn_piece bn__law_torn_piece (fun vs H Q E h => by obtain ⟨b, d, rfl, _⟩ := h; rfl) (b__law_torn_piece T)
end
end K44



namespace K44
open PySem L2 Sa
theorem head_len (n : Int) (cs : List Nat) (many k : Nat) : (headOf n cs many k).length = 6 + (partOf cs k).length := by unfold headOf; simp; omega
theorem part_len (cs : List Nat) (k : Nat) : (partOf cs k).length ≤ 24 := by unfold partOf; rw [List.length_take]; omega
theorem block_len (n : Int) (cs : List Nat) (many k : Nat) : (blockOf n cs many k).length = 32 := by
  have h1 := head_len n cs many k
  have h2 := part_len cs k
  unfold blockOf
  rw [List.length_append, List.length_append, List.length_replicate, h1]
  simp only [List.length_cons, List.length_nil]
  omega
theorem block_eq (n : Int) (cs : List Nat) (many k : Nat) : blockOf n cs many k = 76 :: (k : Int) :: (many : Int) :: (n / 256) :: (n % 256) :: ((partOf cs k).length : Int) :: ((partOf cs k).map Int.ofNat ++ (List.replicate (25 - (partOf cs k).length) 0 ++ [76])) := by
  have h1 := head_len n cs many k
  have h2 := part_len cs k
  unfold blockOf
  rw [h1]
  have z : 31 - (6 + (partOf cs k).length) = 25 - (partOf cs k).length := by omega
  rw [z]
  unfold headOf
  simp
theorem block_piece {n : Int} {cs : List Nat} {many k : Nat} (hk : k < many) (hg : ∀ c ∈ cs, goodC (c : Int) = true) : isPiece (blockOf n cs many k) := by
  have h2 := part_len cs k
  have ml : ((partOf cs k).map Int.ofNat).length = (partOf cs k).length := List.length_map _
  refine ⟨by rw [block_eq]; rfl, ?_, ?_, ?_, ?_, ?_⟩
  · unfold blockOf
    rw [getD_app_r (by rw [List.length_append, List.length_replicate, head_len]; omega), List.length_append, List.length_replicate, head_len]
    have z : 31 - (6 + (partOf cs k).length + (31 - (6 + (partOf cs k).length))) = 0 := by omega
    rw [z]
    rfl
  · rw [block_eq]
    show (k : Int) < (many : Int)
    omega
  · rw [block_eq]
    show ((partOf cs k).length : Int) ≤ 24
    omega
  · unfold restOf
    have e5 : (blockOf n cs many k).getD 5 0 = ((partOf cs k).length : Int) := by rw [block_eq]; rfl
    rw [e5, Int.toNat_natCast]
    unfold blockOf
    rw [head_len, List.append_assoc, List.drop_left' (head_len n cs many k), List.take_left' (by rw [List.length_replicate])]
    rw [List.any_eq_false]
    intro x hx
    rw [(List.mem_replicate.mp hx).2]
    decide
  · unfold codesOf
    rw [block_eq]
    show (((partOf cs k).map Int.ofNat ++ (List.replicate (25 - (partOf cs k).length) 0 ++ [76])).take ((partOf cs k).length : Int).toNat).all goodC = true
    rw [Int.toNat_natCast, List.take_append_of_le_length (by omega), List.take_of_length_le (by omega)]
    rw [List.all_eq_true]
    intro c hc
    obtain ⟨z, hz, rfl⟩ := List.mem_map.mp hc
    exact hg z (List.mem_of_mem_drop (List.mem_of_mem_take hz))
theorem block_bytes {n : Int} {cs : List Nat} {many k : Nat} (h0 : 0 ≤ n) (h1 : n < 65536) (hk : k < many) (hm : many ≤ 255) (hg : ∀ c ∈ cs, goodC (c : Int) = true) : Bytes (blockOf n cs many k) := by
  refine ⟨block_len n cs many k, fun x hx => ?_⟩
  have h2 := part_len cs k
  rw [block_eq] at hx
  simp only [List.mem_cons, List.mem_append, List.mem_map, List.mem_replicate, List.not_mem_nil, or_false] at hx
  rcases hx with h | h | h | h | h | h | ⟨z, hz, h⟩ | ⟨_, h⟩ | h
  · omega
  · omega
  · omega
  · omega
  · omega
  · omega
  · have := goodC_rng (hg z (List.mem_of_mem_drop (List.mem_of_mem_take hz)))
    have e : Int.ofNat z = (z : Int) := rfl
    omega
  · omega
  · omega

def spLaw (K : PySem.W.Frag) : Sp := fun vs H Q _ => ∃ (a : Addr) (ns : List Int), vs = [.ref a] ∧ SqL K H a (ns.map V.int) ∧ ∀ H', Q (.bl true) H'
theorem set_bytes {xs : List Int} (hb : Bytes xs) (i : Nat) {z : Int} (h0 : 0 ≤ z) (h1 : z ≤ 255) : Bytes (xs.set i z) := by
  refine ⟨by rw [List.length_set]; exact hb.len, fun x hx => ?_⟩
  rcases List.mem_or_eq_of_mem_set hx with h | h
  · exact hb.rng x h
  · omega
theorem ixN_rng {n : Nat} {i : Int} (h0 : 0 ≤ i) (h1 : i < n) : ixN n i = some i.toNat := by
  unfold ixN
  rw [if_pos h0, if_pos h1]
theorem getD_memI (xs : List Int) (i : Nat) (h : i < xs.length) : xs.getD i 0 ∈ xs := by
  rw [List.getD_eq_getElem?_getD, List.getElem?_eq_getElem h]
  exact List.getElem_mem h
section
variable {P : Program} {w : World} {K : PySem.W.Frag} {mg : Str → Option Value} {base : Heap}
theorem sc_law : FnScope ["_law_script", "_law_box", "_law_turn", "_law_number", "_law_rows", "_law_block", "_law_step", "_law_other", "_law_k"] ["_law_script"] (defScope s_law) := ⟨rfl, rfl, rfl, by decide +kernel, rfl, by decide +kernel, by decide +kernel⟩
theorem bn_law : BindN "law" s_law ["_law_script"] := fun _ _ _ _ _ _ us hl => match us, hl with | [_], _ => rfl
theorem b_law (T : TX K mg) : Body P w K mg base "law" s_law ["_law_script", "_law_box", "_law_turn", "_law_number", "_law_rows", "_law_block", "_law_step", "_law_other", "_law_k"] 5 (spLaw K) := by
  intro cdv A outer s H vs Q E h X hr
  obtain ⟨a, ns, rfl, hs, q⟩ := h
  have D__law_digits : DefAt P w K mg base CX0 "_law_digits" 3 ["_law_script", "_law_first", "_law_last"] (spDigits K) := D__law_digits T
  have D__law_draw : DefAt P w K mg base CX0 "_law_draw" 2 ["_law_box", "_law_many"] spDraw := D__law_draw T
  have D__law_stored_text : DefAt P w K mg base CX0 "_law_stored_text" 3 ["_law_box", "_law_many"] spStored := D__law_stored_text T
  have D__law_pieces : DefAt P w K mg base CX0 "_law_pieces" 2 ["_law_number", "_law_text"] (spPieces K) := D__law_pieces T
  have D__law_torn_piece : DefAt P w K mg base CX0 "_law_torn_piece" 4 ["_law_block"] (spTrue K isPiece) := D__law_torn_piece T
  have D__law_read : DefAt P w K mg base CX0 "_law_read" 4 ["_law_block"] (spTrue K fun _ => True) := D__law_read T
  refine ⟨_, (pss_cons (ps_set (i := 1) sc_law.nd rfl (Or.inr rfl) (pe_lst (pa_cons (pe_callA D__law_digits hr pass0 (pa_cons (pv 0) (pa_cons pe_int (pa_cons pe_int pa_nil)))) (pa_cons pe_int pa_nil)))) (pss_cons (ps_for PassesOwn.never rfl (pi_range1 rfl (T.free 4) (pa_cons pe_int pa_nil)) (pg_name (i := 2) sc_law.nd rfl (Or.inl rfl)) (pss_cons (ps_set (i := 3) sc_law.nd rfl (Or.inl rfl) (pe_op op_modU (pe_callTy cr_int rfl (T.free 0) (by decide +kernel) (pa_cons (pe_op (op_addU (K := K)) (pe_op (op_mulU (K := K)) (pe_callA D__law_draw hr pass0 (pa_cons (pv 1) (pa_cons pe_int pa_nil))) pe_int) (pe_callA D__law_draw hr pass0 (pa_cons (pv 1) (pa_cons pe_int pa_nil)))) pa_nil)) pe_int)) (pss_cons (ps_set (i := 4) sc_law.nd rfl (Or.inl rfl) (pe_callA D__law_pieces hr pass0 (pa_cons (pv 3) (pa_cons (pe_callA D__law_stored_text hr pass0 (pa_cons (pv 1) (pa_cons (pe_callA D__law_draw hr pass0 (pa_cons (pv 1) (pa_cons pe_int pa_nil))) pa_nil))) pa_nil)))) (pss_cons (ps_set (i := 5) sc_law.nd rfl (Or.inl rfl) (pe_ix (ix_U (K := K)) (pv 4) (pe_callA D__law_draw hr pass0 (pa_cons (pv 1) (pa_cons (pe_callB (cr_len (K := K)) rfl (T.free 1) PySem.boot_len (pa_cons (pv 4) pa_nil)) pa_nil))) (fun _ _ => rfl))) (pss_cons (ps_if (pt_not (pt_tru (K := K) (pe_callA D__law_torn_piece hr pass0 (pa_cons (pv 5) pa_nil)))) (pss_one (ps_ret pe_bl)) pss_nil) (pss_cons (ps_for PassesOwn.never rfl (pi_range1 rfl (T.free 4) (pa_cons (pe_callA D__law_draw hr pass0 (pa_cons (pv 1) (pa_cons pe_int pa_nil))) pa_nil)) (pg_name (i := 6) sc_law.nd rfl (Or.inl rfl)) (pss_one (ps_asg (pe_ix (ix_U (K := K)) (pe_lst (pa_cons pe_int (pa_cons pe_int (pa_cons pe_int (pa_cons pe_int (pa_cons pe_int (pa_cons pe_int (pa_cons pe_int (pa_cons pe_int (pa_cons pe_int (pa_cons pe_int (pa_cons pe_int (pa_cons pe_int (pa_cons pe_int (pa_cons (pe_callA D__law_draw hr pass0 (pa_cons (pv 1) (pa_cons pe_int pa_nil))) pa_nil))))))))))))))) (pe_callA D__law_draw hr pass0 (pa_cons (pv 1) (pa_cons pe_int pa_nil))) (fun _ _ => rfl)) (pg_sub (pv 5) (pe_callA D__law_draw hr pass0 (pa_cons (pv 1) (pa_cons pe_int pa_nil))) set_list)))) (pss_cons (ps_setLc (i := 7) (own := [("_law_k", 8)]) rfl sc_law.nd rfl rfl (sw_true rfl rfl rfl (by decide +kernel)) (pi_range1 rfl (T.free 4) (pa_cons pe_int pa_nil)) (blkOk_by (N := ["_law_script", "_law_box", "_law_turn", "_law_number", "_law_rows", "_law_block", "_law_step", "_law_other", "_law_k"]) (sc := defScope s_law) (by decide +kernel)) (fun _ _ _ _ _ => (pg_name (i := 8) sc_law.nd rfl (Or.inl rfl))) (fun _ _ _ _ _ => pts_nil) (fun _ _ _ _ _ => (pe_callA D__law_draw hr pass0 (pa_cons (pv 1) (pa_cons pe_int pa_nil))))) (pss_cons (ps_asg pe_int (pg_sub (pv 7) pe_int set_list)) (pss_cons (ps_asg pe_int (pg_sub (pv 7) pe_int set_list)) (pss_one (ps_if (PW.pt (pw_or (pt_not (pt_tru (K := K) (pe_callA D__law_read hr pass0 (pa_cons (pv 5) pa_nil)))) (pw_or1 (pt_not (pt_tru (K := K) (pe_callA D__law_read hr pass0 (pa_cons (pv 7) pa_nil))))))) (pss_one (ps_ret pe_bl)) pss_nil))))))))))) (pss_one (ps_ret (pe_callA D__law_read hr pass0 (pa_cons (pe_op (op_mulU (K := K)) (pe_lst (pa_cons pe_int pa_nil)) pe_int) pa_nil)))))), ?_⟩
  walk_at "st"
  refine ⟨a, ns, rfl, hs, fun d ds hd => ?_⟩
  walk_at "st"
  walk_at "nw"
  intro b H1 N1
  have B1 : Bx H1 b d := ⟨0, ds, N1.at_, N1.keep upd_same, by decide⟩
  walk_at "st"
  refine forR (fun i σ H' => ∃ (v2 v3 v4 v5 v6 v7 : Option V), σ = [some (.ref a), some (.ref b), v2, v3, v4, v5, v6, v7, none] ∧ Bx H' b d) ⟨_, _, _, _, _, _, rfl, B1⟩ ?_ ?_
  · rintro i σ H2 hi ⟨v2, v3, v4, v5, v6, v7, rfl, B2⟩
    walk_at "st"
    refine ⟨b, d, _, rfl, B2, by decide, fun r1 H3 h1 h1' _ B3 => ?_⟩
    walk_at "st"
    refine ⟨b, d, _, rfl, B3, by decide, fun r2 H4 h2 h2' _ B4 => ?_⟩
    walk_at "st"
    refine ⟨b, d, _, rfl, B4, by decide, fun r3 H5 h3 h3' _ B5 => ?_⟩
    walk_at "st"
    have e3 : r3 = ((r3.toNat : Nat) : Int) := by omega
    rw [e3]
    refine ⟨b, d, r3.toNat, rfl, B5, by omega, fun cs H6 hcs hg _ B6 => ?_⟩
    walk_at "st"
    refine ⟨_, cs, rfl, by omega, fun p qs H7 e7 hp h7 hq hqs => ?_⟩
    have mb : 1 ≤ manyOf cs ∧ manyOf cs ≤ 255 := by unfold manyOf; omega
    have B7 : Bx H7 b d := B6.kp0 e7
    have np := B6.ne_new hp
    walk_at "st"
    rw [List.length_map]
    refine ⟨b, d, _, rfl, B7, by omega, fun r4 H8 h4 h4' e8 B8 => ?_⟩
    have hk : r4.toNat < qs.length := by omega
    obtain ⟨f1, f2⟩ := hqs r4.toNat (qs[r4.toNat]) (List.getElem?_eq_getElem hk)
    generalize hqe : qs[r4.toNat] = lb at f1 f2
    have nl := B6.ne_new f1
    refine c_ixL (v := .ref lb) (SqL.of (e8.at1 np.1 h7)) ?_ ?_
    · have e : r4 = ((r4.toNat : Nat) : Int) := by omega
      rw [e]
      exact atI_nat (by rw [List.getElem?_map, List.getElem?_eq_getElem (by omega)]; simp [← hqe])
    walk_at "st"
    have g1 : isPiece (blockOf ((r1 * 1000 + r2) % 65536) cs (manyOf cs) r4.toNat) := block_piece (by omega) hg
    have g2 : Bytes (blockOf ((r1 * 1000 + r2) % 65536) cs (manyOf cs) r4.toNat) := block_bytes (by omega) (by omega) (by omega) mb.2 hg
    refine ⟨lb, _, rfl, SqL.of (e8.at1 nl.1 f2), g2, g1, fun H9 e9 => ?_⟩
    walk_at "st"
    have f9 : H9 lb = some (.lst ((blockOf ((r1 * 1000 + r2) % 65536) cs (manyOf cs) r4.toNat).map V.int)) := e9.at0 (e8.at1 nl.1 f2)
    have B9 : Bx H9 b d := B8.kp0 e9
    refine ⟨b, d, _, rfl, B9, by decide, fun r5 H10 h5 h5' e10 B10 => ?_⟩
    walk_at "st"
    refine forR (fun j σ H' => ∃ (v6 : Option V) (xs : List Int), σ = [some (.ref a), some (.ref b), some (.int (0 + (i : Int))), some (.int ((r1 * 1000 + r2) % 65536)), some (.ref p), some (.ref lb), v6, v7, none] ∧ Bx H' b d ∧ H' lb = some (.lst (xs.map V.int)) ∧ Bytes xs)
      ⟨_, _, rfl, B10, e10.at1 nl.1 f9, g2⟩ ?_ ?_
    · rintro j σ G1 hj ⟨v6, xs, rfl, C1, k1, kb⟩
      walk_at "st"
      refine ⟨b, d, _, rfl, C1, by decide, fun s1 G2 t1 t1' x2 C2 => ?_⟩
      walk_at "st"
      walk_at "nw"
      intro l3 G3 M3
      walk_at "st"
      have C3 := C2.nw M3
      have n3 := C2.ne_new M3.fr
      refine ⟨b, d, _, rfl, C3, by decide, fun s2 G4 t2 t2' x4 C4 => ?_⟩
      have hm : ∀ z ∈ ([0, 10, 11, 24, 31, 32, 37, 72, 76, 83, 126, 127, 255, s1] : List Int), 0 ≤ z ∧ z ≤ 255 := by
        intro z hz
        simp only [List.mem_cons, List.not_mem_nil, or_false] at hz
        omega
      refine c_ixL (xs := ([0, 10, 11, 24, 31, 32, 37, 72, 76, 83, 126, 127, 255, s1] : List Int).map V.int) (SqL.of (x4.at1 n3.1 M3.at_)) (atI_ints t2 (by simpa using t2')) ?_
      have hv := hm _ (getD_memI _ s2.toNat (by simp only [List.length_cons, List.length_nil]; omega))
      generalize ([0, 10, 11, 24, 31, 32, 37, 72, 76, 83, 126, 127, 255, s1] : List Int).getD s2.toNat 0 = val at hv ⊢
      have k4 : G4 lb = some (.lst (xs.map V.int)) := x4.at1 nl.1 (M3.keep (x2.at1 nl.1 k1))
      walk_at "st"
      refine ⟨b, d, _, rfl, C4, by decide, fun s3 G5 t3 t3' x5 C5 => ?_⟩
      have k5 : G5 lb = some (.lst (xs.map V.int)) := x5.at1 nl.1 k4
      refine c_setL k5 (ixN_rng t3 (by rw [List.length_map, kb.len]; exact t3')) ?_
      refine ⟨_, xs.set s3.toNat val, rfl, C5.other nl.1 nl.2, ?_, set_bytes kb _ hv.1 hv.2⟩
      rw [List.map_set]
      exact upd_same
    · rintro σ G1 ⟨v6, xs, rfl, C1, k1, kb⟩
      walk_at "st"
      refine lcR (fun Dl i acc H' => Bx H' b d ∧ H' lb = some (.lst (xs.map V.int)) ∧ ∃ ms : List Int, acc = ms.map V.int ∧ ms.length = i ∧ ∀ m ∈ ms, 0 ≤ m ∧ m ≤ 255)
        (fun Dl hD => ⟨C1.new hD, upd_new hD k1, [], rfl, rfl, by simp⟩) ?_ ?_
      · rintro Dl j acc G2 hD hj hacc hl ⟨C2, k2, ms, rfl, hms, hr⟩
        have nD := C1.ne_new hD
        have nl2 : lb ≠ Dl := ne_of_none k1 hD
        have hj : j < 32 := hj
        walk_at "st"
        refine ⟨rfl, ?_⟩
        walk_at "st"
        refine ⟨b, d, _, rfl, C2, by decide, fun s1 G3 t1 t1' x3 C3 => ?_⟩
        refine lc_push (x3.at1 nD.1 hacc) hl (by omega) ⟨C3.other nD.1 nD.2, upd_other nl2 (x3.at1 nl.1 k2), ms ++ [s1], by rw [List.map_append]; rfl, by rw [List.length_append, hms]; rfl, fun m hm => ?_⟩
        rcases List.mem_append.mp hm with h | h
        · exact hr m h
        · rw [List.mem_singleton.mp h]; omega
      · rintro Dl acc G2 hD hacc hl ⟨C2, k2, ms, rfl, hms, hr⟩
        have nD := C1.ne_new hD
        have nl2 : lb ≠ Dl := ne_of_none k1 hD
        have hms : ms.length = 32 := hms
        have hb : Bytes ms := ⟨hms, hr⟩
        walk_at "st"
        refine c_setL hacc (ixN_rng (by decide) (by rw [List.length_map, hms]; decide)) ?_
        walk_at "st"
        refine c_setL upd_same (ixN_rng (by decide) (by rw [List.length_set, List.length_map, hms]; decide)) ?_
        rw [upd_upd]
        walk_at "st"
        have es : ((ms.map V.int).set ((0 : Int).toNat) (V.int 76)).set ((31 : Int).toNat) (V.int 76) = ((ms.set 0 76).set 31 76).map V.int := by rw [List.map_set, List.map_set]; rfl
        rw [es]
        have hb2 : Bytes ((ms.set 0 76).set 31 76) := set_bytes (set_bytes hb 0 (by decide) (by decide)) 31 (by decide) (by decide)
        refine ⟨lb, xs, rfl, SqL.of (upd_other nl2 k2), kb, trivial, fun G4 x4 => ?_⟩
        walk_at "st"
        refine ⟨Dl, _, rfl, SqL.of (x4.at0 upd_same), hb2, trivial, fun G5 x5 => ?_⟩
        walk_at "st"
        exact ⟨_, _, _, _, _, _, rfl, (((C2.other nD.1 nD.2).kp0 x4).kp0 x5)⟩
  · rintro σ H2 ⟨v2, v3, v4, v5, v6, v7, rfl, B2⟩
    walk_at "st"
    walk_at "nw"
    intro p H3 N3
    walk_at "st"
    refine c_mulL N3.at_ (by decide) (by decide) (by rw [sizeLine_eq]; decide) fun z H4 N4 => ?_
    rw [rep_ints] at N4
    walk_at "st"
    refine ⟨z, _, rfl, SqL.of N4.at_, ⟨by rw [List.length_replicate]; rfl, fun x hx => ?_⟩, trivial, fun H5 e5 => q H5⟩
    rw [(List.mem_replicate.mp hx).2]
    decide
end
end K44



namespace K44
open PySem L2 Sa
abbrev R : PySem.W.OpenRow := PySem.W.OpenLaw.row PySem.Challenge.rw_sameanswers_k44_any_block_is_read_so
abbrev qv : Program := PySem.W.view R.prog [18]
abbrev hk : PySem.W.Hook := He.hookD 4 fa fn
def ob (s : PySem.W.SharedT) : He.AlD := He.obsDG 4 fa fn (HandSHeadRun.getT s)
theorem ob_eq (s : PySem.W.SharedT) : ob s = hk.obs s.abs := He.obsDG_eq (HandSHeadRun.getT_eq s)
def loose0 : List PySem.Str := ["PIECE", "RECORD", "LINE_END", "PERCENT", "SIGNS", "_are_codes", "_sign", "decode_piece", "_law_cell", "_law_digits", "_law_draw", "_law_pieces", "_law_stored_text", "_law_due", "_law_read", "_law_torn_piece"]
def loose : List PySem.Str := loose0
theorem run (w : World) : HandSHeadRun.RunEq R qv hk ob 4000 loose w := by
  intro os
  kernel_rfl
theorem atEnd {P : Program} {w : World} {K : PySem.W.Frag} {h : Heap} {mg : Str → Option Value} {f : Addr} (KX : K.In h) (G : h.Ns mainGlobals mg) (hf : mg "law" = some (.ref f)) (c : He.SaysD fa fn K) :
    ∃ fd : FuncData, (∀ (s : Shared) (v : Value), BindsTo s fd ⟨[v], []⟩ [("_law_script", v)]) ∧ ∀ base : Heap, K.In base → base.Ns mainGlobals mg → FnOk P w K mg base CX0 6 f fd ["_law_script"] (spLaw K) :=
  law_of KX G c hf 11 23 sc_law bn_law (fun vs H Q E z => by obtain ⟨a, ns, rfl, _⟩ := z; rfl) fun base => b_law ⟨h, KX, G, c⟩
end K44
open PySem PySem.W PySem.Calls PyProof.Rows
set_option maxRecDepth 100000 in
set_option maxHeartbeats 0 in
theorem PySem.Challenge.cw_sameanswers_k44_any_block_is_read_so_holds : PySem.Challenge.rw_sameanswers_k44_any_block_is_read_so.Holds := by
  w_on; o_law
  refine HandSHeadRun.head_any (r := OpenLaw.row PySem.Challenge.rw_sameanswers_k44_any_block_is_read_so) (q := K44.qv) (H := K44.hk) (ob := K44.ob) (M := 4000) (loose := K44.loose) (d := HandSHeadRun.topDef (OpenLaw.row PySem.Challenge.rw_sameanswers_k44_any_block_is_read_so).prog 18) (kwd := []) K44.ob_eq
    (by kernel_rfl) (fun s => by kernel_rfl) K44.run (by kernel_rfl) (by kernel_rfl) (by kernel_rfl) (by rfl) (by first | assumption | decide +kernel) (by decide +kernel) ⟨rfl, rfl, rfl, rfl, rfl, by decide +kernel⟩ ?hw ?hc
  case hw => w_witness2
  case hc =>
    refine L2.walk_ofE (l := PySem.Challenge.rw_sameanswers_k44_any_block_is_read_so) (n := 63) (k := 6) (x := "_law_script") (CX := L2.CX0) rfl (by decide) (by kernel_rfl) ⟨rfl, by decide, by decide⟩ ?F (fun _ _ _ _ z => z)
    intro w mg fa h Y G hmg0
    obtain ⟨K, KX, c⟩ := Y
    have hmg : mg ("law" : PySem.Str) = some (.ref fa) := by
      have e : (HandSHeadRun.topDef (OpenLaw.row PySem.Challenge.rw_sameanswers_k44_any_block_is_read_so).prog 18).name = ("law" : PySem.Str) := by kernel_rfl
      rw [← e]
      exact hmg0
    obtain ⟨fd, hb, hF⟩ := K44.atEnd (P := (PySem.Challenge.rw_sameanswers_k44_any_block_is_read_so).prog) (w := w) KX G hmg c
    exact ⟨K, fd, K44.spLaw K, KX, hb, fun H a ns hl _ hS => ⟨a, ns, rfl, hS, fun _ => rfl⟩, hF⟩
#print axioms PySem.Challenge.cw_sameanswers_k44_any_block_is_read_so_holds


