import PyProof.Rows.All
import Wide.All
import OpenK.AllK
import Wide.FinOn
import HandS.ForMost
import HandS.ForExc
import HandS.Evl
import HandS.TupAny
import HandS.TupMul
import HandS.TryMany
import HandS.ExcField
import HandS.ExcInit
import HandS.Zip
import HandS.DictComp
import HandS.Defaults
import HandS.More
import HandS.SetKeys
import HandS.Deep
import HandS.Codes
import HandS.HeadHook2
import HandS.HeadEnd
import HandS.Head2
import KE.KEqSeq
import PyProof.StrLawsChain
import PyProof.StrLawsTight
import PyProof.StrLawsAffix
import PySem.Challenge.RW_sameanswers_k01_names_paths_and_lines
set_option Elab.async false
set_option linter.all false
set_option maxRecDepth 100000
set_option maxHeartbeats 4000000
namespace Sa
open PySem PySem.Spec PyProof.Rows L2

/-! ## operators whatever the operands are -/
section
variable {X : Cx}
def orR (r r' : R2) : R2 := fun x y H Q => r x y H Q ∨ r' x y H Q
def rAddS : R2 := fun x y H Q => ∃ i j, x = .str i ∧ y = .str j ∧ i.length + j.length ≤ sizeLine ∧ Q (.str (i ++ j)) H
def rAddU (K : PySem.W.Frag) : R2 := orR (rI0 fun i j => .int (i + j)) (orR rAddS (orR rCat (rCatA K)))
theorem op_addU {K : PySem.W.Frag} (hK : X.K = K := by rfl) : OpR X (binaryOp .Add) (rAddU K) := hK ▸ op_add.or (op_add_str.or (op_cat.or op_catA))
/-- a text n times -/
def rptS (z : Str) (n : Int) : Str := ⟨(List.replicate n.toNat z.cps.toList).flatten.toArray⟩
theorem foldl_cps (a : Array Nat) : ∀ (m : Nat) (b : Array Nat), (List.replicate m a).foldl (fun x y => x ++ y) b = (b.toList ++ (List.replicate m a.toList).flatten).toArray
  | 0, b => by simp
  | m + 1, b => by
    rw [List.replicate_succ, List.foldl_cons, foldl_cps a m (b ++ a), List.replicate_succ, List.flatten_cons, Array.toList_append, List.append_assoc]
def rMulS : R2 := fun x y H Q => ∃ (z : Str) (n : Int), x = .str z ∧ y = .int n ∧ -(2 ^ 63) ≤ n ∧ n < 2 ^ 63 ∧ z.length * n.toNat ≤ sizeLine ∧ Q (.str (rptS z n)) H
theorem rptS_len (z : Str) (n : Int) : (rptS z n).length = z.length * n.toNat := by
  show ((List.replicate n.toNat z.cps.toList).flatten.toArray).size = z.cps.size * n.toNat
  rw [List.size_toArray, List.length_flatten, List.map_replicate, List.sum_replicate_nat, Array.length_toList, Nat.mul_comm]
theorem rptS_one {z : Str} : rptS z 1 = z := by
  show Str.mk _ = z
  cases z
  simp [rptS]
theorem op_mulS : OpR X (binaryOp .Mult) rMulS := by
  intro pins s σ H x y v u Q I rx ry h
  obtain ⟨z, n, rfl, rfl, h1, h2, hl, q⟩ := h
  obtain ⟨t, rfl⟩ := rx
  obtain ⟨t', rfl⟩ := ry
  have fin : ∀ t tk, EP X pins σ Q (.str (rptS z n) t) { s with toks := tk } := fun t tk => ⟨.str (rptS z n), H, I.tok _, ⟨_, rfl⟩, q⟩
  have e63 : (2 : Int) ^ 63 = 9223372036854775808 := by decide
  rw [e63] at h1 h2
  refine PySem.P.mul_str (by rw [e63, decide_eq_false (by omega), decide_eq_false (by omega)]; rfl) (fun hn hz hgt => ?_) (fun _ _ => decide_eq_false (by omega)) ?_
  · rw [sizeLine_eq] at hl
    have hz1 : n ≠ 1 ∧ z.length ≠ 0 := by simpa using hz
    have e : ((z.length * n.toNat : Nat) : Int) = (z.length : Int) * n := by rw [Int.natCast_mul]; congr 1; omega
    have g : (z.length : Int) ≤ 9223372036854775807 / n := (Int.le_ediv_iff_mul_le (by omega)).mpr (by omega)
    rw [e63] at hgt
    have g2 : (9223372036854775808 - 1 : Int) / n = 9223372036854775807 / n := rfl
    omega
  · by_cases hn : n < 1
    · rw [if_pos hn]
      refine ⟨by decide, ?_⟩
      have e : rptS z n = Str.empty := by
        have : n.toNat = 0 := by omega
        unfold rptS
        rw [this]
        rfl
      rw [← e]
      exact fin _ _
    · rw [if_neg hn]
      by_cases h : (n == 1 || z.length == 0) = true
      · rw [if_pos h]
        have e : rptS z n = z := by
          rcases Bool.or_eq_true _ _ |>.mp h with h | h
          · rw [eq_of_beq h, rptS_one]
          · have hl0 : z.cps = #[] := Array.size_eq_zero_iff.mp (eq_of_beq h)
            have hz : z = ⟨#[]⟩ := by cases z; simp_all
            subst hz
            simp [rptS]
        have f := fin t s.toks
        rw [e] at f
        exact f
      · rw [if_neg h]
        have e : (⟨(List.replicate n.toNat z.cps).foldl (· ++ ·) #[]⟩ : Str) = rptS z n := by
          rw [foldl_cps]
          simp [rptS]
        rw [e]
        exact ⟨by rw [rptS_len]; exact hl, fin _ _⟩
def rMulU (K : PySem.W.Frag) : R2 := orR (rI CMul fun i j => .int (i * j)) (orR rRep (orR (rRepT K) rMulS))
theorem op_mulU {K : PySem.W.Frag} (hK : X.K = K := by rfl) : OpR X (binaryOp .Mult) (rMulU K) := hK ▸ op_mul.or (op_rep.or (op_repT.or op_mulS))
def rSubU : R2 := rI0 fun i j => .int (i - j)
theorem op_subU : OpR X (binaryOp .Sub) rSubU := op_sub
def rDivU : R2 := rI CDiv fun i j => .int (i / j)
theorem op_divU : OpR X (binaryOp .FloorDiv) rDivU := op_fdiv
def rModU : R2 := rI (fun _ j => 0 < j) fun i j => .int (i % j)
theorem op_modU : OpR X (binaryOp .Mod) rModU := op_mod
def rBandU : R2 := rI0 fun i j => .int (Builtin.bitAnd i j)
theorem op_bandU : OpR X (binaryOp .BitAnd) rBandU := op_and
def rOrdS (p : List Nat → List Nat → Bool) : R2 := fun x y H Q => ∃ i j, x = .str i ∧ y = .str j ∧ Q (.bl (p i.cps.toList j.cps.toList)) H
def rLtU : R2 := orR (rI0 fun i j => .bl (decide (i < j))) (rOrdS fun a b => decide (a < b))
def rLeU : R2 := orR (rI0 fun i j => .bl (decide (i ≤ j))) (rOrdS fun a b => !decide (b < a))
def rGtU : R2 := orR (rI0 fun i j => .bl (decide (j < i))) (rOrdS fun a b => decide (b < a))
def rGeU : R2 := orR (rI0 fun i j => .bl (decide (j ≤ i))) (rOrdS fun a b => !decide (a < b))
theorem op_ltU : OpR X (compareOp .Lt) rLtU := op_lt.or op_lt_str
theorem op_leU : OpR X (compareOp .LtE) rLeU := op_le.or op_le_str
theorem op_gtU : OpR X (compareOp .Gt) rGtU := op_gt.or op_gt_str
theorem op_geU : OpR X (compareOp .GtE) rGeU := op_ge.or op_ge_str
def rEqU (K : PySem.W.Frag) : R2 := orR rEq (rEqD K)
def rNeU (K : PySem.W.Frag) : R2 := orR rNe (rNeD K)
theorem op_eqU {K : PySem.W.Frag} {A : Around} (hu : A.units + 64 < cLine) (hA : X.A = A := by rfl) (hK : X.K = K := by rfl) : OpR X (compareOp .Eq) (rEqU K) := hK ▸ op_eq.or (op_eqD (by rw [hA]; exact hu))
theorem op_neU {K : PySem.W.Frag} {A : Around} (hu : A.units + 64 < cLine) (hA : X.A = A := by rfl) (hK : X.K = K := by rfl) : OpR X (compareOp .NotEq) (rNeU K) := hK ▸ op_ne.or (op_neD (by rw [hA]; exact hu))
def rIsU : R2 := fun x y H Q => y = .non ∧ Q (.bl (decide (x = .non))) H
def rIsNotU : R2 := fun x y H Q => y = .non ∧ Q (.bl (!decide (x = .non))) H
theorem op_isU : OpR X (compareOp .Is) rIsU := op_isN
theorem op_isNotU : OpR X (compareOp .IsNot) rIsNotU := op_notN
def rInC : R2 := fun x y H Q => ∃ (c : Nat) (z : Str), x = .str ⟨#[c]⟩ ∧ y = .str z ∧ Q (.bl (decide (c ∈ z.cps.toList))) H
def rInT : R2 := fun x y H Q => ∃ i j, x = .str i ∧ y = .str j ∧ Q (.bl (!(Builtin.Str.occurrences j i 0 j.length 1).isEmpty)) H
def rNotInC : R2 := fun x y H Q => ∃ (c : Nat) (z : Str), x = .str ⟨#[c]⟩ ∧ y = .str z ∧ Q (.bl (!decide (c ∈ z.cps.toList))) H
def rNotInT : R2 := fun x y H Q => ∃ i j, x = .str i ∧ y = .str j ∧ Q (.bl (!(!(Builtin.Str.occurrences j i 0 j.length 1).isEmpty))) H
def rInU (K : PySem.W.Frag) : R2 := orR rInC (orR rInT (rIn K false))
def rNotInU (K : PySem.W.Frag) : R2 := orR rNotInC (orR rNotInT (rIn K true))
theorem op_inU {K : PySem.W.Frag} (hK : X.K = K := by rfl) : OpR X (compareOp .In) (rInU K) := hK ▸ op_in_sign.or (op_in_str.or op_in_seq)
theorem op_notInU {K : PySem.W.Frag} (hK : X.K = K := by rfl) : OpR X (compareOp .NotIn) (rNotInU K) := hK ▸ op_notIn_sign.or (op_notin_str.or op_notIn_seq)
def rSlU (K : PySem.W.Frag) : V → Option Int → Option Int → Hp → VK → Prop := fun x lo hi H Q => rSlL K x lo hi H Q ∨ rSlS x lo hi H Q ∨ rSlA K x lo hi H Q
theorem ix_U {K : PySem.W.Frag} (hK : X.K = K := by rfl) : IxR X (rIx K) := hK ▸ ix_seq
theorem sl_U {K : PySem.W.Frag} (hK : X.K = K := by rfl) : SlR X (rSlU K) := hK ▸ L2.SlR.or sl_list (L2.SlR.or sl_str sl_tupA)
/-! any of whole numbers -/
def rAnyI (K : PySem.W.Frag) : List V → Hp → VK → Prop := fun vs H Q => ∃ (a : Addr) (ns : List Int), vs = [V.ref a] ∧ SqL K H a (ns.map V.int) ∧ Q (.bl (ns.any (· != 0))) H
theorem any_rangeI : ∀ ns : List Int, ((List.range ns.length).any fun i => ns.getD i 0 != 0) = ns.any (· != 0)
  | [] => rfl
  | n :: ns => by
    have ih := any_rangeI ns
    rw [List.length_cons, List.range_succ_eq_map, List.any_cons, List.any_map, List.any_cons, ← ih]
    rfl
theorem cr_anyI (hc : X.calm = true) : CallR X (.builtin "any") (rAnyI X.K) := by
  intro pins s σ H vs us Q I r h
  obtain ⟨a, ns, rfl, hs, q⟩ := h
  obtain ⟨its, rv, hl, _⟩ := I.list hs
  have hi := rv.ints
  have hlen : its.length = ns.length := by rw [← rv.length, List.length_map]
  rw [Vals.ref1 r]
  refine call_any_walk (iter_any hl.isList fun s₂ e2 st hne => ?_)
  cases e2
  refine ⟨_, _, _, _, _, _, fun i => ns.getD i 0 != 0, rfl, Walks.list (A := X.A.in1) (I.ok.hd hc) _ a hne its.toArray, st, fun i v s Q E hv hq => ?_, fun h' tk hk => ?_⟩
  · have hv' : its[i]? = some v := by simpa using hv
    obtain ⟨n, hn⟩ : ∃ n, ns[i]? = some n := by
      have hlt := (List.getElem?_eq_some_iff.mp hv').1
      exact ⟨ns[i]'(by omega), List.getElem?_eq_getElem (by omega)⟩
    obtain ⟨u, hu, ru⟩ := rv.get (i := i) (x := V.int n) (by rw [List.getElem?_map, hn]; rfl)
    rw [hv'] at hu
    cases hu
    obtain ⟨t, rfl⟩ := ru
    have e : ns.getD i 0 = n := by rw [List.getD_eq_getElem?_getD, hn]; rfl
    have hq' : Q (ns.getD i 0 != 0) s := hq
    rw [e] at hq'
    exact truthy_int hq'
  · refine ⟨.bl _, H, I.kept fun b o eo => hk b o (fun hmem => ?_) (Heap.get?_push_of_some _ eo), ?_, q⟩
    · rcases List.mem_cons.mp hmem with e1 | hmem
      · exact absurd (e1 ▸ Heap.lt_size eo) (Nat.lt_irrefl _)
      · cases hmem
    · show Value.bool _ = Value.bool _
      rw [List.size_toArray, hlen, any_rangeI]
def rAnyU (K : PySem.W.Frag) : List V → Hp → VK → Prop := fun vs H Q => rAny K vs H Q ∨ rAnyI K vs H Q
theorem CallR.or2 {f : Value} {r r' : List V → Hp → VK → Prop} (h : CallR X f r) (h' : CallR X f r') : CallR X f (fun vs H Q => r vs H Q ∨ r' vs H Q) := by
  intro pins s σ H vs us Q I rr q
  exact q.elim (fun q => h pins s σ H vs us Q I rr q) (fun q => h' pins s σ H vs us Q I rr q)
theorem cr_anyU {K : PySem.W.Frag} (hc : X.calm = true) (hK : X.K = K := by rfl) : CallR X (.builtin "any") (rAnyU K) := hK ▸ CallR.or2 (cr_any hc) (cr_anyI hc)
end
end Sa

namespace Sa
open PySem L2

/-! ## the text's facts -/
def dOf (x : Str) (st : Stmt) : He.DefD := ⟨(x, none), x, x, defArgs st, defBody st, defScope st, [], []⟩
def Tx (fa : List He.Fa) (fn : List He.DefD) (K : PySem.W.Frag) (mg : Str → Option Value) : Prop := ∃ h : Heap, K.In h ∧ h.Ns mainGlobals mg ∧ He.SaysD fa fn K
section
variable {fa : List He.Fa} {fn : List He.DefD} {K : PySem.W.Frag} {mg : Str → Option Value}
theorem Tx.free (T : Tx fa fn K mg) (i : Nat) {x : Str} (h : fa[i]? = some (.free x) := by rfl) : mg x = none := by
  obtain ⟨hp, X, G, c⟩ := T
  exact He.free_ok X G (c.fact i h)
theorem Tx.glo (T : Tx fa fn K mg) (i : Nat) {x : Str} (h : fa[i]? = some (.glo x) := by rfl) : mg x = some (.ref (He.ga K x)) := by
  obtain ⟨hp, X, G, c⟩ := T
  exact He.glo_ok X G (c.fact i h)
theorem Tx.int (T : Tx fa fn K mg) (i : Nat) {x : Str} {n : Int} (h : fa[i]? = some (.int x n) := by rfl) : ∃ t, mg x = some (.int n t) := by
  obtain ⟨hp, X, G, c⟩ := T
  exact He.int_ok X G (c.fact i h)
theorem Tx.str (T : Tx fa fn K mg) (i : Nat) {x z : Str} (h : fa[i]? = some (.str x z) := by rfl) : ∃ t, mg x = some (.str z t) := by
  obtain ⟨hp, X, G, c⟩ := T
  exact He.str_ok X G (c.fact i h)
end
/-- a def that stands under the module's name x and keeps sp -/
structure DefAt (P : Program) (w : World) (K : PySem.W.Frag) (mg : Str → Option Value) (base : Heap) (CX : CXT) (x : Str) (k : Nat) (ps : List Str) (sp : Sp) : Prop where
  gl : mg x = some (.ref (He.ga K x))
  kp : PySem.W.keepIn K (.ref (He.ga K x)) = true
  ok : ∃ fd, FnOk P w K mg base CX k (He.ga K x) fd ps sp ∧ Binds K fd ps []
/-- how a def without defaults binds its parameters -/
def BindN (x : Str) (st : Stmt) (ps : List Str) : Prop := ∀ (kV doc pm : Value) (an : Option Addr) (cdv ct : Value) (us : List Value), us.length = ps.length →
  bindArgs (PySem.W.fnOf x x (defArgs st) (defBody st) (defScope st) .none kV doc pm an cdv ct) ⟨us, []⟩ = pure (ps.zip us)
section
variable {fa : List He.Fa} {fn : List He.DefD} {P : Program} {w : World} {K : PySem.W.Frag} {mg : Str → Option Value} {base : Heap}
/-- what a body owes -/
def Body (P : Program) (w : World) (K : PySem.W.Frag) (mg : Str → Option Value) (base : Heap) (x : Str) (st : Stmt) (N : List Str) (k : Nat) (sp : Sp) : Prop :=
  ∀ (cdv : Value) (A : Around) (outer : List Env) (s : Shared) (H : Hp) (vs : List V) (Q : VK) (E : XK), sp vs H Q E → let X : Cx := (cxOf CX0 P w K mg base N x (defScope st) (He.ga K x) cdv A outer s H E).nox
    Room k X.A → ∃ t, PSs X (defBody st) t ∧ t { nx := fun _ H' => Q .non H', rt := Q } (start N vs) H
theorem def_of (T : Tx fa fn K mg) (i j : Nat) {x : Str} {st : Stmt} {N ps : List Str} {k : Nat} {sp : Sp} (S : FnScope N ps (defScope st)) (B : BindN x st ps) (len : ∀ vs H Q E, sp vs H Q E → vs.length = ps.length)
    (body : Body P w K mg base x st N k sp) (hd : fn[i]? = some (dOf x st) := by rfl) (hg : fa[j]? = some (.glo x) := by rfl) : DefAt P w K mg base CX0 x (k + 1) ps sp := by
  have gl := T.glo j hg
  obtain ⟨hp, X, G, c⟩ := T
  obtain ⟨fd, F⟩ := c.def_ i hd
  refine ⟨gl, F.kp, fd, F.ok S len fun cdv A outer s H vs Q E hr h => ?_, F.bindsN B⟩
  obtain ⟨t, h1, h2⟩ := body cdv A outer s H vs Q E h hr
  exact ⟨t, h1.nox, h2⟩
end
/-- the law's own def, for the end -/
theorem law_of {fa : List He.Fa} {fn : List He.DefD} {P : Program} {w : World} {K : PySem.W.Frag} {mg : Str → Option Value} {h : Heap} {f : Addr} {N : List Str} {x : Str} {st : Stmt} {k : Nat} {sp : Sp} (KX : K.In h) (G : h.Ns mainGlobals mg) (c : He.SaysD fa fn K)
    (hf : mg "law" = some (.ref f)) (i j : Nat) (S : FnScope N [x] (defScope st)) (B : BindN "law" st [x]) (len : ∀ vs H Q E, sp vs H Q E → vs.length = 1) (body : ∀ base, Body P w K mg base "law" st N k sp)
    (hd : fn[i]? = some (dOf "law" st) := by rfl) (hg : fa[j]? = some (.glo "law") := by rfl) :
    ∃ fd : FuncData, (∀ (s : Shared) (v : Value), BindsTo s fd ⟨[v], []⟩ [(x, v)]) ∧ ∀ base : Heap, K.In base → base.Ns mainGlobals mg → FnOk P w K mg base CX0 (k + 1) f fd [x] sp := by
  obtain ⟨fd, F⟩ := c.def_ i hd
  have gl := He.glo_ok KX G (c.fact j hg)
  cases hf.symm.trans gl
  have b := F.bindsA (ps := [x]) B
  refine ⟨fd, fun s v => b s [v] rfl, fun base _ _ => F.ok S len fun cdv A outer s H vs Q E hr h => ?_⟩
  obtain ⟨t, h1, h2⟩ := body base cdv A outer s H vs Q E h hr
  exact ⟨t, h1.nox, h2⟩
theorem DefAt.up {P : Program} {w : World} {K : PySem.W.Frag} {mg : Str → Option Value} {base : Heap} {CX : CXT} {x : Str} {j k : Nat} {ps : List Str} {sp : Sp} (D : DefAt P w K mg base CX x j ps sp) (h : j ≤ k) : DefAt P w K mg base CX x k ps sp :=
  ⟨D.gl, D.kp, let ⟨fd, F, B⟩ := D.ok; ⟨fd, F.mono h, B⟩⟩
section
variable {X : Cx} {CX : CXT} {x : Str} {k j : Nat} {ps : List Str} {sp : Sp} {E : XK} {p pos : Pos} {e : Expr} {es : List Expr} {t : TA}
def tCallA (sp : Sp) (E : XK) (t : TA) : TE := fun σ H Q => t σ H fun vs H1 => sp vs H1 Q E
theorem pe_callA (D : DefAt X.prog X.w X.K X.mg X.base CX x j ps sp) (hr : Room k X.A) (hx : Passes CX X E) (ha : PA X (e :: es) t) (hjk : j ≤ k := by decide) (hg : Gl X x := by rfl)
    (hdb : (x == ("__debug__" : Str)) = false := by decide) (he : starEach (e :: es) X.env = (false, eval e X.env) :: starEach es X.env := by rfl) (hpl : (backTo pos (starEach es X.env)).any (·.1) = false := by rfl) :
    PE X (.Call (.Name x p) (e :: es) [] pos) (tCallA sp E t) := by
  obtain ⟨fd, F, B⟩ := D.ok
  have h := pe_call (F.mono hjk) hr hg D.gl D.kp B .nil hx ha hdb he hpl (p := p)
  have e : tCall sp [] E t = tCallA sp E t := by
    funext σ H Q
    unfold tCall tCallA
    simp only [List.append_nil]
  rw [← e]
  exact h
theorem pe_gInt {i : Int} (hm : ∃ t, X.mg x = some (.int i t)) (hg : Gl X x := by rfl) (hd : (x == ("__debug__" : Str)) = false := by decide) : PE X (.Name x pos) (tC (.int i)) :=
  let ⟨t, h⟩ := hm; pe_glob hg h ⟨t, rfl⟩ hd
theorem pe_gStr {z : Str} (hm : ∃ t, X.mg x = some (.str z t)) (hg : Gl X x := by rfl) (hd : (x == ("__debug__" : Str)) = false := by decide) : PE X (.Name x pos) (tC (.str z)) :=
  let ⟨t, h⟩ := hm; pe_glob hg h ⟨t, rfl⟩ hd
end

/-! ## readings, one step at a time -/
/-- a new object o at p: all else is as it was -/
structure New (H : Hp) (p : Addr) (o : HO) (H' : Hp) : Prop where
  fr : H p = none
  eq : H' = upd H p o
section
variable {K : PySem.W.Frag} {σ : St} {H : Hp} {D : Ends} {Q : VK} {i j : Int} {n : Nat} {v x y : V} {te ta tb tc : TE} {t u : TS} {g : TG} {tt tA tB1 : TT} {r r' : R2} {a b p : Addr} {xs ys : List V} {s z : Str}
theorem c_seq (h : t { D with nx := u D } σ H) : tSeq t u D σ H := h
theorem c_next (h : D.nx σ H) : tNext D σ H := h
theorem c_ret (h : te σ H D.rt) : tRet te D σ H := h
theorem c_retN (h : D.rt .non H) : tRetN D σ H := h
theorem c_asg (h : te σ H fun x H1 => g x σ H1 D.nx) : tAsg te g D σ H := h
theorem c_gName {R : St → Hp → Prop} (h : R (σ.set n (some v)) H) : gName n v σ H R := h
theorem c_drop (h : te σ H fun _ H1 => D.nx σ H1) : tDrop te D σ H := h
theorem c_ifs (h : tt σ H fun b H1 => if b = true then t D σ H1 else u D σ H1) : tIfS tt t u D σ H := h
theorem c_var (e : σ[n]? = some (some v)) (q : Q v H) : tVar n σ H Q := ⟨v, e, q⟩
theorem c_c (q : Q v H) : tC v σ H Q := q
theorem c_op (h : ta σ H fun x H1 => tb σ H1 fun y H2 => r x y H2 Q) : tOp r ta tb σ H Q := h
theorem c_chain (h : ta σ H fun x H1 => tb σ H1 fun y H2 => r x y H2 fun z H3 => ∃ k, z = .bl k ∧ (if k = true then tc σ H3 fun w' H4 => r' y w' H4 Q else Q (.bl false) H3)) : tChain r r' ta tb tc σ H Q := h
theorem c_test {R : Bool → Hp → Prop} (h : te σ H fun x H1 => ∃ k, x = .bl k ∧ R k H1) : tTest te σ H R := h
theorem c_tB {R : Bool → Hp → Prop} (h : te σ H fun x H1 => ∃ k, x = .bl k ∧ R k H1) : tB te σ H R := h
theorem c_not {R : Bool → Hp → Prop} (h : tt σ H fun c H1 => R (!c) H1) : tNot tt σ H R := h
theorem c_and {R : Bool → Hp → Prop} (h : tA σ H fun c H1 => if c = true then tB1 σ H1 R else R false H1) : tAnd tA tB1 σ H R := h
theorem c_or {R : Bool → Hp → Prop} (h : tA σ H fun c H1 => if c = true then R true H1 else tB1 σ H1 R) : tOr tA tB1 σ H R := h
theorem c_andV (h : ta σ H fun x H1 => ∃ c, x = .bl c ∧ if c = true then tb σ H1 Q else Q (.bl false) H1) : tAndV ta tb σ H Q := h
theorem c_orV (h : ta σ H fun x H1 => ∃ c, x = .bl c ∧ if c = true then Q (.bl true) H1 else tb σ H1 Q) : tOrV ta tb σ H Q := h
theorem c_notV (h : ta σ H fun x H1 => ∃ c, x = .bl c ∧ Q (.bl (!c)) H1) : tNotV ta σ H Q := h
theorem c_if (h : tt σ H fun c H1 => if c = true then ta σ H1 Q else tb σ H1 Q) : tIf tt ta tb σ H Q := h
theorem c_nil {R : List V → Hp → Prop} (h : R [] H) : tNil σ H R := h
theorem c_cons {tr : TA} {R : List V → Hp → Prop} (h : te σ H fun x H1 => tr σ H1 fun xs H2 => R (x :: xs) H2) : tCons te tr σ H R := h
theorem c_call {sp : Sp} {E : XK} {tr : TA} (h : tr σ H fun vs H1 => sp vs H1 Q E) : tCallA sp E tr σ H Q := h
theorem c_cb {rr : List V → Hp → VK → Prop} {tr : TA} (h : tr σ H fun vs H1 => rr vs H1 Q) : tCB rr tr σ H Q := h
def Ret (Q : VK) (v : V) (H : Hp) : Prop := Q v H
theorem c_nw {A : Prop} {o : HO} (hl : A) (h : ∀ p H', New H p o H' → Q (.ref p) H') : A ∧ ∀ p, H p = none → Ret Q (.ref p) (upd H p o) := ⟨hl, fun p hp => h p _ ⟨hp, rfl⟩⟩
theorem c_tup {tr : TA} (h : tr σ H fun xs H1 => xs.length ≤ sizeLine ∧ ∀ p, H1 p = none → Ret Q (.ref p) (upd H1 p (.tup xs))) : tTup tr σ H Q := h
theorem c_lst {tr : TA} (h : tr σ H fun xs H1 => xs.length ≤ sizeLine ∧ ∀ p, H1 p = none → Ret Q (.ref p) (upd H1 p (.lst xs))) : tLst tr σ H Q := h
theorem c_sl {rr : V → Option Int → Option Int → Hp → VK → Prop} {tl th : TO} (h : te σ H fun x H1 => tl σ H1 fun l H2 => th σ H2 fun u H3 => rr x l u H3 Q) : tSl rr te tl th σ H Q := h
theorem c_noPart {R : Option Int → Hp → Prop} (h : R none H) : tNoPart σ H R := h
theorem c_part {R : Option Int → Hp → Prop} (h : te σ H fun x H1 => ∃ i, x = .int i ∧ R (some i) H1) : tPart te σ H R := h
theorem c_bm {T : String} {rr : V → List V → Hp → VK → Prop} {tr : TA} (h : te σ H fun x H1 => tyV K T x H1 ∧ tr σ H1 fun xs H2 => rr x xs H2 Q) : tBM K T rr te tr σ H Q := h
theorem c_bm0 {T : String} {rr : V → List V → Hp → VK → Prop} (h : te σ H fun x H1 => tyV K T x H1 ∧ rr x [] H1 Q) : tBM0 K T rr te σ H Q := h
/-! answers of operators -/
theorem c_bl {b : Bool} {R : Bool → Prop} (h : R b) : ∃ k, V.bl b = V.bl k ∧ R k := ⟨b, rfl, h⟩
theorem c_int {R : Int → Prop} (h : R i) : ∃ k, V.int i = V.int k ∧ R k := ⟨i, rfl, h⟩
theorem c_addI (q : Q (.int (i + j)) H) : rAddU K (.int i) (.int j) H Q := .inl ⟨i, j, rfl, rfl, q⟩
theorem c_addS (hl : s.length + z.length ≤ sizeLine) (q : Q (.str (s ++ z)) H) : rAddU K (.str s) (.str z) H Q := .inr (.inl ⟨s, z, rfl, rfl, hl, q⟩)
theorem c_addL (ha : H a = some (.lst xs)) (hb : H b = some (.lst ys)) (hl : xs.length + ys.length ≤ sizeLine) (q : ∀ p H', New H p (.lst (xs ++ ys)) H' → Q (.ref p) H') : rAddU K (.ref a) (.ref b) H Q :=
  .inr (.inr (.inl ⟨a, b, xs, ys, rfl, rfl, ha, hb, hl, fun p hp => q p _ ⟨hp, rfl⟩⟩))
theorem c_subI (q : Q (.int (i - j)) H) : rSubU (.int i) (.int j) H Q := ⟨i, j, rfl, rfl, q⟩
theorem c_mulI (hc : (-(2 ^ 64) < i ∧ i < 2 ^ 64) ∨ (-(2 ^ 64) < j ∧ j < 2 ^ 64)) (q : Q (.int (i * j)) H) : rMulU K (.int i) (.int j) H Q := .inl ⟨i, j, rfl, rfl, hc, q⟩
theorem c_mulL (ha : H a = some (.lst xs)) (h0 : -(2 ^ 63) ≤ j) (h1 : j < 2 ^ 63) (hl : xs.length * j.toNat ≤ sizeLine) (q : ∀ p H', New H p (.lst (List.replicate j.toNat xs).flatten) H' → Q (.ref p) H') : rMulU K (.ref a) (.int j) H Q :=
  .inr (.inl ⟨a, j, xs, rfl, rfl, ha, h0, h1, hl, fun p hp => q p _ ⟨hp, rfl⟩⟩)
theorem c_mulT (ha : SqT K H a xs) (hne : xs ≠ []) (h0 : 2 ≤ j) (h1 : j ≤ 1000) (hl : xs.length ≤ 1000) (q : ∀ p H', New H p (.tup (List.replicate j.toNat xs).flatten) H' → Q (.ref p) H') : rMulU K (.ref a) (.int j) H Q :=
  .inr (.inr (.inl ⟨a, j, xs, rfl, rfl, ha, hne, h0, h1, hl, fun p hp => q p _ ⟨hp, rfl⟩⟩))
theorem c_mulS (h0 : -9223372036854775808 ≤ j) (h1 : j < 9223372036854775808) (hl : z.length * j.toNat ≤ sizeLine) (q : Q (.str (rptS z j)) H) : rMulU K (.str z) (.int j) H Q :=
  .inr (.inr (.inr ⟨z, j, rfl, rfl, by simpa using h0, by simpa using h1, hl, q⟩))
theorem c_divI (hc : 0 < j ∧ j < 1073741824) (q : Q (.int (i / j)) H) : rDivU (.int i) (.int j) H Q := ⟨i, j, rfl, rfl, hc, q⟩
theorem c_modI (hc : 0 < j) (q : Q (.int (i % j)) H) : rModU (.int i) (.int j) H Q := ⟨i, j, rfl, rfl, hc, q⟩
theorem c_bandI (q : Q (.int (Builtin.bitAnd i j)) H) : rBandU (.int i) (.int j) H Q := ⟨i, j, rfl, rfl, q⟩
theorem c_ltI (q : Q (.bl (decide (i < j))) H) : rLtU (.int i) (.int j) H Q := .inl ⟨i, j, rfl, rfl, q⟩
theorem c_leI (q : Q (.bl (decide (i ≤ j))) H) : rLeU (.int i) (.int j) H Q := .inl ⟨i, j, rfl, rfl, q⟩
theorem c_gtI (q : Q (.bl (decide (j < i))) H) : rGtU (.int i) (.int j) H Q := .inl ⟨i, j, rfl, rfl, q⟩
theorem c_geI (q : Q (.bl (decide (j ≤ i))) H) : rGeU (.int i) (.int j) H Q := .inl ⟨i, j, rfl, rfl, q⟩
theorem dI : decide (V.int i = V.int j) = decide (i = j) := by rw [dec_int]; exact Bool.beq_eq_decide_eq _ _
theorem dS : decide (V.str s = V.str z) = decide (s = z) := by rw [dec_str]; exact Bool.beq_eq_decide_eq _ _
theorem c_eqI (q : Q (.bl (decide (i = j))) H) : rEqU K (.int i) (.int j) H Q := .inl ⟨rfl, by rw [dI]; exact q⟩
theorem c_neI (q : Q (.bl (!decide (i = j))) H) : rNeU K (.int i) (.int j) H Q := .inl ⟨rfl, by rw [dI]; exact q⟩
theorem c_eqS (q : Q (.bl (decide (s = z))) H) : rEqU K (.str s) (.str z) H Q := .inl ⟨rfl, by rw [dS]; exact q⟩
theorem c_neS (q : Q (.bl (!decide (s = z))) H) : rNeU K (.str s) (.str z) H Q := .inl ⟨rfl, by rw [dS]; exact q⟩
theorem c_eqB {b c : Bool} (q : Q (.bl (b == c)) H) : rEqU K (.bl b) (.bl c) H Q := .inl ⟨rfl, by rw [dec_bl]; exact q⟩
theorem c_neB {b c : Bool} (q : Q (.bl (b != c)) H) : rNeU K (.bl b) (.bl c) H Q := .inl ⟨rfl, by rw [dec_bl]; exact q⟩
theorem c_eqD {d e : PyData} (hx : Dp K H x d) (hy : Dp K H y e) (sd : SeqAt.shaped d = true) (se : SeqAt.shaped e = true) (q : Q (.bl (PyData.eqv d e)) H) : rEqU K x y H Q := .inr ⟨d, e, hx, hy, sd, se, q⟩
theorem c_neD {d e : PyData} (hx : Dp K H x d) (hy : Dp K H y e) (sd : SeqAt.shaped d = true) (se : SeqAt.shaped e = true) (q : Q (.bl (!PyData.eqv d e)) H) : rNeU K x y H Q := .inr ⟨d, e, hx, hy, sd, se, q⟩
theorem c_isN (q : Q (.bl (decide (x = .non))) H) : rIsU x .non H Q := ⟨rfl, q⟩
theorem c_notN (q : Q (.bl (!decide (x = .non))) H) : rIsNotU x .non H Q := ⟨rfl, q⟩
theorem c_inC {c : Nat} (q : Q (.bl (decide (c ∈ z.cps.toList))) H) : rInU K (.str ⟨#[c]⟩) (.str z) H Q := .inl ⟨c, z, rfl, rfl, q⟩
theorem c_notInC {c : Nat} (q : Q (.bl (!decide (c ∈ z.cps.toList))) H) : rNotInU K (.str ⟨#[c]⟩) (.str z) H Q := .inl ⟨c, z, rfl, rfl, q⟩
theorem c_ixL (h : SqL K H a xs) (e : atI xs i = some v) (q : Q v H) : rIx K (.ref a) (.int i) H Q := .inl ⟨a, xs, i, v, rfl, rfl, h, e, q⟩
theorem c_ixT (h : SqT K H a xs) (e : atI xs i = some v) (q : Q v H) : rIx K (.ref a) (.int i) H Q := .inr (.inl ⟨a, xs, i, v, rfl, rfl, h, e, q⟩)
theorem c_ixS {c : Nat} (h : z.length ≤ sizeLine) (e : atI z.cps.toList i = some c) (q : Q (.str ⟨#[c]⟩) H) : rIx K (.str z) (.int i) H Q := .inr (.inr ⟨z, i, c, rfl, rfl, h, e, q⟩)
theorem c_slL {lo hi : Option Int} (h : SqL K H a xs) (q : ∀ p H', New H p (.lst (cutV xs lo hi)) H' → Q (.ref p) H') : rSlU K (.ref a) lo hi H Q := .inl ⟨a, xs, rfl, h, fun p hp => q p _ ⟨hp, rfl⟩⟩
theorem c_slS {lo hi : Option Int} (h : z.length ≤ sizeLine) (q : Q (.str (cutS z lo hi)) H) : rSlU K (.str z) lo hi H Q := .inr (.inl ⟨z, rfl, h, q⟩)
theorem c_append {l : Addr} (h : H l = some (.lst xs)) (hl : xs.length < sizeLine) (q : Q .non (upd H l (.lst (xs ++ [y])))) : rAppend (.ref l) [y] H Q := ⟨l, xs, y, rfl, rfl, h, hl, q⟩
theorem c_tyL (h : SqL K H a xs) : tyV K "list" (.ref a) H := Or.inl ⟨rfl, _, h⟩
theorem c_tyA {B : Prop} (h : SqL K H a xs) (q : B) : tyV K "list" (.ref a) H ∧ B := ⟨c_tyL h, q⟩
theorem c_setL {l : Addr} {k : Nat} {R : Hp → Prop} (h : H l = some (.lst xs)) (e : ixN xs.length i = some k) (q : R (upd H l (.lst (xs.set k v)))) : rSetL (.ref l) (.int i) v H R := ⟨l, xs, i, k, rfl, rfl, h, e, q⟩
theorem c_gSub {to ti : TE} {ts : TSet} {R : St → Hp → Prop} (h : to σ H fun o H1 => ti σ H1 fun i H2 => ts o i v H2 fun H3 => R σ H3) : gSub to ti ts v σ H R := h
theorem lt_one {c d : Nat} : decide ((⟨#[c]⟩ : Str).cps.toList < (⟨#[d]⟩ : Str).cps.toList) = decide (c < d) := by
  show decide ([c] < [d]) = _
  congr 1
  simp [List.cons_lt_cons_iff]
theorem q_of {b c : Bool} (e : b = c) (q : Q (.bl c) H) : Q (.bl b) H := e ▸ q
theorem ge_one {c d : Nat} : (!decide ((⟨#[d]⟩ : Str).cps.toList < (⟨#[c]⟩ : Str).cps.toList)) = decide (c ≤ d) := by rw [lt_one]; by_cases h : c ≤ d <;> simp [h] <;> omega
theorem c_leC {c d : Nat} (q : Q (.bl (decide (c ≤ d))) H) : rLeU (.str ⟨#[c]⟩) (.str ⟨#[d]⟩) H Q := .inr ⟨_, _, rfl, rfl, q_of ge_one q⟩
theorem c_ltC {c d : Nat} (q : Q (.bl (decide (c < d))) H) : rLtU (.str ⟨#[c]⟩) (.str ⟨#[d]⟩) H Q := .inr ⟨_, _, rfl, rfl, q_of lt_one q⟩
theorem c_gtC {c d : Nat} (q : Q (.bl (decide (d < c))) H) : rGtU (.str ⟨#[c]⟩) (.str ⟨#[d]⟩) H Q := .inr ⟨_, _, rfl, rfl, q_of lt_one q⟩
theorem c_geC {c d : Nat} (q : Q (.bl (decide (d ≤ c))) H) : rGeU (.str ⟨#[c]⟩) (.str ⟨#[d]⟩) H Q := .inr ⟨_, _, rfl, rfl, q_of ge_one q⟩
/-! tests of values -/
theorem c_truB {b : Bool} {R : Bool → Prop} (q : R b) : ∃ k, TruV K (.bl b) H k ∧ R k := ⟨b, rfl, q⟩
theorem c_truL {R : Bool → Prop} (h : SqL K H a xs) (q : R (!xs.isEmpty)) : ∃ k, TruV K (.ref a) H k ∧ R k := ⟨_, .inl ⟨xs, h, rfl⟩, q⟩
theorem c_truS {R : Bool → Prop} (h : s.length ≤ sizeLine) (q : R ((s.length : Int) != 0)) : ∃ k, TruV K (.str s) H k ∧ R k := ⟨_, ⟨h, rfl⟩, q⟩
/-! conditions -/
theorem c_ite {c : Prop} [Decidable c] {A B : Prop} (h1 : c → A) (h2 : ¬ c → B) : if decide c = true then A else B := by
  by_cases h : c
  · rw [decide_eq_true h, if_pos rfl]; exact h1 h
  · rw [decide_eq_false h, if_neg Bool.false_ne_true]; exact h2 h
theorem c_iteN {c : Prop} [Decidable c] {A B : Prop} (h1 : ¬ c → A) (h2 : c → B) : if (!decide c) = true then A else B := by
  by_cases h : c
  · rw [decide_eq_true h, Bool.not_true, if_neg Bool.false_ne_true]; exact h2 h
  · rw [decide_eq_false h, Bool.not_false, if_pos rfl]; exact h1 h
theorem c_iteT {b : Bool} {A B : Prop} (hb : b = true) (h : A) : if b = true then A else B := by rw [if_pos hb]; exact h
theorem c_iteF {b : Bool} {A B : Prop} (hb : b = false) (h : B) : if b = true then A else B := by rw [hb, if_neg Bool.false_ne_true]; exact h
theorem c_it1 {A B : Prop} (h : A) : if true = true then A else B := c_iteT rfl h
theorem c_it2 {A B : Prop} (h : B) : if false = true then A else B := c_iteF rfl h
theorem c_it3 {A B : Prop} (h : A) : if (!false) = true then A else B := c_iteT rfl h
theorem c_it4 {A B : Prop} (h : B) : if (!true) = true then A else B := c_iteF rfl h
theorem c_iteB {b : Bool} {A B : Prop} (h1 : b = true → A) (h2 : b = false → B) : if b = true then A else B := by
  cases b with
  | true => exact c_iteT rfl (h1 rfl)
  | false => exact c_iteF rfl (h2 rfl)
theorem c_iteNB {b : Bool} {A B : Prop} (h1 : b = false → A) (h2 : b = true → B) : if (!b) = true then A else B := by
  cases b with
  | true => exact c_iteF rfl (h2 rfl)
  | false => exact c_iteT rfl (h1 rfl)
end
end Sa

namespace Sa
open PySem L2

/-! ## built-ins by names of their readings -/
section
variable {X : Cx} {K : PySem.W.Frag} {H : Hp} {Q : VK} {i j : Int} {a : Addr} {xs : List V} {s z : Str}
def rLenU (K : PySem.W.Frag) : List V → Hp → VK → Prop := fun xs H Q => ∃ x n, xs = [x] ∧ LenV K x H n ∧ Q (.int n) H
theorem cr_len {K : PySem.W.Frag} (hK : X.K = K := by rfl) : CallR X (.builtin "len") (rLenU K) := hK ▸ call_len
theorem c_lenL (h : SqL K H a xs) (q : Q (.int xs.length) H) : rLenU K [.ref a] H Q := ⟨_, _, rfl, .inl ⟨xs, h, rfl⟩, q⟩
theorem c_lenT (h : SqT K H a xs) (q : Q (.int xs.length) H) : rLenU K [.ref a] H Q := ⟨_, _, rfl, .inr ⟨xs, h, rfl⟩, q⟩
theorem c_lenS (h : s.length ≤ sizeLine) (q : Q (.int s.length) H) : rLenU K [.str s] H Q := ⟨_, _, rfl, ⟨h, rfl⟩, q⟩
def rIntU : List V → Hp → VK → Prop := fun xs H Q => (∃ i, xs = [.int i] ∧ Q (.int i) H) ∨ ∃ k, xs = [.bl k] ∧ Q (.int (if k then 1 else 0)) H
theorem cr_int : CallR X (.type "int") rIntU := call_int1
theorem c_intI (q : Q (.int i) H) : rIntU [.int i] H Q := .inl ⟨i, rfl, q⟩
def rOrdU : List V → Hp → VK → Prop := fun xs H Q => ∃ x, xs = [.str x] ∧ x.length = 1 ∧ Q (.int (x.cps.getD 0 0 : Nat)) H
theorem cr_ord : CallR X (.builtin "ord") rOrdU := call_ord
theorem c_ord {c : Nat} (q : Q (.int c) H) : rOrdU [.str ⟨#[c]⟩] H Q := ⟨_, rfl, rfl, q⟩
def rMax2U : List V → Hp → VK → Prop := fun xs H Q => ∃ i j, xs = [.int i, .int j] ∧ Q (.int (if j > i then j else i)) H
def rMin2U : List V → Hp → VK → Prop := fun xs H Q => ∃ i j, xs = [.int i, .int j] ∧ Q (.int (if j < i then j else i)) H
theorem cr_max2 (hc : X.calm = true) : CallR X (.builtin "max") rMax2U := call_max2 hc
theorem cr_min2 (hc : X.calm = true) : CallR X (.builtin "min") rMin2U := call_min2 hc
theorem c_max2 (q : Q (.int (max i j)) H) : rMax2U [.int i, .int j] H Q := ⟨i, j, rfl, by
  have e : (if j > i then j else i) = max i j := by split <;> omega
  rw [e]; exact q⟩
theorem c_min2 (q : Q (.int (min i j)) H) : rMin2U [.int i, .int j] H Q := ⟨i, j, rfl, by
  have e : (if j < i then j else i) = min i j := by split <;> omega
  rw [e]; exact q⟩
def rListU (K : PySem.W.Frag) : List V → Hp → VK → Prop := fun xs H Q => ∃ p ys, xs = [.ref p] ∧ (SqL K H p ys ∨ SqT K H p ys) ∧ ∀ l, H l = none → Q (.ref l) (upd H l (.lst ys))
theorem cr_list {K : PySem.W.Frag} (hK : X.K = K := by rfl) : CallR X (.type "list") (rListU K) := hK ▸ call_list_of
theorem c_listL (h : SqL K H a xs) (q : ∀ l H', New H l (.lst xs) H' → Q (.ref l) H') : rListU K [.ref a] H Q := ⟨a, xs, rfl, .inl h, fun p hp => q p _ ⟨hp, rfl⟩⟩
theorem c_listT (h : SqT K H a xs) (q : ∀ l H', New H l (.lst xs) H' → Q (.ref l) H') : rListU K [.ref a] H Q := ⟨a, xs, rfl, .inr h, fun p hp => q p _ ⟨hp, rfl⟩⟩
def rTupU (K : PySem.W.Frag) : List V → Hp → VK → Prop := fun xs H Q => ∃ p ys, xs = [.ref p] ∧ ((SqL K H p ys ∧ ∀ l, H l = none → Q (.ref l) (upd H l (.tup ys))) ∨ (SqT K H p ys ∧ Q (.ref p) H))
theorem cr_tuple {K : PySem.W.Frag} (hK : X.K = K := by rfl) : CallR X (.type "tuple") (rTupU K) := hK ▸ call_tuple_of
theorem c_tupleL (h : SqL K H a xs) (q : ∀ l H', New H l (.tup xs) H' → Q (.ref l) H') : rTupU K [.ref a] H Q := ⟨a, xs, rfl, .inl ⟨h, fun p hp => q p _ ⟨hp, rfl⟩⟩⟩
theorem c_tupleT (h : SqT K H a xs) (q : Q (.ref a) H) : rTupU K [.ref a] H Q := ⟨a, xs, rfl, .inr ⟨h, q⟩⟩
theorem c_anyI {ns : List Int} (h : SqL K H a (ns.map V.int)) (q : Q (.bl (ns.any (· != 0))) H) : rAnyU K [.ref a] H Q := .inr ⟨a, ns, rfl, h, q⟩
theorem c_anyB {bs : List Bool} (h : SqL K H a (bs.map V.bl)) (q : Q (.bl (bs.any id)) H) : rAnyU K [.ref a] H Q := .inl ⟨a, bs, rfl, h, q⟩
def rAllU (K : PySem.W.Frag) : List V → Hp → VK → Prop := rAll K
theorem cr_allU {K : PySem.W.Frag} (hc : X.calm = true) (hK : X.K = K := by rfl) : CallR X (.builtin "all") (rAllU K) := hK ▸ cr_all hc
theorem c_allB {bs : List Bool} (h : SqL K H a (bs.map V.bl)) (q : Q (.bl (bs.all id)) H) : rAllU K [.ref a] H Q := ⟨a, bs, rfl, h, q⟩
end
section
variable {X : Cx} {K : PySem.W.Frag} {σ : St} {H : Hp} {Q : VK} {a : Addr} {s z : Str} {ys : List Str} {to te : TE} {o e : Expr}
/-- a text's method of one argument -/
def tM1U (r : V → List V → Hp → VK → Prop) (to te : TE) : TE := fun σ H Q => to σ H fun x H1 => (∃ a, x = .str a) ∧ te σ H1 fun y H2 => r x [y] H2 Q
theorem c_m1 {r : V → List V → Hp → VK → Prop} (h : to σ H fun x H1 => (∃ a, x = .str a) ∧ te σ H1 fun y H2 => r x [y] H2 Q) : tM1 r to te σ H Q := h
theorem c_isStr {A : Prop} (h : A) : (∃ b, V.str s = V.str b) ∧ A := ⟨⟨s, rfl⟩, h⟩
def rJoin (K : PySem.W.Frag) : V → List V → Hp → VK → Prop := fun x xs H Q => ∃ a p, ∃ ys : List Str, x = .str a ∧ xs = [.ref p] ∧ (SqL K H p (ys.map V.str) ∨ SqT K H p (ys.map V.str)) ∧
  (ys.map (·.length)).sum + ys.length * a.length ≤ 16777216 ∧ Q (.str (Txt.join a ys)) H
theorem pe_joinU {K : PySem.W.Frag} {apos pos : Pos} (ho : PE X o to) (he : PE X e te) (hK : X.K = K := by rfl) (hs : starEach [e] X.env = [(false, eval e X.env)] := by rfl) (hbase : attributeBase o "join" X.env (eval o X.env) = eval o X.env := by rfl) (hline : (apos.endLine == pos.line) = true := by rfl) :
    PE X (.Call (.Attribute o "join" apos) [e] [] pos) (tM1 (rJoin K) to te) := hK ▸ pe_join ho he hs hbase hline
theorem c_join (h : SqL K H a (ys.map V.str)) (hl : (ys.map (·.length)).sum + ys.length * s.length ≤ 16777216) (q : Q (.str (Txt.join s ys)) H) : rJoin K (.str s) [.ref a] H Q := ⟨s, a, ys, rfl, rfl, .inl h, hl, q⟩
end

/-! ## rules that name the written part -/
section
variable {X : Cx} {K : PySem.W.Frag} {e o : Expr} {es : List Expr} {te to ta : TE} {tr : TA} {tg : Expr} {x : Str}
theorem pt_tru {a : Expr} (ha : PE X a ta) (hK : X.K = K := by rfl) (he : ∀ whole, isTrue a X.env whole = (do let v ← whole; standAt a.pos; holding [v] (truthy v)) := by intro _; rfl) :
    PT X a (fun σ H Q => ta σ H fun x H' => ∃ k, TruV K x H' k ∧ Q k H') := hK ▸ pt_truth ha he
theorem pi_listU (hl : PE X e te) (hK : X.K = K := by rfl) : PI X tg e (iList K te) := hK ▸ pi_list hl
theorem pi_tupU (hl : PE X e te) (hK : X.K = K := by rfl) : PI X tg e (iTup K te) := hK ▸ pi_tup hl
theorem pg_tupU {pos : Pos} {k n : Nat} {t : TGs} (hc : X.calm = true) (h : PGs X es t) (hK : X.K = K := by rfl) (hn : (assignEach es X.env).length = n := by rfl) (hst : (assignEach es X.env).findIdx? (·.1) = none := by rfl) : PG X (.Tuple es k pos) (gTup K n t) := hK ▸ pg_tup hc h hn hst
theorem pg_lstU {pos : Pos} {k n : Nat} {t : TGs} (hc : X.calm = true) (h : PGs X es t) (hK : X.K = K := by rfl) (hn : (assignEach es X.env).length = n := by rfl) (hst : (assignEach es X.env).findIdx? (·.1) = none := by rfl) : PG X (.Tuple es k pos) (gLst K n t) := hK ▸ pg_lst hc h hn hst
theorem pe_appendU {apos cpos : Pos} (ho : PE X o to) (he : PE X e te) (hK : X.K = K := by rfl) (hbase : attributeBase o "append" X.env (eval o X.env) = eval o X.env := by rfl)
    (hfew : ((backTo cpos (starEach [e] X.env)).all (fun x => !x.1) && (backToKw cpos (keywordEach [] X.env)).all (fun x => x.1.isSome)
      && decide (([e] : List Expr).length + ([] : List Keyword).length + (if ([] : List Keyword).isEmpty then 0 else 1) < 30)) = true := by rfl)
    (hline : (apos.endLine == cpos.line) = true := by rfl) (hs : starEach [e] X.env = (false, eval e X.env) :: starEach [] X.env := by rfl) (hplain : (backTo cpos (starEach [] X.env)).any (·.1) = false := by rfl) :
    PE X (.Call (.Attribute o "append" apos) [e] [] cpos) (tBM K "list" rAppend to (tCons te tNil)) :=
  hK ▸ pe_bm PySem.F.plainAttrs_list PySem.F.slot_list_append PySem.F.type_list_append mt_append ho (pa_cons he pa_nil hs) hbase hfew hline hs hplain
theorem pe_extendU {apos cpos : Pos} (ho : PE X o to) (he : PE X e te) (hK : X.K = K := by rfl) (hbase : attributeBase o "extend" X.env (eval o X.env) = eval o X.env := by rfl)
    (hfew : ((backTo cpos (starEach [e] X.env)).all (fun x => !x.1) && (backToKw cpos (keywordEach [] X.env)).all (fun x => x.1.isSome)
      && decide (([e] : List Expr).length + ([] : List Keyword).length + (if ([] : List Keyword).isEmpty then 0 else 1) < 30)) = true := by rfl)
    (hline : (apos.endLine == cpos.line) = true := by rfl) (hs : starEach [e] X.env = (false, eval e X.env) :: starEach [] X.env := by rfl) (hplain : (backTo cpos (starEach [] X.env)).any (·.1) = false := by rfl) :
    PE X (.Call (.Attribute o "extend" apos) [e] [] cpos) (tBM K "list" rExtend to (tCons te tNil)) :=
  hK ▸ pe_bm PySem.F.plainAttrs_list PySem.F.slot_list_extend PySem.F.type_list_extend mt_extend ho (pa_cons he pa_nil hs) hbase hfew hline hs hplain
end

/-! ## what is kept of a heap -/
/-- all that was tracked is kept, but for the objects at ms -/
def Kp (ms : List Addr) (H H' : Hp) : Prop := ∀ a o, a ∉ ms → H a = some o → H' a = some o
section
variable {K : PySem.W.Frag} {H H1 H2 : Hp} {a b p : Addr} {o u : HO} {ms ns : List Addr} {xs : List V}
theorem Kp.refl : Kp ms H H := fun _ _ _ h => h
theorem Kp.trans (e : Kp ms H H1) (f : Kp ms H1 H2) : Kp ms H H2 := fun a o n h => f a o n (e a o n h)
theorem Kp.mono (e : Kp [] H H1) : Kp ms H H1 := fun a o _ h => e a o (by simp) h
theorem Kp.new (hp : H p = none) : Kp ms H (upd H p o) := fun a u _ h => by rw [upd_ne (ne_of_none h hp)]; exact h
theorem Kp.mut (hp : p ∈ ms) : Kp ms H (upd H p o) := fun a u n h => by rw [upd_ne (fun e : a = p => n (by rw [e]; exact hp))]; exact h
theorem Kp.at0 (e : Kp [] H H1) (h : H a = some o) : H1 a = some o := e a o (by simp) h
theorem Kp.at1 (e : Kp [b] H H1) (n : a ≠ b) (h : H a = some o) : H1 a = some o := e a o (by simpa using n) h
/-- an object that H did not know may change -/
theorem Kp.fresh_mut (e : Kp ms H H1) (hp : H p = none) : Kp ms H (upd H1 p o) := fun a u n h => by rw [upd_ne (ne_of_none h hp)]; exact e a u n h
theorem Kp.drop_fresh (e : Kp (p :: ms) H H1) (hp : H p = none) : Kp ms H H1 := fun a u n h => e a u (by simp only [List.mem_cons, not_or]; exact ⟨ne_of_none h hp, n⟩) h
theorem upd_new (hp : H p = none) (h : H a = some o) : upd H p u a = some o := by rw [upd_ne (ne_of_none h hp)]; exact h
theorem upd_other (n : a ≠ p) (h : H a = some o) : upd H p u a = some o := by rw [upd_ne n]; exact h
theorem upd_free (n : a ≠ p) (h : H a = none) : upd H p u a = none := by rw [upd_ne n]; exact h
theorem free0 (e : Kp [] H H1) (h : H1 a = none) : H a = none := by
  cases q : H a with
  | none => rfl
  | some o => rw [e.at0 q] at h; cases h
theorem free1 (e : Kp [b] H H1) (n : a ≠ b) (h : H1 a = none) : H a = none := by
  cases q : H a with
  | none => rfl
  | some o => rw [e.at1 n q] at h; cases h
theorem free_upd (h : upd H p u a = none) : H a = none := by
  by_cases e : a = p
  · subst e; rw [upd_same] at h; cases h
  · rw [upd_ne e] at h; exact h
theorem rd_at (e : ∀ o, H a = some o → H1 a = some o) (h : Rd H a u) : Rd H1 a u := by
  rcases h with h | ⟨o, h⟩
  · exact .inl (e _ h)
  · exact .inr ⟨o, e _ h⟩
theorem SqL.at (e : ∀ o, H a = some o → H1 a = some o) (h : SqL K H a xs) : SqL K H1 a xs := h.elim (fun h => .inl (rd_at e h)) .inr
theorem SqT.at (e : ∀ o, H a = some o → H1 a = some o) (h : SqT K H a xs) : SqT K H1 a xs := h.elim (fun h => .inl (rd_at e h)) .inr
theorem SqL.kp (e : Kp [] H H1) (h : SqL K H a xs) : SqL K H1 a xs := SqL.at (fun _ => e.at0) h
theorem SqT.kp (e : Kp [] H H1) (h : SqT K H a xs) : SqT K H1 a xs := SqT.at (fun _ => e.at0) h
theorem SqL.kp1 (e : Kp [b] H H1) (n : a ≠ b) (h : SqL K H a xs) : SqL K H1 a xs := SqL.at (fun _ => e.at1 n) h
theorem SqT.kp1 (e : Kp [b] H H1) (n : a ≠ b) (h : SqT K H a xs) : SqT K H1 a xs := SqT.at (fun _ => e.at1 n) h
theorem SqL.new (hp : H p = none) (h : SqL K H a xs) : SqL K (upd H p u) a xs := SqL.at (fun _ => upd_new hp) h
theorem SqT.new (hp : H p = none) (h : SqT K H a xs) : SqT K (upd H p u) a xs := SqT.at (fun _ => upd_new hp) h
theorem SqL.other (n : a ≠ p) (h : SqL K H a xs) : SqL K (upd H p u) a xs := SqL.at (fun _ => upd_other n) h
theorem SqT.other (n : a ≠ p) (h : SqT K H a xs) : SqT K (upd H p u) a xs := SqT.at (fun _ => upd_other n) h
theorem New.kp (N : New H p o H1) : Kp ms H H1 := by rw [N.eq]; exact Kp.new N.fr
theorem New.at_ (N : New H p o H1) : H1 p = some o := by rw [N.eq]; exact upd_same
theorem New.keep (N : New H p o H1) (h : H a = some u) : H1 a = some u := by rw [N.eq]; exact upd_new N.fr h
theorem New.free (N : New H p o H1) (h : H1 a = none) : H a = none := by rw [N.eq] at h; exact free_upd h
theorem New.ne (N : New H p o H1) (h : H a = some u) : p ≠ a := (ne_of_none h N.fr).symm
theorem New.sqL (N : New H p o H1) (h : SqL K H a xs) : SqL K H1 a xs := SqL.kp N.kp h
theorem New.sqT (N : New H p o H1) (h : SqT K H a xs) : SqT K H1 a xs := SqT.kp N.kp h
theorem ne_of2 (h : H a = some o) (h' : H b = none) : a ≠ b := ne_of_none h h'
end

/-! ## items -/
theorem atI_at {xs : List V} {i : Int} (h0 : 0 ≤ i) (h1 : i < xs.length) : atI xs i = some (xs.getD i.toNat .non) := by
  have e : i = ((i.toNat : Nat) : Int) := by omega
  have h : xs[i.toNat]? = some (xs.getD i.toNat .non) := by
    rw [List.getD_eq_getElem?_getD, List.getElem?_eq_getElem (by omega)]
    rfl
  exact e ▸ atI_nat h
theorem atI_ints {ns : List Int} {i : Int} (h0 : 0 ≤ i) (h1 : i < ns.length) : atI (ns.map V.int) i = some (.int (ns.getD i.toNat 0)) := by
  rw [atI_at h0 (by rw [List.length_map]; exact h1)]
  congr 1
  rw [List.getD_eq_getElem?_getD, List.getD_eq_getElem?_getD, List.getElem?_map, List.getElem?_eq_getElem (by omega)]
  rfl
theorem atI_strs {ns : List Str} {i : Int} (h0 : 0 ≤ i) (h1 : i < ns.length) : atI (ns.map V.str) i = some (.str (ns.getD i.toNat Str.empty)) := by
  rw [atI_at h0 (by rw [List.length_map]; exact h1)]
  congr 1
  rw [List.getD_eq_getElem?_getD, List.getD_eq_getElem?_getD, List.getElem?_map, List.getElem?_eq_getElem (by omega)]
  rfl
theorem atI_codes {z : Str} {i : Int} (h0 : 0 ≤ i) (h1 : i < z.length) : atI z.cps.toList i = some (z.cps.getD i.toNat 0) := by
  have e : i = ((i.toNat : Nat) : Int) := by omega
  have hl : i.toNat < z.cps.size := by have : z.length = z.cps.size := rfl; omega
  unfold atI
  have q : ixN z.cps.toList.length i = some i.toNat := by
    unfold ixN
    rw [if_pos h0, if_pos (by rw [Array.length_toList]; omega)]
  rw [q]
  show z.cps.toList[i.toNat]? = _
  rw [Array.getElem?_toList, Array.getElem?_eq_getElem hl, Array.getD, dif_pos hl]
  rfl

/-! ## the law's box: its digits at d, its place -/
structure Bx (H : Hp) (b d : Addr) : Prop where
  ex : ∃ (at_ : Int) (ds : List Int), H b = some (.lst [.ref d, .int at_]) ∧ H d = some (.lst (ds.map V.int)) ∧ 0 ≤ at_
section
variable {H H1 : Hp} {b d p : Addr} {o : HO}
theorem Bx.ne (h : Bx H b d) : d ≠ b := by
  obtain ⟨at_, ds, h1, h2, _⟩ := h.ex
  intro e
  subst e
  rw [h1] at h2
  cases ds with
  | nil => cases h2
  | cons n r => simp at h2
theorem Bx.kp0 (h : Bx H b d) (e : Kp [] H H1) : Bx H1 b d := by
  obtain ⟨at_, ds, h1, h2, h3⟩ := h.ex
  exact ⟨at_, ds, e.at0 h1, e.at0 h2, h3⟩
theorem Bx.new (h : Bx H b d) (hp : H p = none) : Bx (upd H p o) b d := h.kp0 (Kp.new hp)
theorem Bx.other (h : Bx H b d) (n1 : p ≠ b) (n2 : p ≠ d) : Bx (upd H p o) b d := by
  obtain ⟨at_, ds, h1, h2, h3⟩ := h.ex
  exact ⟨at_, ds, upd_other (Ne.symm n1) h1, upd_other (Ne.symm n2) h2, h3⟩
theorem Bx.nw (h : Bx H b d) (N : New H p o H1) : Bx H1 b d := by rw [N.eq]; exact h.new N.fr
theorem Bx.ne_new (h : Bx H b d) (hp : H p = none) : p ≠ b ∧ p ≠ d := by
  obtain ⟨at_, ds, h1, h2, h3⟩ := h.ex
  exact ⟨fun e => ne_of_none h1 hp e.symm, fun e => ne_of_none h2 hp e.symm⟩
end
end Sa

namespace Sa
open PySem L2

/-! ## loops -/
section
variable {K : PySem.W.Frag} {σ : St} {H : Hp} {D : Ends} {wi : TI} {g : TG} {tb : TS} {ta : TA} {tl te : TE} {tt : TT} {R : It → Hp → Prop} {a : Addr} {xs : List V} {lo hi : Int} {n : Nat} {Q : VK} {vs : List Nat} {z : Str}
def ForJ (J : It) (g : TG) (tb : TS) (D : Ends) (σ : St) (H1 : Hp) : Prop := ∃ W : Nat → Nat → St → Hp → Prop, (∃ m, W 0 m σ H1) ∧ ∀ i m σ H, W i m σ H →
  (J.stop i H ∧ D.nx σ H) ∨ (J.go i H ∧ ∃ N : St → Hp → Prop, (∀ σ' H', N σ' H' → ∃ m', m' < m ∧ W (i + 1) m' σ' H') ∧ ∀ x H', J.yld i H x H' → g x σ H' fun σ2 H2 => tb { D with nx := N, ct := N, bk := D.nx } σ2 H2)
def LcJ (J : It) (g : TG) (tt : TT) (te : TE) (vs : List Nat) (σ : St) (H1 : Hp) (Q : VK) : Prop := ∀ D, H1 D = none → ∃ W : Nat → Nat → Hp → Prop, (∃ m, W 0 m (upd H1 D (.lst []))) ∧ ∀ i m H, W i m H →
  (J.stop i H ∧ Q (.ref D) H) ∨ (J.go i H ∧ ∃ Nx : Hp → Prop, (∀ H', Nx H' → ∃ m', m' < m ∧ W (i + 1) m' H') ∧ ∀ x H', J.yld i H x H' → g x (wipe σ vs) H' fun σ2 H2 => wipe σ2 vs = wipe σ vs ∧ tt σ2 H2 fun b H3 =>
    if b = true then te σ2 H3 fun y H4 => ∃ acc, H4 D = some (.lst acc) ∧ acc.length < sizeLine ∧ Nx (upd H4 D (.lst (acc ++ [y]))) else Nx H3)
theorem c_for (h : wi σ H fun J H1 => ForJ J g tb D σ H1) : tFor wi g tb D σ H := h
theorem c_lc (h : wi σ H fun J H1 => LcJ J g tt te vs σ H1 Q) : tLc wi g tt te vs σ H Q := h
theorem c_rng1 (h : ta σ H fun vs H1 => ∃ j : Int, vs = [.int j] ∧ -(2 ^ 62) ≤ j ∧ j < 2 ^ 62 ∧ R (Itr 0 j.toNat) H1) : iRng1 ta σ H R := h
theorem c_rng2 (h : ta σ H fun vs H1 => ∃ i j : Int, vs = [.int i, .int j] ∧ (-(2 ^ 62) ≤ i ∧ i < 2 ^ 62 ∧ -(2 ^ 62) ≤ j ∧ j < 2 ^ 62) ∧ R (Itr i (j - i).toNat) H1) : iRng2 ta σ H R := h
theorem c_r1F (h1 : -4611686018427387904 ≤ hi ∧ hi < 4611686018427387904) (h : ForJ (Itr 0 hi.toNat) g tb D σ H) : ∃ j : Int, [V.int hi] = [.int j] ∧ -(2 ^ 62) ≤ j ∧ j < 2 ^ 62 ∧ ForJ (Itr 0 j.toNat) g tb D σ H := ⟨hi, rfl, by omega, by omega, h⟩
theorem c_r2F (h1 : -4611686018427387904 ≤ hi ∧ hi < 4611686018427387904 ∧ -4611686018427387904 ≤ lo ∧ lo < 4611686018427387904) (h : ForJ (Itr lo (hi - lo).toNat) g tb D σ H) : ∃ i j : Int, [V.int lo, V.int hi] = [.int i, .int j] ∧ (-(2 ^ 62) ≤ i ∧ i < 2 ^ 62 ∧ -(2 ^ 62) ≤ j ∧ j < 2 ^ 62) ∧ ForJ (Itr i (j - i).toNat) g tb D σ H :=
  ⟨lo, hi, rfl, by omega, h⟩
theorem c_itLF (h : SqL K H a xs) (q : ForJ (Itl K a) g tb D σ H) : ∃ b, V.ref a = .ref b ∧ (∃ xs, SqL K H b xs) ∧ ForJ (Itl K b) g tb D σ H := ⟨a, rfl, ⟨xs, h⟩, q⟩
theorem c_itTF (h : SqT K H a xs) (q : ForJ (Itt K a) g tb D σ H) : ∃ b, V.ref a = .ref b ∧ (∃ xs, SqT K H b xs) ∧ ForJ (Itt K b) g tb D σ H := ⟨a, rfl, ⟨xs, h⟩, q⟩
theorem c_itSF (q : ForJ (Its z) g tb D σ H) : ∃ x, V.str z = .str x ∧ ForJ (Its x) g tb D σ H := ⟨z, rfl, q⟩
theorem c_r1C (h1 : -4611686018427387904 ≤ hi ∧ hi < 4611686018427387904) (h : LcJ (Itr 0 hi.toNat) g tt te vs σ H Q) : ∃ j : Int, [V.int hi] = [.int j] ∧ -(2 ^ 62) ≤ j ∧ j < 2 ^ 62 ∧ LcJ (Itr 0 j.toNat) g tt te vs σ H Q := ⟨hi, rfl, by omega, by omega, h⟩
theorem c_r2C (h1 : -4611686018427387904 ≤ hi ∧ hi < 4611686018427387904 ∧ -4611686018427387904 ≤ lo ∧ lo < 4611686018427387904) (h : LcJ (Itr lo (hi - lo).toNat) g tt te vs σ H Q) : ∃ i j : Int, [V.int lo, V.int hi] = [.int i, .int j] ∧ (-(2 ^ 62) ≤ i ∧ i < 2 ^ 62 ∧ -(2 ^ 62) ≤ j ∧ j < 2 ^ 62) ∧ LcJ (Itr i (j - i).toNat) g tt te vs σ H Q :=
  ⟨lo, hi, rfl, by omega, h⟩
theorem c_itLC (h : SqL K H a xs) (q : LcJ (Itl K a) g tt te vs σ H Q) : ∃ b, V.ref a = .ref b ∧ (∃ xs, SqL K H b xs) ∧ LcJ (Itl K b) g tt te vs σ H Q := ⟨a, rfl, ⟨xs, h⟩, q⟩
theorem c_itTC (h : SqT K H a xs) (q : LcJ (Itt K a) g tt te vs σ H Q) : ∃ b, V.ref a = .ref b ∧ (∃ xs, SqT K H b xs) ∧ LcJ (Itt K b) g tt te vs σ H Q := ⟨a, rfl, ⟨xs, h⟩, q⟩
theorem c_itSC (q : LcJ (Its z) g tt te vs σ H Q) : ∃ x, V.str z = .str x ∧ LcJ (Its x) g tt te vs σ H Q := ⟨z, rfl, q⟩
theorem c_iList (h : tl σ H fun x H1 => ∃ a, x = .ref a ∧ (∃ xs, SqL K H1 a xs) ∧ R (Itl K a) H1) : iList K tl σ H R := h
theorem c_iTup (h : tl σ H fun x H1 => ∃ a, x = .ref a ∧ (∃ xs, SqT K H1 a xs) ∧ R (Itt K a) H1) : iTup K tl σ H R := h
theorem c_iStr (h : tl σ H fun v H1 => ∃ x, v = .str x ∧ R (Its x) H1) : iStr tl σ H R := h
/-- for .. in range: the word Pv by the turn -/
theorem forR (Pv : Nat → St → Hp → Prop) (h0 : Pv 0 σ H) (hs : ∀ i σ H, i < n → Pv i σ H → g (.int (lo + i)) σ H fun σ2 H2 => tb { D with nx := Pv (i + 1), ct := Pv (i + 1), bk := D.nx } σ2 H2) (hd : ∀ σ H, Pv n σ H → D.nx σ H) : ForJ (Itr lo n) g tb D σ H := for_range Pv h0 hs hd
theorem forL (xs : List V) (Pv : Nat → St → Hp → Prop) (h0 : Pv 0 σ H) (hl : ∀ i σ H, i ≤ xs.length → Pv i σ H → SqL K H a xs)
    (hs : ∀ i x σ H, xs[i]? = some x → Pv i σ H → g x σ H fun σ2 H2 => tb { D with nx := Pv (i + 1), ct := Pv (i + 1), bk := D.nx } σ2 H2) (hd : ∀ σ H, Pv xs.length σ H → D.nx σ H) : ForJ (Itl K a) g tb D σ H := for_list Pv h0 hl hs hd
theorem forT (xs : List V) (Pv : Nat → St → Hp → Prop) (h0 : Pv 0 σ H) (hl : ∀ i σ H, i ≤ xs.length → Pv i σ H → SqT K H a xs)
    (hs : ∀ i x σ H, xs[i]? = some x → Pv i σ H → g x σ H fun σ2 H2 => tb { D with nx := Pv (i + 1), ct := Pv (i + 1), bk := D.nx } σ2 H2) (hd : ∀ σ H, Pv xs.length σ H → D.nx σ H) : ForJ (Itt K a) g tb D σ H := for_tup Pv h0 hl hs hd
theorem forS (Pv : Nat → St → Hp → Prop) (h0 : Pv 0 σ H)
    (hs : ∀ (i : Nat) (c : Nat) σ H, z.cps.toList[i]? = some c → Pv i σ H → g (.str ⟨#[c]⟩) σ H fun σ2 H2 => tb { D with nx := Pv (i + 1), ct := Pv (i + 1), bk := D.nx } σ2 H2) (hd : ∀ σ H, Pv z.cps.toList.length σ H → D.nx σ H) : ForJ (Its z) g tb D σ H := by
  refine ⟨fun i m σ H => m = z.cps.size - i ∧ i ≤ z.cps.size ∧ Pv i σ H, ⟨_, rfl, Nat.zero_le _, h0⟩, ?_⟩
  rintro i m σ H ⟨rfl, hi, p⟩
  by_cases hlt : i < z.cps.size
  · refine .inr ⟨hlt, Pv (i + 1), fun σ' H' p' => ⟨_, by omega, rfl, hlt, p'⟩, fun x H' y => ?_⟩
    obtain ⟨e, c, hc, e2⟩ := y
    subst e e2
    exact hs i c σ _ (by rw [Array.getElem?_toList]; exact hc) p
  · have e : i = z.cps.toList.length := by rw [Array.length_toList]; omega
    subst e
    exact .inl ⟨by rw [Array.length_toList] at hlt; exact Nat.le_of_not_lt hlt, hd σ H p⟩

/-! comprehensions: the word Pv by the new list's place, the turn, what the list holds, the heap -/
def LcN (Pv : Addr → Nat → List V → Hp → Prop) (Dl : Addr) (i : Nat) (H : Hp) : Prop := ∃ acc, H Dl = some (.lst acc) ∧ acc.length ≤ i ∧ Pv Dl i acc H
abbrev LcT (g : TG) (tt : TT) (te : TE) (vs : List Nat) (σ : St) (Pv : Addr → Nat → List V → Hp → Prop) (Dl : Addr) (i : Nat) (x : V) (H' : Hp) : Prop :=
  g x (wipe σ vs) H' fun σ2 H2 => wipe σ2 vs = wipe σ vs ∧ tt σ2 H2 fun b H3 =>
    if b = true then te σ2 H3 fun y H4 => ∃ acc, H4 Dl = some (.lst acc) ∧ acc.length < sizeLine ∧ LcN Pv Dl (i + 1) (upd H4 Dl (.lst (acc ++ [y]))) else LcN Pv Dl (i + 1) H3
theorem lc_push {Pv : Addr → Nat → List V → Hp → Prop} {Dl : Addr} {i : Nat} {H4 : Hp} {acc : List V} {y : V} (h : H4 Dl = some (.lst acc)) (hl : acc.length ≤ i) (hi : i < 16777216) (p : Pv Dl (i + 1) (acc ++ [y]) (upd H4 Dl (.lst (acc ++ [y])))) :
    ∃ acc, H4 Dl = some (.lst acc) ∧ acc.length < sizeLine ∧ LcN Pv Dl (i + 1) (upd H4 Dl (.lst (acc ++ [y]))) :=
  ⟨acc, h, by rw [sizeLine_eq]; omega, acc ++ [y], upd_same, by rw [List.length_append, List.length_singleton]; omega, p⟩
theorem lc_skip {Pv : Addr → Nat → List V → Hp → Prop} {Dl : Addr} {i : Nat} {H3 : Hp} {acc : List V} (h : H3 Dl = some (.lst acc)) (hl : acc.length ≤ i) (p : Pv Dl (i + 1) acc H3) : LcN Pv Dl (i + 1) H3 := ⟨acc, h, by omega, p⟩
theorem lcR (Pv : Addr → Nat → List V → Hp → Prop) (h0 : ∀ Dl, H Dl = none → Pv Dl 0 [] (upd H Dl (.lst [])))
    (hs : ∀ Dl i acc H', H Dl = none → i < n → H' Dl = some (.lst acc) → acc.length ≤ i → Pv Dl i acc H' → LcT g tt te vs σ Pv Dl i (.int (lo + i)) H')
    (hd : ∀ Dl acc H', H Dl = none → H' Dl = some (.lst acc) → acc.length ≤ n → Pv Dl n acc H' → Q (.ref Dl) H') : LcJ (Itr lo n) g tt te vs σ H Q := fun Dl hD =>
  lc_range (LcN Pv Dl) ⟨[], upd_same, Nat.zero_le _, h0 Dl hD⟩ (fun i H' hi ⟨acc, h1, h2, h3⟩ => hs Dl i acc H' hD hi h1 h2 h3) fun H' ⟨acc, h1, h2, h3⟩ => hd Dl acc H' hD h1 h2 h3
theorem lcL (xs : List V) (Pv : Addr → Nat → List V → Hp → Prop) (h0 : ∀ Dl, H Dl = none → Pv Dl 0 [] (upd H Dl (.lst []))) (hl : ∀ Dl i acc H', H Dl = none → Pv Dl i acc H' → SqL K H' a xs)
    (hs : ∀ Dl i x acc H', H Dl = none → xs[i]? = some x → H' Dl = some (.lst acc) → acc.length ≤ i → Pv Dl i acc H' → LcT g tt te vs σ Pv Dl i x H')
    (hd : ∀ Dl acc H', H Dl = none → H' Dl = some (.lst acc) → acc.length ≤ xs.length → Pv Dl xs.length acc H' → Q (.ref Dl) H') : LcJ (Itl K a) g tt te vs σ H Q := fun Dl hD =>
  lc_list (xs := xs) (LcN Pv Dl) ⟨[], upd_same, Nat.zero_le _, h0 Dl hD⟩ (fun i H' _ ⟨acc, _, _, h3⟩ => hl Dl i acc H' hD h3) (fun i x H' hi ⟨acc, h1, h2, h3⟩ => hs Dl i x acc H' hD hi h1 h2 h3) fun H' ⟨acc, h1, h2, h3⟩ => hd Dl acc H' hD h1 h2 h3
theorem lcT (xs : List V) (Pv : Addr → Nat → List V → Hp → Prop) (h0 : ∀ Dl, H Dl = none → Pv Dl 0 [] (upd H Dl (.lst []))) (hl : ∀ Dl i acc H', H Dl = none → Pv Dl i acc H' → SqT K H' a xs)
    (hs : ∀ Dl i x acc H', H Dl = none → xs[i]? = some x → H' Dl = some (.lst acc) → acc.length ≤ i → Pv Dl i acc H' → LcT g tt te vs σ Pv Dl i x H')
    (hd : ∀ Dl acc H', H Dl = none → H' Dl = some (.lst acc) → acc.length ≤ xs.length → Pv Dl xs.length acc H' → Q (.ref Dl) H') : LcJ (Itt K a) g tt te vs σ H Q := fun Dl hD =>
  lc_tup (xs := xs) (LcN Pv Dl) ⟨[], upd_same, Nat.zero_le _, h0 Dl hD⟩ (fun i H' _ ⟨acc, _, _, h3⟩ => hl Dl i acc H' hD h3) (fun i x H' hi ⟨acc, h1, h2, h3⟩ => hs Dl i x acc H' hD hi h1 h2 h3) fun H' ⟨acc, h1, h2, h3⟩ => hd Dl acc H' hD h1 h2 h3
theorem c_unL {K : PySem.W.Frag} {ys : List V} {gs : TGs} {R : St → Hp → Prop} (h : SqL K H a ys) (hl : ys.length = n) (q : gs ys σ H R) : gLst K n gs (.ref a) σ H R := ⟨a, ys, rfl, h, hl, q⟩
theorem c_unT {K : PySem.W.Frag} {ys : List V} {gs : TGs} {R : St → Hp → Prop} (h : SqT K H a ys) (hl : ys.length = n) (q : gs ys σ H R) : gTup K n gs (.ref a) σ H R := ⟨a, ys, rfl, h, hl, q⟩
theorem c_gCons {v : V} {r : List V} {gs : TGs} {R : St → Hp → Prop} (q : g v σ H fun σ' H' => gs r σ' H' R) : gCons g gs (v :: r) σ H R := ⟨v, r, rfl, q⟩
theorem c_gNil {R : St → Hp → Prop} (q : R σ H) : gNil [] σ H R := ⟨rfl, q⟩
theorem c_cut {t u : TS} (Mid : St → Hp → Prop) (h1 : t { D with nx := Mid } σ H) (h2 : ∀ σ' H', Mid σ' H' → u D σ' H') : Evl.tCut t u D σ H := ⟨Mid, h1, h2⟩
theorem c_yes {R : Bool → Hp → Prop} (h : R true H) : tYes σ H R := h
end
end Sa

namespace Sa
open PySem L2

/-! ## texts by their codes -/
def txt (cs : List Nat) : Str := ⟨cs.toArray⟩
theorem txt_len (cs : List Nat) : (txt cs).length = cs.length := by show cs.toArray.size = _; simp
theorem txt_cps (cs : List Nat) : (txt cs).cps.toList = cs := by show cs.toArray.toList = _; simp
theorem txt_of (s : Str) : s = txt s.cps.toList := by cases s; simp [txt]
theorem txt_app (cs ds : List Nat) : txt cs ++ txt ds = txt (cs ++ ds) := by
  show Str.append _ _ = _
  simp [Str.append, txt]
theorem txt_inj {cs ds : List Nat} : txt cs = txt ds ↔ cs = ds := by
  constructor
  · intro h
    have e := congrArg (fun s : Str => s.cps.toList) h
    simpa [txt] using e
  · intro h; rw [h]
theorem txt_one (c : Nat) : (⟨#[c]⟩ : Str) = txt [c] := rfl
theorem cutS_txt (cs : List Nat) (lo hi : Option Int) : cutS (txt cs) lo hi = txt ((cs.drop (HT.sIx cs.length 0 lo)).take (HT.sIx cs.length cs.length hi - HT.sIx cs.length 0 lo)) := by
  unfold cutS
  rw [txt_len, txt_cps]
  rfl
theorem join_ones : ∀ cs : List Nat, Str.join (txt []) (cs.map fun c => txt [c]) = txt cs
  | [] => rfl
  | [c] => rfl
  | c :: d :: r => by
    have ih := join_ones (d :: r)
    show txt [c] ++ txt [] ++ Str.join (txt []) ((d :: r).map fun c => txt [c]) = txt (c :: d :: r)
    rw [ih, txt_app, txt_app]
    rfl
theorem tjoin (s : Str) (ys : List Str) : Txt.join s ys = Str.join s ys := StrLaws.glued_eq_join s ys
theorem tjoin_ones (cs : List Nat) : Txt.join (txt []) (cs.map fun c => txt [c]) = txt cs := by rw [tjoin, join_ones]
theorem sum_ones (cs : List Nat) : (((cs.map fun c => txt [c])).map (·.length)).sum = cs.length := by
  induction cs with
  | nil => rfl
  | cons c r ih =>
    simp only [List.map_cons, List.sum_cons, ih, List.length_cons, txt_len]
    simp
    omega
/-! ## slices -/
def cutL {α : Type} (xs : List α) (lo hi : Option Int) : List α := (xs.drop (HT.sIx xs.length 0 lo)).take (HT.sIx xs.length xs.length hi - HT.sIx xs.length 0 lo)
theorem cutV_eq (xs : List V) (lo hi : Option Int) : cutV xs lo hi = cutL xs lo hi := rfl
theorem cutL_map {α β : Type} (f : α → β) (xs : List α) (lo hi : Option Int) : cutL (xs.map f) lo hi = (cutL xs lo hi).map f := by
  unfold cutL
  rw [List.length_map, List.map_take, List.map_drop]
theorem cutV_ints (ns : List Int) (lo hi : Option Int) : cutV (ns.map V.int) lo hi = (cutL ns lo hi).map V.int := by rw [cutV_eq, cutL_map]
theorem sIx_of {n d : Nat} {i : Int} (h : 0 ≤ i) : HT.sIx n d (some i) = min i.toNat n := by
  obtain ⟨k, rfl⟩ := Int.eq_ofNat_of_zero_le h
  exact HT.sIx_nat n d k
theorem cutL_lt {α : Type} {xs : List α} {i j : Int} (h0 : 0 ≤ i) (h1 : i ≤ j) (h2 : j ≤ xs.length) : cutL xs (some i) (some j) = (xs.drop i.toNat).take (j.toNat - i.toNat) := by
  unfold cutL
  rw [sIx_of h0, sIx_of (by omega), Nat.min_eq_left (by omega), Nat.min_eq_left (by omega)]
theorem cutL_to {α : Type} {xs : List α} {j : Int} (h1 : 0 ≤ j) (h2 : j ≤ xs.length) : cutL xs none (some j) = xs.take j.toNat := by
  unfold cutL
  rw [sIx_of h1, Nat.min_eq_left (by omega)]
  simp [HT.sIx]
theorem cutL_from {α : Type} {xs : List α} {i : Int} (h0 : 0 ≤ i) (h1 : i ≤ xs.length) : cutL xs (some i) none = xs.drop i.toNat := by
  unfold cutL
  rw [sIx_of h0, Nat.min_eq_left (by omega)]
  show (xs.drop i.toNat).take (xs.length - i.toNat) = _
  rw [List.take_of_length_le (by rw [List.length_drop]; omega)]
/-! ## lists of whole numbers compared -/
section
variable {K : PySem.W.Frag} {H : Hp} {Q : VK} {a b : Addr} {ns ms : List Int}
theorem dpAll_ints : ∀ ns : List Int, DpAll K H (ns.map V.int) (ns.map PyData.int)
  | [] => .nil
  | n :: r => .cons (.int n) (dpAll_ints r)
theorem dp_ints (h : SqL K H a (ns.map V.int)) : Dp K H (.ref a) (.list (ns.map PyData.int)) := .lst h (dpAll_ints ns)
theorem eqvAll_ints : ∀ ns ms : List Int, PyData.eqvAll (ns.map PyData.int) (ms.map PyData.int) = decide (ns = ms)
  | [], [] => by simp [PyData.eqvAll]
  | [], _ :: _ => by simp [PyData.eqvAll]
  | _ :: _, [] => by simp [PyData.eqvAll]
  | a :: r, b :: t => by
    simp only [List.map_cons, PyData.eqvAll, PyData.eqv, eqvAll_ints r t]
    by_cases h : a = b <;> by_cases h' : r = t <;> simp [h, h']
theorem c_eqLI (ha : SqL K H a (ns.map V.int)) (hb : SqL K H b (ms.map V.int)) (q : Q (.bl (decide (ns = ms))) H) : rEqU K (.ref a) (.ref b) H Q :=
  c_eqD (dp_ints ha) (dp_ints hb) (PySem.W.ke_shaped_ints ns) (PySem.W.ke_shaped_ints ms) (by rw [PyData.eqv, eqvAll_ints]; exact q)
theorem c_neLI (ha : SqL K H a (ns.map V.int)) (hb : SqL K H b (ms.map V.int)) (q : Q (.bl (!decide (ns = ms))) H) : rNeU K (.ref a) (.ref b) H Q :=
  c_neD (dp_ints ha) (dp_ints hb) (PySem.W.ke_shaped_ints ns) (PySem.W.ke_shaped_ints ms) (by rw [PyData.eqv, eqvAll_ints]; exact q)
end
theorem map_snocI (ds : List Int) (z : Int) : ds.map V.int ++ [V.int z] = (ds ++ [z]).map V.int := by rw [List.map_append]; rfl
theorem take_succ' {α : Type} {xs : List α} {i : Nat} {x : α} (h : xs[i]? = some x) : xs.take (i + 1) = xs.take i ++ [x] := by
  rw [List.take_succ, h]; rfl
end Sa

/-! Defs whose promise is kept where no repr is under way around them (the law's defs that call repr). -/
namespace Sa
open PySem PySem.Spec PyProof.Rows L2
structure FnG (P : Program) (w : World) (K : PySem.W.Frag) (mg : Str → Option Value) (base : Heap) (CX : CXT) (k : Nat) (f : Addr) (fd : FuncData) (ps : List Str) (sp : Sp) : Prop where
  len : ∀ vs H Q E, sp vs H Q E → vs.length = ps.length
  go : ∀ (A : Around) (fs : List Env) (s : Shared) (H : Hp) (args : Args) (us : List Value) (vs : List V) (Q : VK) (E : XK),
    A.guards = some [] ∧ Room k A ∧ Env0 P w K mg base A fs s H ∧ BindsTo s fd args (ps.zip us) ∧ Vals vs us ∧ sp vs H Q E → codeAny (model P w) A (.call (.ref f) args) (CR CX fs P w H s Q E) s
theorem FnG.mono {P : Program} {w : World} {K : PySem.W.Frag} {mg : Str → Option Value} {base : Heap} {CX : CXT} {j k : Nat} {f : Addr} {fd : FuncData} {ps : List Str} {sp : Sp} (F : FnG P w K mg base CX j f fd ps sp) (h : j ≤ k) : FnG P w K mg base CX k f fd ps sp :=
  ⟨F.len, fun A fs s H args us vs Q E z => F.go A fs s H args us vs Q E ⟨z.1, z.2.1.mono h, z.2.2⟩⟩
section
variable {P : Program} {w : World} {K : PySem.W.Frag} {mg : Str → Option Value} {base : Heap} {CX : CXT} {k : Nat} {f : Addr} {x : Str} {st : Stmt} {N ps : List Str} {sp : Sp}
/-- what such a body owes -/
def BodyG (P : Program) (w : World) (K : PySem.W.Frag) (mg : Str → Option Value) (base : Heap) (x : Str) (st : Stmt) (N : List Str) (k : Nat) (sp : Sp) : Prop :=
  ∀ (cdv : Value) (A : Around) (fs : List Env) (s : Shared) (H : Hp) (vs : List V) (Q : VK) (E : XK), sp vs H Q E → let X : Cx := (cxOf CX0 P w K mg base N x (defScope st) (He.ga K x) cdv A fs s H E).nox
    Room k X.A → X.A.guards = some [] → ∃ t, PSs X (defBody st) t ∧ t { nx := fun _ H' => Q .non H', rt := Q } (start N vs) H
theorem fnG_of {fd : FuncData} (F : FunD K x x (defArgs st) (defBody st) (defScope st) [] [] (He.ga K x) fd) (S : FnScope N ps (defScope st)) (len : ∀ vs H Q E, sp vs H Q E → vs.length = ps.length) (body : BodyG P w K mg base x st N k sp) :
    FnG P w K mg base CX0 (k + 1) (He.ga K x) fd ps sp := by
  obtain ⟨oc, od, dV, kV, doc, pm, an, cdv, ct, osl, rfl, lk, hcd, _, _⟩ := F.ex
  refine ⟨len, ?_⟩
  rintro A fs s H args us vs Q E ⟨hg, hr, e0, hb, rv, hsp⟩
  have hlen := len _ _ _ _ hsp
  have inK : K.In s.heap := e0.mod.kin.keeps (fun b o e => (e0.bs b o e).1)
  have noL : s.heap.NoLimit := e0.mod.nolimit.keeps (fun b o e => (e0.bs b o e).1)
  have loc : ∀ y ∈ ps.zip us, (defScope st).names.lookup y.1 = some .local ∨ ((defScope st).names.lookup y.1 = some .cell ∧ ((cellsFrom (s.heap.objs.size + 1) (defScope st).names []).lookup y.1).isSome = true) := by
    rintro ⟨n, v⟩ hy
    exact (S.par n (List.of_mem_zip hy).1).imp id (fun q => ⟨q, PySem.W.cellsFrom_some _ _ _ (.inl q)⟩)
  refine codeAny_call_function hr.depth (inK _ _ lk) rfl S.co S.gen rfl (PySem.W.codeRec_of inK hcd) (hb _ _ _ _ (wpAny_newFunctionEnv_cells S.kind loc (fun env he s1 ic => ?_)))
  cases he
  refine ⟨noL.keeps ic.toInCall.keep, codeAny_func ?_⟩
  obtain ⟨t, ht, hq⟩ := body cdv A fs s H vs Q E hsp (hr.deeper _) hg
  have I := inv_start (CX := CX0) (P := P) (w := w) (K := K) (mg := mg) (base := base) (E := E) S hr.hd e0 hlen rv ic
  refine wpAny_mono (ht.nox.run [] s1 (start N vs) H _ I hq) (fun fl s' hs => ?_) (fun e s' hs => hs)
  have fin : ∀ {σ' H' v u}, Inv (cxOf CX0 P w K mg base N x (defScope st) (He.ga K x) cdv A fs s H E) [] σ' H' s' → RelV v u → Q v H' → CE fs P w H s Q u s' := by
    intro σ' H' v u J rv q
    exact ⟨v, H', J.os, J.bare, J.base, J.hok, rv, q⟩
  cases fl with
  | ret u => obtain ⟨v, σ', H', J, rv, q⟩ := hs; exact fin J rv q
  | next => obtain ⟨σ', H', J, q⟩ := hs; exact fin (v := V.non) (u := Value.none) J rfl q
  | brk => obtain ⟨_, _, _, q⟩ := hs; exact q.elim
  | cont => obtain ⟨_, _, _, q⟩ := hs; exact q.elim
end
/-- a def under the module's name x that keeps sp where no repr is under way -/
structure DefG (P : Program) (w : World) (K : PySem.W.Frag) (mg : Str → Option Value) (base : Heap) (x : Str) (k : Nat) (ps : List Str) (sp : Sp) : Prop where
  gl : mg x = some (.ref (He.ga K x))
  kp : PySem.W.keepIn K (.ref (He.ga K x)) = true
  ok : ∃ fd, FnG P w K mg base CX0 k (He.ga K x) fd ps sp ∧ Binds K fd ps []
theorem defG_of {fa : List He.Fa} {fn : List He.DefD} {P : Program} {w : World} {K : PySem.W.Frag} {mg : Str → Option Value} {base : Heap} (T : Tx fa fn K mg) (i j : Nat) {x : Str} {st : Stmt} {N ps : List Str} {k : Nat} {sp : Sp} (S : FnScope N ps (defScope st)) (B : BindN x st ps)
    (len : ∀ vs H Q E, sp vs H Q E → vs.length = ps.length) (body : BodyG P w K mg base x st N k sp) (hd : fn[i]? = some (dOf x st) := by rfl) (hg : fa[j]? = some (.glo x) := by rfl) : DefG P w K mg base x (k + 1) ps sp := by
  have gl := T.glo j hg
  obtain ⟨hp, X, G, c⟩ := T
  obtain ⟨fd, F⟩ := c.def_ i hd
  exact ⟨gl, F.kp, fd, fnG_of F S len body, F.bindsN B⟩
section
variable {X : Cx} {x : Str} {k j : Nat} {ps : List Str} {sp : Sp} {p pos : Pos} {e : Expr} {es : List Expr} {t : TA}
theorem pe_callG (D : DefG X.prog X.w X.K X.mg X.base x j ps sp) (hr : Room k X.A) (hgd : X.A.guards = some []) (ha : PA X (e :: es) t) (hjk : j ≤ k := by decide) (hg : Gl X x := by rfl)
    (hdb : (x == ("__debug__" : Str)) = false := by decide) (he : starEach (e :: es) X.env = (false, eval e X.env) :: starEach es X.env := by rfl) (hpl : (backTo pos (starEach es X.env)).any (·.1) = false := by rfl) :
    PE X (.Call (.Name x p) (e :: es) [] pos) (tCallA sp E0 t) := by
  obtain ⟨fd, F0, B⟩ := D.ok
  have F := F0.mono hjk
  refine ⟨fun pins s σ H Q I h => ?_⟩
  refine wpAny_Call_Name_kw (ld_glob I hg D.gl ?_ hdb)
  refine PySem.W.callWith_K (h₀ := X.base) I.ok.mod.kin D.kp (thn (ha.run pos pins s σ H _ I h) (fun us s1 z => ?_)) he hpl
  obtain ⟨vs, H1, I1, r, q⟩ := z
  refine ⟨I1.kIn, ?_⟩
  have n : (us ++ []).length = ps.length := by rw [List.append_nil, ← r.length]; exact F.len _ _ _ _ q
  have b := B s1 us I1.kIn n
  rw [List.append_nil] at b
  refine wpAny_call (codeAny_mono (F.go X.A X.stack s1 H1 ⟨us, []⟩ us vs Q E0 ⟨hgd, hr, I1.env0, b, r, q⟩) (fun r s' hq => ?_))
  cases r with
  | error e => exact False.elim hq
  | ok fl =>
    cases fl with
    | ret u => exact I1.after hq
    | next => exact False.elim hq
    | brk => exact False.elim hq
    | cont => exact False.elim hq
end
/-! ## repr of data -/
structure Nice (d : PyData) : Prop where
  lay : PyData.layable0 d = true
  shrt : PyData.intsShort 13 d = true
  show_ : PyData.showable d = true
theorem Nice.size {d : PyData} (h : Nice d) : d.shown.length ≤ sizeLine := by
  have z := shown_le13 h.lay h.shrt
  rw [sizeLine_eq]
  omega
theorem Nice.depth {d : PyData} (h : Nice d) : d.depth ≤ 64 := by
  have z := h.lay
  unfold PyData.layable0 at z
  simp only [Bool.and_eq_true, decide_eq_true_eq] at z
  exact z.1.2
def rReprD (K : PySem.W.Frag) : List V → Hp → VK → Prop := fun vs H Q => ∃ (x : V) (d : PyData), vs = [x] ∧ Dp K H x d ∧ Nice d ∧ Q (.str d.shown) H
theorem cr_reprD {X : Cx} {K : PySem.W.Frag} {A : Around} (hg : A.guards = some []) (hu : A.units + 100 < cLine) (hA : X.A = A := by rfl) (hK : X.K = K := by rfl) : CallR X (.builtin "repr") (rReprD K) := by
  subst hA hK
  intro pins s σ H vs us Q I r h
  obtain ⟨x, d, rfl, hd, nd, q⟩ := h
  obtain ⟨u, rfl, ru⟩ := vals1 r
  have hdp := nd.depth
  cases hd with
  | non => cases ru; exact PySem.P.repr_of_none ⟨.str _, H, I.tok _, ⟨_, rfl⟩, q⟩
  | bl b => cases ru; exact PySem.P.repr_of_bool ⟨.str _, H, I.tok _, ⟨_, rfl⟩, q⟩
  | int i => obtain ⟨t, rfl⟩ := ru; exact PySem.P.repr_of_int (of_decide_eq_true nd.show_) ⟨.str _, H, I.tok _, ⟨_, rfl⟩, q⟩
  | str z => obtain ⟨t, rfl⟩ := ru; exact PySem.P.repr_of_str ⟨.str _, H, I.tok _, ⟨_, rfl⟩, q⟩ nd.size
  | lst h1 h2 =>
    cases ru
    obtain ⟨as, hr⟩ := Dp.reads I _ _ _ (Dp.lst h1 h2) rfl
    exact repr_of_reads' hr nd.show_ (PyData.noDict_hsm (PyData.hasDict_of_layable nd.lay)) hg (by omega) (fun _ _ e => e) (fun h' u tk hk => ⟨.str _, H, I.kept hk, ⟨_, rfl⟩, q⟩) nd.size
  | tup h1 h2 =>
    cases ru
    obtain ⟨as, hr⟩ := Dp.reads I _ _ _ (Dp.tup h1 h2) rfl
    exact repr_of_reads' hr nd.show_ (PyData.noDict_hsm (PyData.hasDict_of_layable nd.lay)) hg (by omega) (fun _ _ e => e) (fun h' u tk hk => ⟨.str _, H, I.kept hk, ⟨_, rfl⟩, q⟩) nd.size
theorem c_repr {K : PySem.W.Frag} {H : Hp} {Q : VK} {x : V} {d : PyData} (h : Dp K H x d) (n : Nice d) (q : Q (.str d.shown) H) : rReprD K [x] H Q := ⟨x, d, rfl, h, n, q⟩

/-! ## the end of a law whose def is such -/
theorem run_end {P : Program} {w : World} {K : PySem.W.Frag} {mg mb : Str → Option Value} {k : Nat} {f a : Addr} {fd : FuncData} {x : Str} {sp : Sp} {s : Shared} {H : Hp}
    (KX : K.In s.heap) (hns : s.heap.Ns mainGlobals mg) (hb : s.heap.Ns builtinsNs mb) (hbb : ∀ x : Str, x ≠ "__name__" → mb x = bootBuiltins x) (hlim : s.heap.NoLimit) (hg : s.gens = #[]) (hr : Room k callerA)
    (F : ∀ base : Heap, K.In base → base.Ns mainGlobals mg → FnG P w K mg base CX0 k f fd [x] sp) (bind : BindsTo s fd ⟨[.ref a], []⟩ [(x, .ref a)]) (hsp : sp [.ref a] H (fun v _ => v = .bl true) fun _ _ _ => False)
    (only : Only H) (hok : HOk P w H s.heap) (one : ∀ b, H b ≠ none → b = a ∧ K.lookup a = none ∧ ∀ o, s.heap.get? a = some o → ∀ es ep, o.data ≠ .dict es ep) :
    codeAny (model P w) callerA (.call (.ref f) ⟨[.ref a], []⟩) (fun r s' => r = .ok (.ret (.bool true)) ∧ OldK s.heap s'.heap ∧ s'.os = s.os ∧ AllBare s'.gens) s := by
  have free : ∀ {b o es ep}, s.heap.get? b = some o → o.data = .dict es ep → H b = none := by
    intro b o es ep e d
    cases z : H b with
    | none => rfl
    | some u =>
      obtain ⟨e1, _, e3⟩ := one b (by rw [z]; intro q; cases q)
      subst e1
      exact absurd d (e3 o e es ep)
  have ns : ∀ {b m}, s.heap.Ns b m → (hidT s.heap H).Ns b m := by
    rintro b m ⟨o, es, ep, e, d, r⟩
    exact ⟨o, es, ep, hidT_get e (free e d), d, r⟩
  have KB : K.In (hidT s.heap H) := by
    intro b o e
    refine hidT_get (KX b o e) ?_
    cases z : H b with
    | none => rfl
    | some u =>
      obtain ⟨e1, e2, _⟩ := one b (by rw [z]; intro q; cases q)
      subst e1
      rw [e2] at e
      cases e
  have M : Mod K mg (hidT s.heap H) := ⟨KB, ns hns, ⟨mb, ns hb, hbb⟩, by obtain ⟨mc, h1, h2⟩ := hlim; exact ⟨mc, ns h1, h2⟩⟩
  have e0 : Env0 P w K mg (hidT s.heap H) callerA [] s H := ⟨rfl, M, fun b o e => of_hidT e, Nat.le_of_eq (hidT_size _ _), trivial, fun b hb => absurd hb (by simp [frs]), hok, .of_eq hg⟩
  refine codeAny_mono ((F _ KB (ns hns)).go callerA [] s H ⟨[.ref a], []⟩ [.ref a] [.ref a] _ _ ⟨rfl, hr, e0, bind, .cons rfl .nil, hsp⟩) (fun r s' z => ?_)
  cases r with
  | error e => exact False.elim z
  | ok fl =>
    cases fl with
    | next => exact False.elim z
    | brk => exact False.elim z
    | cont => exact False.elim z
    | ret u =>
      obtain ⟨v, H', os, bare, un, hok', rv, q⟩ := z
      cases (show v = .bl true from q)
      cases rv
      refine ⟨rfl, OldK.of_keep (fun b o e => ?_), os, bare⟩
      rcases only b with z | ⟨ob, xs, z⟩
      · exact un.keep b o e z (by simp [frs]) (by simp)
      · have e1 := (hok b _ z).1
        have e2 := (hok' b _ (un.frzs b ob _ z)).1
        rw [e] at e1
        cases e1
        exact e2
theorem law_end {l : PySem.W.OpenLaw} {n k : Nat} {q : Program} {loose : List Str} {XP : (Str → Option Value) → Heap → Prop} {YP : World → Heap → Prop} {d : DefRec} {x : Str}
    (hn : l.most = some n) (hn2 : n ≤ sizeLine) (hdf : d.params.defaults = []) (hr : Room k callerA)
    (F : ∀ (w : World) (mg : Str → Option Value) (fa : Addr) (h : Heap), YP w h → h.Ns mainGlobals mg → mg d.name = some (.ref fa) →
      ∃ (K : PySem.W.Frag) (fd : FuncData) (sp : Sp), K.In h ∧ (∀ (s : Shared) (u : Value), BindsTo s fd ⟨[u], []⟩ [(x, u)]) ∧
        (∀ (H : Hp) (a : Addr) (ns : List Int), SqL K H a (ns.map V.int) → sp [.ref a] H (fun v _ => v = .bl true) fun _ _ _ => False) ∧
        ∀ base : Heap, K.In base → base.Ns mainGlobals mg → FnG l.prog w K mg base CX0 k fa fd [x] sp) :
    PySem.W.WalkO q loose XP YP l.row.toRowW d [] (fun f vs => PySem.call f vs) := by
  refine Att.attach_call hn hdf (fun w s0 s mg mb fa o pm cd doc a vs ns G Y ho hd hcd hmg hobj hints hlen hg => ?_)
  obtain ⟨K, fd, sp, KX, bind, hsp, hF⟩ := F w mg fa _ Y G.T.g hmg
  have rv := vals_ints hints
  have len := hints.length
  have hz : ns.length ≤ sizeLine := Nat.le_trans hlen hn2
  cases hk : K.lookup a with
  | some ob =>
    have e := KX a ob hk
    rw [hobj] at e
    cases e
    exact run_end (H := fun _ => none) KX G.T.g G.T.b G.T.builtins G.T.nolimit hg hr hF (bind s _) (hsp _ a ns (.inr ⟨_, vs.toArray, _, hk, rfl, rfl, rfl, by rw [List.size_toArray, len]; exact hz, by simpa using rv⟩)) (fun _ => .inl rfl) (fun b u z => by cases z) (fun b z => absurd rfl z)
  | none =>
    have at_ : (fun b => if b = a then some (HO.frz { cls := .type "list", data := .seq vs.toArray } (.lst (ns.map V.int))) else none : Hp) a = some (HO.frz { cls := .type "list", data := .seq vs.toArray } (.lst (ns.map V.int))) := if_pos rfl
    refine run_end (H := fun b => if b = a then some (HO.frz { cls := .type "list", data := .seq vs.toArray } (.lst (ns.map V.int))) else none) KX G.T.g G.T.b G.T.builtins G.T.nolimit hg hr hF (bind s _) (hsp _ a ns (.inl (.inr ⟨_, at_⟩))) (fun b => ?_) (fun b u z => ?_) (fun b z => ?_)
    · by_cases h : b = a
      · exact .inr ⟨_, _, if_pos h⟩
      · exact .inl (if_neg h)
    · by_cases h : b = a
      · cases h
        cases (if_pos rfl).symm.trans z
        exact ⟨hobj, by rw [List.length_map]; exact hz, vs, _, rv, hobj⟩
      · cases (if_neg h).symm.trans z
    · by_cases h : b = a
      · refine ⟨h, hk, fun o2 e es ep dd => ?_⟩
        rw [hobj] at e
        cases e
        cases dd
      · exact absurd (if_neg h) z
/-- the law's own def, for this end -/
theorem lawG_of {fa : List He.Fa} {fn : List He.DefD} {P : Program} {w : World} {K : PySem.W.Frag} {mg : Str → Option Value} {h : Heap} {f : Addr} {N : List Str} {x : Str} {st : Stmt} {k : Nat} {sp : Sp} (KX : K.In h) (G : h.Ns mainGlobals mg) (c : He.SaysD fa fn K)
    (hf : mg "law" = some (.ref f)) (i j : Nat) (S : FnScope N [x] (defScope st)) (B : BindN "law" st [x]) (len : ∀ vs H Q E, sp vs H Q E → vs.length = 1) (body : ∀ base, BodyG P w K mg base "law" st N k sp)
    (hd : fn[i]? = some (dOf "law" st) := by rfl) (hg : fa[j]? = some (.glo "law") := by rfl) :
    ∃ fd : FuncData, (∀ (s : Shared) (v : Value), BindsTo s fd ⟨[v], []⟩ [(x, v)]) ∧ ∀ base : Heap, K.In base → base.Ns mainGlobals mg → FnG P w K mg base CX0 (k + 1) f fd [x] sp := by
  obtain ⟨fd, F⟩ := c.def_ i hd
  have gl := He.glo_ok KX G (c.fact j hg)
  cases hf.symm.trans gl
  have b := F.bindsA (ps := [x]) B
  exact ⟨fd, fun s v => b s [v] rfl, fun base _ _ => fnG_of F S len (body base)⟩
end Sa

/-! Texts: split, startswith, the tie. -/
namespace Sa
open PySem L2
section
variable {X : Cx} {K : PySem.W.Frag} {σ : St} {H : Hp} {Q : VK} {a : Addr} {s z : Str} {to te : TE} {o e : Expr}
/-- a text parted by another one -/
def rSplitU : V → List V → Hp → VK → Prop := fun x xs H Q => ∃ a b, x = .str a ∧ xs = [.str b] ∧ (b.length == 0) = false ∧ a.length + 2 ≤ sizeLine ∧ ∀ p, H p = none → Q (.ref p) (upd H p (.lst ((Txt.split a b).map V.str)))
theorem pe_splitU {apos pos : Pos} (ho : PE X o to) (he : PE X e te) (hs : starEach [e] X.env = [(false, eval e X.env)] := by rfl) (hbase : attributeBase o "split" X.env (eval o X.env) = eval o X.env := by rfl) (hline : (apos.endLine == pos.line) = true := by rfl) :
    PE X (.Call (.Attribute o "split" apos) [e] [] pos) (tM1 rSplitU to te) := pe_split ho he hs hbase hline
theorem c_split (h0 : (z.length == 0) = false) (hl : s.length + 2 ≤ sizeLine) (q : ∀ p H', New H p (.lst ((Txt.split s z).map V.str)) H' → Q (.ref p) H') : rSplitU (.str s) [.str z] H Q :=
  ⟨s, z, rfl, rfl, h0, hl, fun p hp => q p _ ⟨hp, rfl⟩⟩
def rStartsU : V → List V → Hp → VK → Prop := fun x xs H Q => ∃ a b, x = .str a ∧ xs = [.str b] ∧ Q (.bl (Txt.startswith a b)) H
theorem mt_startsU : MtR X "str.startswith" rStartsU := mt_startswith
theorem c_starts (q : Q (.bl (Txt.startswith s z)) H) : rStartsU (.str s) [.str z] H Q := ⟨s, z, rfl, rfl, q⟩
end
/-! ## the parts of a text -/
theorem join_len (y : Str) : ∀ ys : List Str, (ys.map (·.length)).sum + (ys.length - 1) * y.length = (Str.join y ys).length
  | [] => by show 0 + 0 * y.length = 0; omega
  | [x] => by show x.length + 0 + 0 * y.length = x.length; omega
  | x :: z :: r => by
    have ih := join_len y (z :: r)
    show _ = (x ++ y ++ Str.join y (z :: r)).length
    have l2 : ∀ a b : Str, (a ++ b).length = a.length + b.length := fun a b => by show (a.cps ++ b.cps).size = _; rw [Array.size_append]; rfl
    rw [l2, l2, ← ih]
    simp only [List.map_cons, List.sum_cons, List.length_cons, Nat.add_sub_cancel, Nat.add_mul, Nat.one_mul]
    omega
theorem split_len (x y : Str) : ((Txt.split x y).map (·.length)).sum + ((Txt.split x y).length - 1) * y.length = x.length := by
  rw [join_len, StrLaws.join_split]
theorem sum_mem {n : Nat} : ∀ {ns : List Nat}, n ∈ ns → n ≤ ns.sum
  | m :: r, h => by
    rw [List.sum_cons]
    rcases List.mem_cons.mp h with e | h
    · omega
    · have := sum_mem h
      omega
theorem split_part {x y z : Str} (h : z ∈ Txt.split x y) : z.length ≤ x.length := by
  have e := split_len x y
  have := sum_mem (List.mem_map_of_mem (f := fun s : Str => s.length) h)
  omega
theorem split_many {x : Str} (y : Str) (hy : 0 < y.length) : (Txt.split x y).length ≤ x.length + 1 := by
  have e := split_len x y
  have : (Txt.split x y).length - 1 ≤ ((Txt.split x y).length - 1) * y.length := Nat.le_mul_of_pos_right _ hy
  omega
theorem join_take (y : Str) (n : Nat) (ys : List Str) : (Str.join y (ys.take n)).length ≤ (Str.join y ys).length := by
  rw [← join_len, ← join_len]
  have h1 : ((ys.take n).map (·.length)).sum ≤ (ys.map (·.length)).sum := by
    conv => rhs; rw [← List.take_append_drop n ys, List.map_append, List.sum_append]
    omega
  have h2 : ((ys.take n).length - 1) * y.length ≤ (ys.length - 1) * y.length := Nat.mul_le_mul_right _ (by rw [List.length_take]; omega)
  omega
/-- text[:len(y)] is y just where text begins with it -/
theorem cut_starts (x y : Str) : decide (cutS x none (some (y.length : Int)) = y) = Txt.startswith x y := by
  rw [txt_of x, txt_of y, cutS_txt, txt_len]
  generalize x.cps.toList = xs
  generalize y.cps.toList = ys
  rw [sIx_of (by omega), Int.toNat_natCast]
  show decide (txt ((xs.drop (HT.sIx xs.length 0 none)).take (min ys.length xs.length - HT.sIx xs.length 0 none)) = txt ys) = _
  have e0 : HT.sIx xs.length 0 none = 0 := rfl
  rw [e0, List.drop_zero, Nat.sub_zero]
  unfold Txt.startswith
  rw [StrLaws.subAt_eq, txt_cps, txt_cps, txt_len, txt_len, List.drop_zero, Nat.zero_add]
  have e1 : xs.take (min ys.length xs.length) = xs.take ys.length := by
    by_cases h : ys.length ≤ xs.length
    · rw [Nat.min_eq_left h]
    · rw [Nat.min_eq_right (by omega), List.take_of_length_le (Nat.le_refl _), List.take_of_length_le (by omega)]
  rw [e1]
  by_cases h : xs.take ys.length = ys
  · have hl : ys.length ≤ xs.length := by have := congrArg List.length h; rw [List.length_take] at this; omega
    rw [h]
    simp [hl]
  · have hn : txt (xs.take ys.length) ≠ txt ys := fun e => h (txt_inj.mp e)
    simp [h, hn]
theorem str_app_len (a b : Str) : (a ++ b).length = a.length + b.length := by show (a.cps ++ b.cps).size = _; rw [Array.size_append]; rfl
theorem un100 {k : Nat} {A : Around} (r : Room k A) : A.units + 100 < cLine := by have := r.un; omega
/-! ## comprehensions whose parts only make things -/
section
variable {K : PySem.W.Frag} {σ : St} {H : Hp} {g : TG} {tt : TT} {te : TE} {a b d : Addr} {z : Str} {lo : Int} {n : Nat} {Q : VK} {vs : List Nat} {xs : List V}
theorem lcS (Pv : Addr → Nat → List V → Hp → Prop) (h0 : ∀ Dl, H Dl = none → Pv Dl 0 [] (upd H Dl (.lst [])))
    (hs : ∀ Dl i c acc H', H Dl = none → z.cps.toList[i]? = some c → H' Dl = some (.lst acc) → acc.length ≤ i → Pv Dl i acc H' → LcT g tt te vs σ Pv Dl i (.str ⟨#[c]⟩) H')
    (hd : ∀ Dl acc H', H Dl = none → H' Dl = some (.lst acc) → acc.length ≤ z.cps.toList.length → Pv Dl z.cps.toList.length acc H' → Q (.ref Dl) H') : LcJ (Its z) g tt te vs σ H Q := by
  intro Dl hD
  refine ⟨fun i m H' => m = z.cps.size - i ∧ i ≤ z.cps.size ∧ LcN Pv Dl i H', ⟨_, rfl, Nat.zero_le _, [], upd_same, Nat.zero_le _, h0 Dl hD⟩, ?_⟩
  rintro i m H1 ⟨rfl, hi, acc, h1, h2, h3⟩
  by_cases hlt : i < z.cps.size
  · refine .inr ⟨hlt, LcN Pv Dl (i + 1), fun H' p' => ⟨_, by omega, rfl, hlt, p'⟩, fun x H' y => ?_⟩
    obtain ⟨e, c, hc, e2⟩ := y
    subst e e2
    exact hs Dl i c acc _ hD (by rw [Array.getElem?_toList]; exact hc) h1 h2 h3
  · have e : i = z.cps.toList.length := by rw [Array.length_toList]; omega
    subst e
    exact .inl ⟨by rw [Array.length_toList] at hlt; exact Nat.le_of_not_lt hlt, hd Dl acc _ hD h1 h2 h3⟩
/-- the turn of such a comprehension -/
abbrev LcM (g : TG) (tt : TT) (te : TE) (vs : List Nat) (σ : St) (R : VK) (S : Hp → Prop) (x : V) (H' : Hp) : Prop :=
  g x (wipe σ vs) H' fun σ2 H2 => wipe σ2 vs = wipe σ vs ∧ tt σ2 H2 fun b H3 => if b = true then te σ2 H3 R else S H3
theorem lcS_map (f : Nat → V) (p : Nat → Bool) (hz : z.length ≤ 16777216)
    (hs : ∀ c H' R S, c ∈ z.cps.toList → Kp [] H H' → (p c = true → ∀ H4, Kp [] H' H4 → R (f c) H4) → (p c = false → ∀ H4, Kp [] H' H4 → S H4) → LcM g tt te vs σ R S (.str ⟨#[c]⟩) H')
    (hd : ∀ Dl H', H Dl = none → Kp [] H H' → H' Dl = some (.lst ((z.cps.toList.filter p).map f)) → Q (.ref Dl) H') : LcJ (Its z) g tt te vs σ H Q := by
  refine lcS (fun Dl i acc H' => Kp [] H H' ∧ acc = ((z.cps.toList.take i).filter p).map f) (fun Dl hD => ⟨Kp.new hD, rfl⟩) ?_ ?_
  · rintro Dl i c acc H' hD hc hacc hl ⟨e, rfl⟩
    have hi : i < z.cps.toList.length := (List.getElem?_eq_some_iff.mp hc).1
    have hz2 : z.cps.toList.length ≤ 16777216 := by rw [Array.length_toList]; exact hz
    refine hs c H' _ _ (List.mem_of_getElem? hc) e (fun hp H4 e4 => ?_) (fun hp H4 e4 => ?_)
    · exact lc_push (e4.at0 hacc) hl (by omega) ⟨(e.trans e4).fresh_mut hD, by rw [take_succ' hc, List.filter_append, List.map_append]; simp [hp]⟩
    · exact lc_skip (e4.at0 hacc) hl ⟨e.trans e4, by rw [take_succ' hc, List.filter_append, List.map_append]; simp [hp]⟩
  · rintro Dl acc H' hD hacc hl ⟨e, rfl⟩
    rw [List.take_length] at hacc
    exact hd Dl H' hD e hacc
theorem lcL_map {α : Type} {ys : List α} {u : α → V} (f : α → V) (p : α → Bool) (h : SqL K H a (ys.map u)) (hz : ys.length ≤ 16777216)
    (hs : ∀ y H' R S, y ∈ ys → Kp [] H H' → (p y = true → ∀ H4, Kp [] H' H4 → R (f y) H4) → (p y = false → ∀ H4, Kp [] H' H4 → S H4) → LcM g tt te vs σ R S (u y) H')
    (hd : ∀ Dl H', H Dl = none → Kp [] H H' → H' Dl = some (.lst ((ys.filter p).map f)) → Q (.ref Dl) H') : LcJ (Itl K a) g tt te vs σ H Q := by
  refine lcL (ys.map u) (fun Dl i acc H' => Kp [] H H' ∧ acc = ((ys.take i).filter p).map f) (fun Dl hD => ⟨Kp.new hD, rfl⟩) (fun Dl i acc H' hD e => SqL.kp e.1 h) ?_ ?_
  · rintro Dl i x acc H' hD hx hacc hl ⟨e, rfl⟩
    rw [List.getElem?_map] at hx
    obtain ⟨c, hc, rfl⟩ := Option.map_eq_some_iff.mp hx
    have hi : i < ys.length := (List.getElem?_eq_some_iff.mp hc).1
    refine hs c H' _ _ (List.mem_of_getElem? hc) e (fun hp H4 e4 => ?_) (fun hp H4 e4 => ?_)
    · exact lc_push (e4.at0 hacc) hl (by omega) ⟨(e.trans e4).fresh_mut hD, by rw [take_succ' hc, List.filter_append, List.map_append]; simp [hp]⟩
    · exact lc_skip (e4.at0 hacc) hl ⟨e.trans e4, by rw [take_succ' hc, List.filter_append, List.map_append]; simp [hp]⟩
  · rintro Dl acc H' hD hacc hl ⟨e, rfl⟩
    rw [List.length_map, List.take_length] at hacc
    exact hd Dl H' hD e hacc
theorem lcT_map {α : Type} {ys : List α} {u : α → V} (f : α → V) (p : α → Bool) (h : SqT K H a (ys.map u)) (hz : ys.length ≤ 16777216)
    (hs : ∀ y H' R S, y ∈ ys → Kp [] H H' → (p y = true → ∀ H4, Kp [] H' H4 → R (f y) H4) → (p y = false → ∀ H4, Kp [] H' H4 → S H4) → LcM g tt te vs σ R S (u y) H')
    (hd : ∀ Dl H', H Dl = none → Kp [] H H' → H' Dl = some (.lst ((ys.filter p).map f)) → Q (.ref Dl) H') : LcJ (Itt K a) g tt te vs σ H Q := by
  refine lcT (ys.map u) (fun Dl i acc H' => Kp [] H H' ∧ acc = ((ys.take i).filter p).map f) (fun Dl hD => ⟨Kp.new hD, rfl⟩) (fun Dl i acc H' hD e => SqT.kp e.1 h) ?_ ?_
  · rintro Dl i x acc H' hD hx hacc hl ⟨e, rfl⟩
    rw [List.getElem?_map] at hx
    obtain ⟨c, hc, rfl⟩ := Option.map_eq_some_iff.mp hx
    have hi : i < ys.length := (List.getElem?_eq_some_iff.mp hc).1
    refine hs c H' _ _ (List.mem_of_getElem? hc) e (fun hp H4 e4 => ?_) (fun hp H4 e4 => ?_)
    · exact lc_push (e4.at0 hacc) hl (by omega) ⟨(e.trans e4).fresh_mut hD, by rw [take_succ' hc, List.filter_append, List.map_append]; simp [hp]⟩
    · exact lc_skip (e4.at0 hacc) hl ⟨e.trans e4, by rw [take_succ' hc, List.filter_append, List.map_append]; simp [hp]⟩
  · rintro Dl acc H' hD hacc hl ⟨e, rfl⟩
    rw [List.length_map, List.take_length] at hacc
    exact hd Dl H' hD e hacc
/-- each turn draws -/
theorem lcR_draw {α : Type} (f : α → V) (Pa : α → Prop) (B : Bx H b d) (hz : n ≤ 16777216)
    (hs : ∀ i H' R S, i < n → Kp [b] H H' → Bx H' b d → (∀ x H4, Pa x → Kp [b] H' H4 → Bx H4 b d → R (f x) H4) → LcM g tt te vs σ R S (.int (lo + (i : Nat))) H')
    (hd : ∀ Dl H' (as : List α), H Dl = none → as.length = n → (∀ x ∈ as, Pa x) → Kp [b] H H' → Bx H' b d → H' Dl = some (.lst (as.map f)) → Q (.ref Dl) H') : LcJ (Itr lo n) g tt te vs σ H Q := by
  refine lcR (fun Dl i acc H' => Kp [b] H H' ∧ Bx H' b d ∧ ∃ as : List α, acc = as.map f ∧ as.length = i ∧ ∀ x ∈ as, Pa x) (fun Dl hD => ⟨Kp.new hD, B.new hD, [], rfl, rfl, by simp⟩) ?_ ?_
  · rintro Dl i acc H' hD hi hacc hl ⟨e, B1, as, rfl, hlen, hP⟩
    have nD := B.ne_new hD
    refine hs i H' _ _ hi e B1 (fun x H4 hx e4 B4 => ?_)
    refine lc_push (e4.at1 nD.1 hacc) hl (by omega) ⟨(e.trans e4).fresh_mut hD, B4.other nD.1 nD.2, as ++ [x], by rw [List.map_append]; rfl, by rw [List.length_append, hlen]; rfl, fun y hy => ?_⟩
    rcases List.mem_append.mp hy with h | h
    · exact hP y h
    · rw [List.mem_singleton.mp h]; exact hx
  · rintro Dl acc H' hD hacc hl ⟨e, B1, as, rfl, hlen, hP⟩
    exact hd Dl H' as hD hlen hP e B1 hacc
end
theorem Bx.pick {H H1 H2 : Hp} {b d p : Addr} {xs : List V} {K : PySem.W.Frag} (B : Bx H b d) (N : New H p (.lst xs) H1) (e : Kp [b] H1 H2) : SqL K H2 p xs := .of (e.at1 (B.ne_new N.fr).1 N.at_)
theorem c_pick {K : PySem.W.Frag} {H : Hp} {a : Addr} {i : Int} {Q : VK} {xs : List V} (h : SqL K H a xs) (h0 : 0 ≤ i) (h1 : i < xs.length) (q : ∀ v ∈ xs, Q v H) : rIx K (.ref a) (.int i) H Q :=
  c_ixL h (atI_at h0 h1) (q _ (by
    rw [List.getD_eq_getElem?_getD, List.getElem?_eq_getElem (by omega)]
    exact List.getElem_mem _))
theorem c_pickM {α : Type} {K : PySem.W.Frag} {H : Hp} {a : Addr} {i : Int} {Q : VK} {u : α → V} (ys : List α) (h : SqL K H a (ys.map u)) (h0 : 0 ≤ i) (h1 : i < ys.length) (q : ∀ y ∈ ys, Q (u y) H) : rIx K (.ref a) (.int i) H Q :=
  c_pick h h0 (by rw [List.length_map]; exact h1) (fun v hv => by obtain ⟨y, hy, rfl⟩ := List.mem_map.mp hv; exact q y hy)
/-! ## values compared, shown -/
section
variable {K : PySem.W.Frag} {H : Hp} {Q : VK} {a b : Addr} {ns ms : List Int}
theorem dp_intsT (h : SqT K H a (ns.map V.int)) : Dp K H (.ref a) (.tuple (ns.map PyData.int)) := .tup h (dpAll_ints ns)
end
end Sa

/-! Data: rows of texts compared; what is small enough to be shown. -/
namespace Sa
open PySem L2
section
variable {K : PySem.W.Frag} {H : Hp} {Q : VK} {a b : Addr} {ys zs : List Str}
/-- all codes are codes -/
def okS (z : Str) : Bool := PyData.strOk z
theorem dpAll_strs : ∀ ys : List Str, DpAll K H (ys.map V.str) (ys.map PyData.str)
  | [] => .nil
  | n :: r => .cons (.str n) (dpAll_strs r)
theorem dp_strs (h : SqL K H a (ys.map V.str)) : Dp K H (.ref a) (.list (ys.map PyData.str)) := .lst h (dpAll_strs ys)
theorem dp_strsT (h : SqT K H a (ys.map V.str)) : Dp K H (.ref a) (.tuple (ys.map PyData.str)) := .tup h (dpAll_strs ys)
theorem eqvAll_strs : ∀ ys zs : List Str, PyData.eqvAll (ys.map PyData.str) (zs.map PyData.str) = decide (ys = zs)
  | [], [] => by simp [PyData.eqvAll]
  | [], _ :: _ => by simp [PyData.eqvAll]
  | _ :: _, [] => by simp [PyData.eqvAll]
  | a :: r, b :: t => by
    simp only [List.map_cons, PyData.eqvAll, PyData.eqv, eqvAll_strs r t]
    by_cases h : a = b <;> by_cases h' : r = t <;> simp [h, h']
theorem layAll_strs : ∀ {ys : List Str}, (∀ y ∈ ys, okS y = true) → PyData.canLayAll0 (ys.map PyData.str) = true
  | [], _ => rfl
  | y :: r, h => by
    simp only [List.map_cons, PyData.canLayAll0, PyData.canLay0, Bool.and_eq_true]
    exact ⟨h y (List.mem_cons_self ..), layAll_strs fun z hz => h z (List.mem_cons_of_mem _ hz)⟩
theorem depthAll_strs : ∀ ys : List Str, PyData.depthAll (ys.map PyData.str) = 0
  | [] => rfl
  | y :: r => by simp [PyData.depthAll, PyData.depth, depthAll_strs r]
theorem shaped_strsL (h : ∀ y ∈ ys, okS y = true) : SeqAt.shaped (.list (ys.map PyData.str)) = true := by
  simp only [SeqAt.shaped, PyData.canLay0, PyData.depth, depthAll_strs, Bool.and_eq_true, decide_eq_true_eq]
  exact ⟨layAll_strs h, by omega⟩
theorem shaped_strsT (h : ∀ y ∈ ys, okS y = true) : SeqAt.shaped (.tuple (ys.map PyData.str)) = true := by
  simp only [SeqAt.shaped, PyData.canLay0, PyData.depth, depthAll_strs, Bool.and_eq_true, decide_eq_true_eq]
  exact ⟨layAll_strs h, by omega⟩
theorem c_eqLS (ha : SqL K H a (ys.map V.str)) (hb : SqL K H b (zs.map V.str)) (h1 : ∀ y ∈ ys, okS y = true) (h2 : ∀ y ∈ zs, okS y = true) (q : Q (.bl (decide (ys = zs))) H) : rEqU K (.ref a) (.ref b) H Q :=
  c_eqD (dp_strs ha) (dp_strs hb) (shaped_strsL h1) (shaped_strsL h2) (by rw [PyData.eqv, eqvAll_strs]; exact q)
theorem c_eqTS (ha : SqT K H a (ys.map V.str)) (hb : SqT K H b (zs.map V.str)) (h1 : ∀ y ∈ ys, okS y = true) (h2 : ∀ y ∈ zs, okS y = true) (q : Q (.bl (decide (ys = zs))) H) : rEqU K (.ref a) (.ref b) H Q :=
  c_eqD (dp_strsT ha) (dp_strsT hb) (shaped_strsT h1) (shaped_strsT h2) (by rw [PyData.eqv, eqvAll_strs]; exact q)
theorem c_neTS (ha : SqT K H a (ys.map V.str)) (hb : SqT K H b (zs.map V.str)) (h1 : ∀ y ∈ ys, okS y = true) (h2 : ∀ y ∈ zs, okS y = true) (q : Q (.bl (!decide (ys = zs))) H) : rNeU K (.ref a) (.ref b) H Q :=
  c_neD (dp_strsT ha) (dp_strsT hb) (shaped_strsT h1) (shaped_strsT h2) (by rw [PyData.eqv, eqvAll_strs]; exact q)
theorem c_neTI {ns ms : List Int} (ha : SqT K H a (ns.map V.int)) (hb : SqT K H b (ms.map V.int)) (s1 : SeqAt.shaped (.tuple (ns.map PyData.int)) = true) (s2 : SeqAt.shaped (.tuple (ms.map PyData.int)) = true) (q : Q (.bl (!decide (ns = ms))) H) : rNeU K (.ref a) (.ref b) H Q :=
  c_neD (dp_intsT ha) (dp_intsT hb) s1 s2 (by rw [PyData.eqv, eqvAll_ints]; exact q)
end
/-! what stands in the parts of a text -/
theorem cps_app (a b : Str) : (a ++ b).cps.toList = a.cps.toList ++ b.cps.toList := by show (a.cps ++ b.cps).toList = _; rw [Array.toList_append]
theorem join_mem {y z : Str} {c : Nat} : ∀ {ys : List Str}, z ∈ ys → c ∈ z.cps.toList → c ∈ (Str.join y ys).cps.toList
  | [x], h, hc => by rw [List.mem_singleton.mp h] at hc; exact hc
  | x :: u :: r, h, hc => by
    show c ∈ (x ++ y ++ Str.join y (u :: r)).cps.toList
    rw [cps_app, cps_app, List.mem_append, List.mem_append]
    rcases List.mem_cons.mp h with e | h
    · subst e; exact .inl (.inl hc)
    · exact .inr (join_mem h hc)
theorem split_mem {x y z : Str} {c : Nat} (h : z ∈ Txt.split x y) (hc : c ∈ z.cps.toList) : c ∈ x.cps.toList := by
  have := join_mem (y := y) h hc
  rw [StrLaws.join_split] at this
  exact this
theorem okS_iff {z : Str} : okS z = true ↔ ∀ c ∈ z.cps.toList, c < 1114112 := by
  unfold okS PyData.strOk
  rw [Array.all_eq_true_iff_forall_mem]
  simp [Array.mem_toList_iff]
theorem split_ok {x y z : Str} (hx : okS x = true) (h : z ∈ Txt.split x y) : okS z = true := okS_iff.mpr fun c hc => okS_iff.mp hx c (split_mem h hc)
theorem rptS_mem {z : Str} {n : Int} {c : Nat} (h : c ∈ (rptS z n).cps.toList) : c ∈ z.cps.toList := by
  unfold rptS at h
  simp only [List.mem_flatten] at h
  obtain ⟨l, hl, hc⟩ := h
  rw [(List.mem_replicate.mp hl).2] at hc
  exact hc
/-! shown -/
theorem nice_bl (b : Bool) : Nice (.bool b) := by cases b <;> exact ⟨by decide +kernel, by decide +kernel, by decide +kernel⟩
theorem nice_bl2 (b c : Bool) : Nice (.tuple [.bool b, .bool c]) := by cases b <;> cases c <;> exact ⟨by decide +kernel, by decide +kernel, by decide +kernel⟩
/-! the value of an and, of an or, whose second part is known -/
section
variable {σ : St} {H : Hp} {Q : VK} {te : TE}
theorem c_andE {c : Bool} (b : Bool) (h : ∀ R : VK, R (.bl b) H → te σ H R) (q : Q (.bl (c && b)) H) : if c = true then te σ H Q else Q (.bl false) H := by
  cases c with
  | true => rw [if_pos rfl]; exact h Q q
  | false => rw [if_neg Bool.false_ne_true]; exact q
theorem c_andK {c : Bool} (b : Bool) (h : ∀ R : VK, (∀ H', Kp [] H H' → R (.bl b) H') → te σ H R) (q : ∀ H', Kp [] H H' → Q (.bl (c && b)) H') : if c = true then te σ H Q else Q (.bl false) H := by
  cases c with
  | true => rw [if_pos rfl]; exact h Q q
  | false => rw [if_neg Bool.false_ne_true]; exact q H Kp.refl
theorem c_orE {c : Bool} (b : Bool) (h : ∀ R : VK, R (.bl b) H → te σ H R) (q : Q (.bl (c || b)) H) : if c = true then Q (.bl true) H else te σ H Q := by
  cases c with
  | true => rw [if_pos rfl]; exact q
  | false => rw [if_neg Bool.false_ne_true]; exact h Q q
theorem c_orK {c : Bool} (b : Bool) (h : ∀ R : VK, (∀ H', Kp [] H H' → R (.bl b) H') → te σ H R) (q : ∀ H', Kp [] H H' → Q (.bl (c || b)) H') : if c = true then Q (.bl true) H else te σ H Q := by
  cases c with
  | true => rw [if_pos rfl]; exact q H Kp.refl
  | false => rw [if_neg Bool.false_ne_true]; exact h Q q
end
theorem dp_bl2 {K : PySem.W.Frag} {H : Hp} {p : Addr} {b c : Bool} (h : H p = some (.tup [.bl b, .bl c])) : Dp K H (.ref p) (.tuple [.bool b, .bool c]) := .tup (SqT.of h) (.cons (.bl b) (.cons (.bl c) .nil))
theorem le_int {a b : Nat} : decide ((a : Int) ≤ (b : Int)) = decide (a ≤ b) := by congr 1; exact propext Int.ofNat_le
end Sa

open PySem L2 Sa
/-! ## tactics -/
-- heap look-ups
local macro_rules | `(tactic| walk_at "ne") => `(tactic| first | assumption | (apply Ne.symm; assumption) | (refine ne_of2 ?_ ?_ <;> assumption) | (apply Ne.symm; refine ne_of2 ?_ ?_ <;> assumption))
local macro_rules | `(tactic| walk_at "lk") => `(tactic| first
  | assumption
  | exact upd_same
  | ((with_reducible refine upd_new ?_ ?_); (· assumption); walk_at "lk")
  | ((with_reducible refine upd_other ?_ ?_); (· walk_at "ne"); walk_at "lk")
  | (with_reducible exact New.at_ (by assumption))
  | ((with_reducible refine New.keep (by assumption) ?_); walk_at "lk")
  | ((with_reducible refine New.sqL (by assumption) ?_); walk_at "lk")
  | ((with_reducible refine New.sqT (by assumption) ?_); walk_at "lk")
  | ((with_reducible refine Kp.at0 (by assumption) ?_); walk_at "lk")
  | ((with_reducible apply SqL.of); walk_at "lk")
  | ((with_reducible apply SqT.of); walk_at "lk")
  | ((with_reducible refine SqL.new ?_ ?_); (· assumption); walk_at "lk")
  | ((with_reducible refine SqT.new ?_ ?_); (· assumption); walk_at "lk"))
-- arithmetic of lengths
local macro_rules | `(tactic| walk_at "sz") => `(tactic| first | assumption | decide | (exact Nat.zero_le _) | (simp only [sizeLine_eq, List.length_cons, List.length_nil, List.length_append, List.length_map, List.length_replicate] at *; omega))
-- one step of a reading
local macro_rules | `(tactic| walk_at "s1") => `(tactic| first
  | (with_reducible apply c_seq)
  | ((with_reducible apply c_var); (exact rfl))
  | (with_reducible apply c_c)
  | (with_reducible apply c_op)
  | (with_reducible apply c_addI) | (with_reducible apply c_subI)
  | (with_reducible refine c_bl ?_) | (with_reducible refine c_int ?_)
  | (with_reducible apply c_asg) | (with_reducible apply c_gName) | (with_reducible apply c_ret) | (with_reducible apply c_retN) | (with_reducible apply c_ifs) | (with_reducible apply c_drop)
  | (with_reducible apply c_test) | (with_reducible apply c_tB) | (with_reducible apply c_not) | (with_reducible apply c_and) | (with_reducible apply c_or)
  | (with_reducible apply c_eqI) | (with_reducible apply c_neI) | (with_reducible apply c_ltI) | (with_reducible apply c_leI) | (with_reducible apply c_gtI) | (with_reducible apply c_geI)
  | (with_reducible apply c_nil) | (with_reducible apply c_cons) | (with_reducible apply c_call) | (with_reducible apply c_cb) | (with_reducible apply c_tup) | (with_reducible apply c_lst)
  | (with_reducible apply c_sl) | (with_reducible apply c_noPart) | (with_reducible apply c_part) | (with_reducible apply c_bm) | (with_reducible apply c_bm0) | (with_reducible apply c_m1) | (with_reducible apply c_isStr)
  | (with_reducible apply c_chain) | (with_reducible apply c_andV) | (with_reducible apply c_orV) | (with_reducible apply c_notV) | (with_reducible apply c_if)
  | (with_reducible apply c_intI) | (with_reducible apply c_ord) | (with_reducible apply c_max2) | (with_reducible apply c_min2)
  | ((with_reducible apply c_mulI); (first | (exact Or.inr ⟨by decide, by decide⟩) | (exact Or.inl ⟨by decide, by decide⟩)))
  | ((with_reducible apply c_divI); (exact ⟨by decide, by decide⟩))
  | ((with_reducible apply c_modI); (first | decide | assumption | omega))
  | (with_reducible apply c_eqS) | (with_reducible apply c_neS) | (with_reducible apply c_eqB) | (with_reducible apply c_neB) | (with_reducible apply c_isN) | (with_reducible apply c_notN)
  | (with_reducible apply c_inC) | (with_reducible apply c_notInC)
  | (with_reducible refine c_truB ?_)
  | (with_reducible apply c_gSub)
  | (with_reducible apply c_next)
  | (with_reducible apply c_for) | (with_reducible apply c_lc) | (with_reducible apply c_rng1) | (with_reducible apply c_rng2) | (with_reducible apply c_iList) | (with_reducible apply c_iTup) | (with_reducible apply c_iStr)
  | ((with_reducible refine c_r1F ?_ ?_); (· first | decide | omega)) | ((with_reducible refine c_r2F ?_ ?_); (· first | decide | omega))
  | ((with_reducible apply c_itLF); (· walk_at "lk")) | ((with_reducible apply c_itTF); (· walk_at "lk")) | (with_reducible apply c_itSF)
  | ((with_reducible refine c_r1C ?_ ?_); (· first | decide | omega)) | ((with_reducible refine c_r2C ?_ ?_); (· first | decide | omega))
  | ((with_reducible apply c_itLC); (· walk_at "lk")) | ((with_reducible apply c_itTC); (· walk_at "lk")) | (with_reducible apply c_itSC)
  | ((with_reducible apply c_append); (· walk_at "lk"); (· walk_at "sz"))
  | (with_reducible apply c_yes)
  | (with_reducible apply c_it1) | (with_reducible apply c_it2) | (with_reducible apply c_it3) | (with_reducible apply c_it4)
  | (with_reducible apply c_gCons) | (with_reducible apply c_gNil)
  | ((with_reducible apply c_unL); (· walk_at "lk"); (· exact rfl)) | ((with_reducible apply c_unT); (· walk_at "lk"); (· exact rfl))
  | ((with_reducible apply c_lenS); (· walk_at "sz"))
  | ((with_reducible apply c_lenL); (· walk_at "lk"))
  | ((with_reducible apply c_lenT); (· walk_at "lk"))
  | ((with_reducible apply c_ixL); (· walk_at "lk"); (· exact rfl))
  | ((with_reducible apply c_ixT); (· walk_at "lk"); (· exact rfl))
  | ((with_reducible apply c_setL); (· walk_at "lk"); (· exact rfl))
  | ((with_reducible apply c_tyA); (· walk_at "lk")))
local macro_rules | `(tactic| walk_at "nw") => `(tactic| ((with_reducible refine c_nw ?_ ?_); (· walk_at "sz")))
local macro_rules | `(tactic| walk_at "st") => `(tactic| repeat (walk_at "s1"))
-- steps and ways, as far as they go
local macro_rules | `(tactic| walk_at "go") => `(tactic| repeat' (first | walk_at "s1" | ((with_reducible refine c_iteT ?_ ?_); (· exact rfl)) | ((with_reducible refine c_iteF ?_ ?_); (· exact rfl)) | ((with_reducible refine c_ite ?_ ?_) <;> intro hcnd) | ((with_reducible refine c_iteN ?_ ?_) <;> intro hcnd) | ((with_reducible refine c_iteNB ?_ ?_) <;> intro hcnd) | ((with_reducible refine c_iteB ?_ ?_) <;> intro hcnd)))

namespace K01
open PySem L2 Sa
def top (i : Nat) : Stmt := PySem.Challenge.pw_sameanswers_k01_names_paths_and_lines.main.body.getD i (.Pass ⟨0, 0, 0, 0⟩)
abbrev s__law_draw : Stmt := top 19
abbrev s__law_cell : Stmt := top 17
abbrev s__law_digits : Stmt := top 18
abbrev s_is_name : Stmt := top 8
abbrev s_is_path : Stmt := top 9
abbrev s_is_place : Stmt := top 10
abbrev s__is_plain : Stmt := top 11
abbrev s_is_line : Stmt := top 12
abbrev s_is_word : Stmt := top 13
abbrev s_is_lines : Stmt := top 14
abbrev s_is_inside : Stmt := top 15
abbrev s__law_alike : Stmt := top 27
abbrev s__law_path : Stmt := top 20
abbrev s__law_line : Stmt := top 21
abbrev s__law_text : Stmt := top 28
abbrev s__law_is_name : Stmt := top 29
abbrev s__law_is_path : Stmt := top 30
abbrev s__law_inside : Stmt := top 23
abbrev s_law : Stmt := top 31
def fa : List He.Fa := [.free "int", .free "len", .glo "_law_draw", .glo "_law_cell", .free "range", .glo "_law_digits", .free "all", .str "LETTERS" "abcdefghijklmnopqrstuvwxyz0123456789", .int "NAME_MOST" 8, .glo "is_name", .int "DEPTH_MOST" 3, .glo "is_path", .glo "is_place", .free "ord", .int "PERCENT" 37, .glo "_is_plain", .int "LINE_MOST" 20, .glo "is_line", .int "WORD_MOST" 12, .glo "is_word", .int "LINES_MOST" 12, .glo "is_lines", .glo "is_inside", .free "repr", .glo "_law_alike", .glo "_law_path", .glo "_law_line", .glo "_law_text", .glo "_law_is_name", .glo "_law_is_path", .glo "_law_inside", .glo "law"]
def fn : List He.DefD := [dOf "_law_draw" s__law_draw, dOf "_law_cell" s__law_cell, dOf "_law_digits" s__law_digits, dOf "is_name" s_is_name, dOf "is_path" s_is_path, dOf "is_place" s_is_place, dOf "_is_plain" s__is_plain, dOf "is_line" s_is_line, dOf "is_word" s_is_word, dOf "is_lines" s_is_lines, dOf "is_inside" s_is_inside, dOf "_law_alike" s__law_alike, dOf "_law_path" s__law_path, dOf "_law_line" s__law_line, dOf "_law_text" s__law_text, dOf "_law_is_name" s__law_is_name, dOf "_law_is_path" s__law_is_path, dOf "_law_inside" s__law_inside, dOf "law" s_law]
abbrev TX (K : PySem.W.Frag) (mg : Str → Option Value) : Prop := Tx fa fn K mg
end K01

namespace K01
open PySem L2 Sa
section
variable {P : Program} {w : World} {K : PySem.W.Frag} {mg : Str → Option Value} {base : Heap}
theorem sc__law_draw : FnScope ["_law_box", "_law_many", "_law_at"] ["_law_box", "_law_many"] (defScope s__law_draw) := ⟨rfl, rfl, rfl, by decide +kernel, rfl, by decide +kernel, by decide +kernel⟩
theorem bn__law_draw : BindN "_law_draw" s__law_draw ["_law_box", "_law_many"] := fun _ _ _ _ _ _ us hl => match us, hl with | [_, _], _ => rfl
def spDraw : Sp := fun vs H Q _ => ∃ (b d : Addr) (many : Int), vs = [.ref b, .int many] ∧ Bx H b d ∧ 0 < many ∧ ∀ (i : Int) (H' : Hp), 0 ≤ i → i < many → Kp [b] H H' → Bx H' b d → Q (.int i) H'
theorem b__law_draw (T : TX K mg) : Body P w K mg base "_law_draw" s__law_draw ["_law_box", "_law_many", "_law_at"] 1 spDraw := by
  intro cdv A outer s H vs Q E h X hr
  obtain ⟨b, d, many, rfl, B, hm, k⟩ := h
  obtain ⟨at_, ds, h1, h2, h3⟩ := B.ex
  refine ⟨_, (pss_cons (ps_set (i := 2) sc__law_draw.nd rfl (Or.inl rfl) (pe_ix (ix_U (K := K)) (pv 0) pe_int (fun _ _ => rfl))) (pss_cons (ps_asg (pe_op (op_addU (K := K)) (pv 2) pe_int) (pg_sub (pv 0) pe_int set_list)) (pss_cons (ps_if (pt_cmpR op_ltU (pv 2) (pe_callB (cr_len (K := K)) rfl (T.free 1) PySem.boot_len (pa_cons (pe_ix (ix_U (K := K)) (pv 0) pe_int (fun _ _ => rfl)) pa_nil)) (nomark _)) (pss_one (ps_ret (pe_op op_modU (pe_callTy cr_int rfl (T.free 0) (by decide +kernel) (pa_cons (pe_ix (ix_U (K := K)) (pe_ix (ix_U (K := K)) (pv 0) pe_int (fun _ _ => rfl)) (pv 2) (fun _ _ => rfl)) pa_nil)) (pv 1)))) pss_nil) (pss_one (ps_ret (pe_op op_modU (pe_callTy cr_int rfl (T.free 0) (by decide +kernel) (pa_cons (pe_op (op_addU (K := K)) (pe_op (op_mulU (K := K)) (pv 2) pe_int) pe_int) pa_nil)) (pv 1))))))), ?_⟩
  have hne := B.ne
  walk_at "st"
  have fin : ∀ z : Int, Q (.int (z % many)) (upd H b (.lst [.ref d, .int (at_ + 1)])) := fun z => by
    refine k _ _ (Int.emod_nonneg _ (by omega)) (Int.emod_lt_of_pos _ hm) (Kp.mut (by simp)) ⟨at_ + 1, ds, upd_same, upd_other hne h2, by omega⟩
  refine c_ite (fun hlt => ?_) (fun hlt => ?_)
  · walk_at "st"
    rw [List.length_map] at hlt
    refine c_ixL (by walk_at "lk") (atI_ints h3 hlt) ?_
    walk_at "st"
    exact fin _
  · walk_at "st"
    exact fin _
theorem D__law_draw (T : TX K mg) : DefAt P w K mg base CX0 "_law_draw" 2 ["_law_box", "_law_many"] spDraw :=
  def_of T 0 2 sc__law_draw bn__law_draw (fun vs H Q E h => by obtain ⟨b, d, many, rfl, _⟩ := h; rfl) (b__law_draw T)

theorem sc__law_cell : FnScope ["_law_script", "_law_k"] ["_law_script", "_law_k"] (defScope s__law_cell) := ⟨rfl, rfl, rfl, by decide +kernel, rfl, by decide +kernel, by decide +kernel⟩
theorem bn__law_cell : BindN "_law_cell" s__law_cell ["_law_script", "_law_k"] := fun _ _ _ _ _ _ us hl => match us, hl with | [_, _], _ => rfl
def spCell (K : PySem.W.Frag) : Sp := fun vs H Q _ => ∃ (a : Addr) (ns : List Int) (k : Int), vs = [.ref a, .int k] ∧ SqL K H a (ns.map V.int) ∧ 0 ≤ k ∧ ∀ n : Int, Q (.int n) H
theorem b__law_cell (T : TX K mg) : Body P w K mg base "_law_cell" s__law_cell ["_law_script", "_law_k"] 1 (spCell K) := by
  intro cdv A outer s H vs Q E h X hr
  obtain ⟨a, ns, k, rfl, hs, h0, q⟩ := h
  refine ⟨_, (pss_cons (ps_if (pt_cmpR op_ltU (pv 1) (pe_callB (cr_len (K := K)) rfl (T.free 1) PySem.boot_len (pa_cons (pv 0) pa_nil)) (nomark _)) (pss_one (ps_ret (pe_ix (ix_U (K := K)) (pv 0) (pv 1) (fun _ _ => rfl)))) pss_nil) (pss_one (ps_ret pe_int))), ?_⟩
  walk_at "st"
  refine c_ite (fun hlt => ?_) (fun hlt => ?_)
  · walk_at "st"
    rw [List.length_map] at hlt
    refine c_ixL hs (atI_ints h0 hlt) ?_
    exact q _
  · walk_at "st"
    exact q _
theorem D__law_cell (T : TX K mg) : DefAt P w K mg base CX0 "_law_cell" 2 ["_law_script", "_law_k"] (spCell K) :=
  def_of T 1 3 sc__law_cell bn__law_cell (fun vs H Q E h => by obtain ⟨b, d, many, rfl, _⟩ := h; rfl) (b__law_cell T)
theorem sc__law_digits : FnScope ["_law_script", "_law_first", "_law_last", "_law_digits_here", "_law_k", "_law_cell_here", "_law_turn", "_law_seed"] ["_law_script", "_law_first", "_law_last"] (defScope s__law_digits) := ⟨rfl, rfl, rfl, by decide +kernel, rfl, by decide +kernel, by decide +kernel⟩
theorem bn__law_digits : BindN "_law_digits" s__law_digits ["_law_script", "_law_first", "_law_last"] := fun _ _ _ _ _ _ us hl => match us, hl with | [_, _, _], _ => rfl
def spDigits (K : PySem.W.Frag) : Sp := fun vs H Q _ => ∃ (a : Addr) (ns : List Int), vs = [.ref a, .int 0, .int 63] ∧ SqL K H a (ns.map V.int) ∧ ∀ (p : Addr) (ds : List Int), H p = none → Q (.ref p) (upd H p (.lst (ds.map V.int)))
theorem b__law_digits (T : TX K mg) : Body P w K mg base "_law_digits" s__law_digits ["_law_script", "_law_first", "_law_last", "_law_digits_here", "_law_k", "_law_cell_here", "_law_turn", "_law_seed"] 2 (spDigits K) := by
  intro cdv A outer s H vs Q E h X hr
  obtain ⟨a, ns, rfl, hs, q⟩ := h
  have D__law_cell : DefAt P w K mg base CX0 "_law_cell" 2 ["_law_script", "_law_k"] (spCell K) := D__law_cell T
  refine ⟨_, (pss_cons (ps_set (i := 3) sc__law_digits.nd rfl (Or.inl rfl) (pe_lst pa_nil)) (pss_cons (ps_for PassesOwn.never rfl (pi_range2 rfl (T.free 4) (pa_cons (pv 1) (pa_cons (pv 2) pa_nil))) (pg_name (i := 4) sc__law_digits.nd rfl (Or.inl rfl)) (pss_cons (ps_set (i := 5) sc__law_digits.nd rfl (Or.inl rfl) (pe_callA D__law_cell hr pass0 (pa_cons (pv 0) (pa_cons (pv 4) pa_nil)))) (Evl.pss_cut (ps_if (pt_cmpR op_ltU (pv 5) pe_int (nomark _)) (pss_one (ps_set (i := 5) sc__law_digits.nd rfl (Or.inl rfl) (pe_op op_subU pe_int (pe_op (op_mulU (K := K)) pe_int (pv 5))))) pss_nil) (pss_one (ps_if (pt_cmpR op_geU (pv 5) pe_int (nomark _)) (pss_one (ps_for PassesOwn.never rfl (pi_range1 rfl (T.free 4) (pa_cons pe_int pa_nil)) (pg_name (i := 6) sc__law_digits.nd rfl (Or.inl rfl)) (pss_one (ps_if (pt_cmpR op_gtU (pv 5) pe_int (nomark _)) (pss_cons (ps_expr (pe_appendU (K := K) (pv 3) (pe_op op_modU (pe_callTy cr_int rfl (T.free 0) (by decide +kernel) (pa_cons (pv 5) pa_nil)) pe_int))) (pss_one (ps_set (i := 5) sc__law_digits.nd rfl (Or.inl rfl) (pe_op op_divU (pv 5) pe_int)))) pss_nil)))) (pss_cons (ps_set (i := 7) sc__law_digits.nd rfl (Or.inl rfl) (pe_op op_modU (pe_callTy cr_int rfl (T.free 0) (by decide +kernel) (pa_cons (pe_op (op_addU (K := K)) (pe_op (op_addU (K := K)) (pe_op (op_mulU (K := K)) (pv 5) pe_int) (pe_op (op_mulU (K := K)) (pv 4) pe_int)) pe_int) pa_nil)) pe_int)) (pss_one (ps_for PassesOwn.never rfl (pi_range1 rfl (T.free 4) (pa_cons pe_int pa_nil)) (pg_name (i := 6) sc__law_digits.nd rfl (Or.inl rfl)) (pss_cons (ps_set (i := 7) sc__law_digits.nd rfl (Or.inl rfl) (pe_op op_modU (pe_callTy cr_int rfl (T.free 0) (by decide +kernel) (pa_cons (pe_op (op_addU (K := K)) (pe_op (op_addU (K := K)) (pe_op (op_mulU (K := K)) (pv 7) pe_int) (pe_op (op_mulU (K := K)) pe_int (pv 6))) pe_int) pa_nil)) pe_int)) (pss_one (ps_expr (pe_appendU (K := K) (pv 3) (pe_op op_modU (pe_callTy cr_int rfl (T.free 0) (by decide +kernel) (pa_cons (pe_op op_divU (pv 7) pe_int) pa_nil)) pe_int))))))))))))) (pss_one (ps_ret (pv 3))))), ?_⟩
  walk_at "st"
  walk_at "nw"
  rintro p _ ⟨hp, rfl⟩
  walk_at "st"
  refine forR (fun i σ H' => ∃ (ds : List Int) (v4 v5 v6 v7 : Option V), σ = [some (.ref a), some (.int 0), some (.int 63), some (.ref p), v4, v5, v6, v7] ∧ H' = upd H p (.lst (ds.map V.int)) ∧ ds.length ≤ 60 * i)
    ⟨[], _, _, _, _, rfl, rfl, Nat.le_refl _⟩ ?_ ?_
  · rintro i σ _ hi ⟨ds, v4, v5, v6, v7, rfl, rfl, hl⟩
    have hi : i < 63 := hi
    walk_at "st"
    refine ⟨a, ns, _, rfl, by walk_at "lk", by omega, fun n => ?_⟩
    walk_at "st"
    refine c_cut (fun σ' H' => ∃ m : Int, σ' = [some (.ref a), some (.int 0), some (.int 63), some (.ref p), some (.int (0 + (i : Int))), some (.int m), v6, v7] ∧ H' = upd H p (.lst (ds.map V.int))) ?_ ?_
    · walk_at "st"
      refine c_ite (fun hlt => ?_) (fun hlt => ?_)
      · walk_at "st"
        exact ⟨_, rfl, rfl⟩
      · walk_at "st"
        exact ⟨_, rfl, rfl⟩
    · rintro _ _ ⟨m, rfl, rfl⟩
      walk_at "st"
      refine c_ite (fun hlt => ?_) (fun hlt => ?_)
      · walk_at "st"
        refine forR (fun j σ H' => ∃ (ds' : List Int) (v6 : Option V) (m : Int), σ = [some (.ref a), some (.int 0), some (.int 63), some (.ref p), some (.int (0 + (i : Int))), some (.int m), v6, v7] ∧ H' = upd H p (.lst (ds'.map V.int)) ∧ ds'.length ≤ ds.length + j)
          ⟨ds, _, _, rfl, rfl, Nat.le_refl _⟩ ?_ ?_
        · rintro j σ _ hj ⟨ds', v6, m, rfl, rfl, hl'⟩
          have hj : j < 60 := hj
          walk_at "st"
          refine c_ite (fun hlt => ?_) (fun hlt => ?_)
          · walk_at "st"
            refine ⟨ds' ++ [m % 1000], _, _, rfl, by rw [upd_upd, map_snocI], by rw [List.length_append, List.length_singleton]; omega⟩
          · walk_at "st"
            exact ⟨ds', _, _, rfl, rfl, by omega⟩
        · rintro σ _ ⟨ds', v6, m, rfl, rfl, hl'⟩
          have hl' : ds'.length ≤ ds.length + 60 := hl'
          walk_at "st"
          exact ⟨ds', _, _, _, _, rfl, rfl, by omega⟩
      · walk_at "st"
        refine forR (fun j σ H' => ∃ (ds' : List Int) (v6 : Option V) (m z : Int), σ = [some (.ref a), some (.int 0), some (.int 63), some (.ref p), some (.int (0 + (i : Int))), some (.int m), v6, some (.int z)] ∧ H' = upd H p (.lst (ds'.map V.int)) ∧ ds'.length ≤ ds.length + j)
          ⟨ds, _, _, _, rfl, rfl, Nat.le_refl _⟩ ?_ ?_
        · rintro j σ _ hj ⟨ds', v6, m, z, rfl, rfl, hl'⟩
          have hj : j < 12 := hj
          walk_at "st"
          refine ⟨ds' ++ [_], _, _, _, rfl, by rw [upd_upd, map_snocI], by rw [List.length_append, List.length_singleton]; omega⟩
        · rintro σ _ ⟨ds', v6, m, z, rfl, rfl, hl'⟩
          have hl' : ds'.length ≤ ds.length + 12 := hl'
          walk_at "st"
          exact ⟨ds', _, _, _, _, rfl, rfl, by omega⟩
  · rintro σ _ ⟨ds, v4, v5, v6, v7, rfl, rfl, hl⟩
    walk_at "st"
    exact q p ds hp
theorem D__law_digits (T : TX K mg) : DefAt P w K mg base CX0 "_law_digits" 3 ["_law_script", "_law_first", "_law_last"] (spDigits K) :=
  def_of T 2 5 sc__law_digits bn__law_digits (fun vs H Q E h => by obtain ⟨b, d, rfl, _⟩ := h; rfl) (b__law_digits T)
end
end K01



namespace K01
open PySem L2 Sa
/-! names, paths, lines -/
def isNameS (z : Str) : Bool := decide (1 ≤ z.length) && decide (z.length ≤ 8) && z.cps.toList.all fun c => decide (c ∈ (PySem.Str.ofString "abcdefghijklmnopqrstuvwxyz0123456789").cps.toList)
def isPathS (z : Str) : Bool := decide ((Txt.split z (PySem.Str.ofString "/")).length ≤ 3) && (Txt.split z (PySem.Str.ofString "/")).all isNameS
def isPlaceS (z : Str) : Bool := decide (z = PySem.Str.ofString "") || isPathS z
def plainC (c : Nat) : Bool := decide (32 ≤ c) && decide (c ≤ 126) && !decide (c = 34) && !decide (c = 37)
def isPlainS (z : Str) : Bool := z.cps.toList.all plainC
def isLineS (z : Str) : Bool := decide (z.length ≤ 20) && isPlainS z
def isWordS (z : Str) : Bool := decide (1 ≤ z.length) && decide (z.length ≤ 12) && isPlainS z
def isLinesS (ys : List Str) : Bool := decide (ys.length ≤ 12) && ys.all isLineS
def isInsideS (x y : Str) : Bool := decide (y = PySem.Str.ofString "") || Txt.startswith x (y ++ PySem.Str.ofString "/")
/-- a question to one text -/
def spStrB (f : Str → Bool) : Sp := fun vs H Q _ => ∃ z : Str, vs = [.str z] ∧ z.length ≤ 100000 ∧ ∀ H', Kp [] H H' → Q (.bl (f z)) H'
theorem spStrB_len (f : Str → Bool) : ∀ vs H Q E, spStrB f vs H Q E → vs.length = 1 := fun vs H Q E h => by obtain ⟨z, rfl, _⟩ := h; rfl
theorem split_small {z y : Str} (h : z.length ≤ 100000) (hy : 0 < y.length) : (Txt.split z y).length ≤ 100001 := by have := split_many (x := z) y hy; omega
theorem all_bl {α : Type} (ys : List α) (f : α → Bool) : (ys.map fun y => V.bl (f y)) = (ys.map f).map V.bl := by simp [Function.comp_def]
theorem all_id {α : Type} (ys : List α) (f : α → Bool) : (ys.map f).all id = ys.all f := by simp [List.all_map, Function.comp_def]
theorem fil_true {α : Type} (ys : List α) : ys.filter (fun _ => true) = ys := by simp
theorem join_ne_nil {z y : Str} : (Txt.split z y) ≠ [] ∨ z = PySem.Str.ofString "" := by
  by_cases h : Txt.split z y = []
  · right
    have e := StrLaws.join_split z y
    rw [h] at e
    rw [← e]
    rfl
  · exact .inl h
section
variable {P : Program} {w : World} {K : PySem.W.Frag} {mg : Str → Option Value} {base : Heap}
theorem sc_is_name : FnScope ["text", "sign"] ["text"] (defScope s_is_name) := ⟨rfl, rfl, rfl, by decide +kernel, rfl, by decide +kernel, by decide +kernel⟩
theorem bn_is_name : BindN "is_name" s_is_name ["text"] := fun _ _ _ _ _ _ us hl => match us, hl with | [_], _ => rfl
theorem b_is_name (T : TX K mg) : Body P w K mg base "is_name" s_is_name ["text", "sign"] 1 (spStrB isNameS) := by
  intro cdv A outer s H vs Q E h X hr
  obtain ⟨z, rfl, hz, q⟩ := h
  refine ⟨_, (pss_one (ps_ret (pe_and (pe_chain op_leU op_leU pe_int (pe_callB (cr_len (K := K)) rfl (T.free 1) PySem.boot_len (pa_cons (pv 0) pa_nil)) (pe_gInt (T.int 8))) (pe_one (pe_callB (cr_allU (K := K) rfl) rfl (T.free 6) (by decide +kernel) (pa_cons (pe_lc (own := [("sign", 1)]) rfl sc_is_name.nd (pi_str (pv 0)) (blkOk_by (N := ["text", "sign"]) (sc := defScope s_is_name) (by decide +kernel)) (fun _ _ _ _ _ => (pg_name (i := 1) sc_is_name.nd rfl (Or.inl rfl))) (fun _ _ _ _ _ => pts_nil) (fun _ _ _ _ _ => (pe_cmpR (op_inU (K := K)) (pv 1) (pe_gStr (T.str 7)) rfl))) pa_nil)))))), ?_⟩
  have no : ¬ (1 ≤ z.length ∧ z.length ≤ 8) → Q (.bl false) H := fun h => by
    have e : isNameS z = false := by unfold isNameS; by_cases h1 : 1 ≤ z.length <;> by_cases h2 : z.length ≤ 8 <;> simp [h1, h2] <;> exact absurd ⟨h1, h2⟩ h
    have := q H Kp.refl
    rw [e] at this
    exact this
  walk_at "st"
  refine c_ite (fun h1 => ?_) (fun h1 => ?_)
  · walk_at "st"
    refine c_ite (fun h2 => ?_) (fun h2 => ?_)
    · walk_at "st"
      refine lcS_map (fun c => V.bl (decide (c ∈ (PySem.Str.ofString "abcdefghijklmnopqrstuvwxyz0123456789").cps.toList))) (fun _ => true) (by omega) (fun c H' R S hc e k1 k2 => ?_) (fun Dl H' hD e hacc => ?_)
      · walk_at "st"
        refine ⟨rfl, ?_⟩
        walk_at "st"
        exact k1 rfl _ Kp.refl
      · rw [fil_true, all_bl] at hacc
        refine c_allB (SqL.of hacc) ?_
        rw [all_id]
        have g := q H' e
        have e2 : isNameS z = z.cps.toList.all fun c => decide (c ∈ (PySem.Str.ofString "abcdefghijklmnopqrstuvwxyz0123456789").cps.toList) := by
          unfold isNameS
          rw [decide_eq_true (by omega), decide_eq_true (by omega), Bool.true_and, Bool.true_and]
        rw [e2] at g
        exact g
    · walk_at "st"
      exact no (by omega)
  · walk_at "st"
    exact no (by omega)
theorem D_is_name (T : TX K mg) : DefAt P w K mg base CX0 "is_name" 2 ["text"] (spStrB isNameS) :=
  def_of T 3 9 sc_is_name bn_is_name (spStrB_len _) (b_is_name T)
theorem sc_is_path : FnScope ["text", "names", "name"] ["text"] (defScope s_is_path) := ⟨rfl, rfl, rfl, by decide +kernel, rfl, by decide +kernel, by decide +kernel⟩
theorem bn_is_path : BindN "is_path" s_is_path ["text"] := fun _ _ _ _ _ _ us hl => match us, hl with | [_], _ => rfl
theorem b_is_path (T : TX K mg) : Body P w K mg base "is_path" s_is_path ["text", "names", "name"] 2 (spStrB isPathS) := by
  intro cdv A outer s H vs Q E h X hr
  obtain ⟨z, rfl, hz, q⟩ := h
  have D_is_name : DefAt P w K mg base CX0 "is_name" 2 ["text"] (spStrB isNameS) := D_is_name T
  refine ⟨_, (pss_cons (ps_set (i := 1) sc_is_path.nd rfl (Or.inl rfl) (pe_splitU (pv 0) pe_str)) (pss_one (ps_ret (pe_and (pe_cmpR op_leU (pe_callB (cr_len (K := K)) rfl (T.free 1) PySem.boot_len (pa_cons (pv 1) pa_nil)) (pe_gInt (T.int 10)) (nomark _)) (pe_one (pe_callB (cr_allU (K := K) rfl) rfl (T.free 6) (by decide +kernel) (pa_cons (pe_lc (own := [("name", 2)]) rfl sc_is_path.nd (pi_listU (K := K) (pv 1)) (blkOk_by (N := ["text", "names", "name"]) (sc := defScope s_is_path) (by decide +kernel)) (fun _ _ _ _ _ => (pg_name (i := 2) sc_is_path.nd rfl (Or.inl rfl))) (fun _ _ _ _ _ => pts_nil) (fun _ _ _ _ _ => (pe_callA D_is_name hr pass0 (pa_cons (pv 2) pa_nil)))) pa_nil))))))), ?_⟩
  walk_at "st"
  refine c_split (by decide) (by rw [sizeLine_eq]; omega) fun p H1 N => ?_
  have hs := split_small (z := z) (y := PySem.Str.ofString "/") hz (by decide)
  walk_at "st"
  refine c_ite (fun h1 => ?_) (fun h1 => ?_)
  · walk_at "st"
    rw [List.length_map] at h1
    refine lcL_map (fun y => V.bl (isNameS y)) (fun _ => true) (SqL.of N.at_) (by omega) (fun y H' R S hy e k1 k2 => ?_) (fun Dl H' hD e hacc => ?_)
    · walk_at "st"
      refine ⟨rfl, ?_⟩
      walk_at "st"
      have hl := split_part hy
      exact ⟨y, rfl, by omega, fun H4 e4 => k1 rfl _ e4⟩
    · rw [fil_true, all_bl] at hacc
      refine c_allB (SqL.of hacc) ?_
      rw [all_id]
      have g := q H' (N.kp.trans e)
      unfold isPathS at g
      rw [decide_eq_true (by omega), Bool.true_and] at g
      exact g
  · walk_at "st"
    rw [List.length_map] at h1
    have g := q H1 N.kp
    unfold isPathS at g
    rw [decide_eq_false (by omega), Bool.false_and] at g
    exact g
theorem D_is_path (T : TX K mg) : DefAt P w K mg base CX0 "is_path" 3 ["text"] (spStrB isPathS) :=
  def_of T 4 11 sc_is_path bn_is_path (spStrB_len _) (b_is_path T)
theorem sc_is_place : FnScope ["text"] ["text"] (defScope s_is_place) := ⟨rfl, rfl, rfl, by decide +kernel, rfl, by decide +kernel, by decide +kernel⟩
theorem bn_is_place : BindN "is_place" s_is_place ["text"] := fun _ _ _ _ _ _ us hl => match us, hl with | [_], _ => rfl
theorem b_is_place (T : TX K mg) : Body P w K mg base "is_place" s_is_place ["text"] 3 (spStrB isPlaceS) := by
  intro cdv A outer s H vs Q E h X hr
  obtain ⟨z, rfl, hz, q⟩ := h
  have D_is_path : DefAt P w K mg base CX0 "is_path" 3 ["text"] (spStrB isPathS) := D_is_path T
  refine ⟨_, (pss_one (ps_ret (pe_or (pe_cmpR (op_eqU (K := K) hr.units) (pv 0) pe_str (nomark _)) (pe_one (pe_callA D_is_path hr pass0 (pa_cons (pv 0) pa_nil)))))), ?_⟩
  unfold isPlaceS at q
  walk_at "st"
  refine c_ite (fun h1 => ?_) (fun h1 => ?_)
  · walk_at "st"
    have g := q H Kp.refl
    rw [decide_eq_true h1, Bool.true_or] at g
    exact g
  · walk_at "st"
    refine ⟨z, rfl, hz, fun H4 e4 => ?_⟩
    have g := q H4 e4
    rw [decide_eq_false h1, Bool.false_or] at g
    exact g
theorem D_is_place (T : TX K mg) : DefAt P w K mg base CX0 "is_place" 4 ["text"] (spStrB isPlaceS) :=
  def_of T 5 12 sc_is_place bn_is_place (spStrB_len _) (b_is_place T)
theorem sc__is_plain : FnScope ["text", "sign"] ["text"] (defScope s__is_plain) := ⟨rfl, rfl, rfl, by decide +kernel, rfl, by decide +kernel, by decide +kernel⟩
theorem bn__is_plain : BindN "_is_plain" s__is_plain ["text"] := fun _ _ _ _ _ _ us hl => match us, hl with | [_], _ => rfl
theorem b__is_plain (T : TX K mg) : Body P w K mg base "_is_plain" s__is_plain ["text", "sign"] 1 (spStrB isPlainS) := by
  intro cdv A outer s H vs Q E h X hr
  obtain ⟨z, rfl, hz, q⟩ := h
  refine ⟨_, (pss_cons (ps_for PassesOwn.never rfl (pi_str (pv 0)) (pg_name (i := 1) sc__is_plain.nd rfl (Or.inl rfl)) (pss_one (ps_if (PW.pt (pw_or (pt_not (pt_chain op_leU op_leU pe_str (pv 1) pe_str)) (pw_or (pt_cmpR (op_eqU (K := K) hr.units) (pv 1) pe_str (nomark _)) (pw_or1 (pt_cmpR (op_eqU (K := K) hr.units) (pe_callB cr_ord rfl (T.free 13) (by decide +kernel) (pa_cons (pv 1) pa_nil)) (pe_gInt (T.int 14)) (nomark _)))))) (pss_one (ps_ret pe_bl)) pss_nil))) (pss_one (ps_ret pe_bl))), ?_⟩
  walk_at "st"
  refine forS (fun i σ H' => ∃ v, σ = [some (.str z), v] ∧ H = H' ∧ (z.cps.toList.take i).all plainC = true) ⟨_, rfl, rfl, rfl⟩ ?_ ?_
  · rintro i c σ _ hc ⟨v, rfl, rfl, hg⟩
    have yes : plainC c = true → (z.cps.toList.take (i + 1)).all plainC = true := fun h => by rw [take_succ' hc, List.all_append, hg]; simp [h]
    have no : plainC c = false → Q (.bl false) H := fun h => by
      have e : isPlainS z = false := by
        cases q2 : isPlainS z with
        | false => rfl
        | true => rw [List.all_eq_true.mp q2 c (List.mem_of_getElem? hc)] at h; cases h
      have g := q H Kp.refl
      rw [e] at g
      exact g
    have e1 : PySem.Str.ofString " " = ⟨#[32]⟩ := by decide +kernel
    have e2 : PySem.Str.ofString "~" = ⟨#[126]⟩ := by decide +kernel
    have e3 : PySem.Str.ofString "\"" = ⟨#[34]⟩ := by decide +kernel
    have e4 : (⟨#[c]⟩ : Str) = ⟨#[34]⟩ ↔ c = 34 := ⟨fun h => by injection h with h; simpa using h, fun h => by rw [h]⟩
    rw [e1, e2, e3]
    walk_at "st"
    refine c_leC ?_
    walk_at "st"
    refine c_ite (fun h1 => ?_) (fun h1 => ?_)
    · walk_at "st"
      refine c_leC ?_
      walk_at "st"
      refine c_iteN (fun h2 => ?_) (fun h2 => ?_)
      · walk_at "st"
        exact no (by unfold plainC; rw [decide_eq_false h2, Bool.and_false]; rfl)
      · walk_at "st"
        refine c_ite (fun h3 => ?_) (fun h3 => ?_)
        · walk_at "st"
          exact no (by unfold plainC; rw [decide_eq_true (e4.mp h3)]; simp)
        · walk_at "st"
          have h3' : c ≠ 34 := fun h => h3 (e4.mpr h)
          refine c_ite (fun h4 => ?_) (fun h4 => ?_)
          · walk_at "st"
            exact no (by unfold plainC; rw [decide_eq_true (p := c = 37) (by omega)]; simp)
          · walk_at "st"
            exact ⟨_, rfl, rfl, yes (by unfold plainC; simp [h1, h2, h3']; omega)⟩
    · walk_at "st"
      exact no (by unfold plainC; rw [decide_eq_false h1]; rfl)
  · rintro σ _ ⟨v, rfl, rfl, hg⟩
    walk_at "st"
    rw [List.take_length] at hg
    have g := q H Kp.refl
    rw [show isPlainS z = true from hg] at g
    exact g
theorem D__is_plain (T : TX K mg) : DefAt P w K mg base CX0 "_is_plain" 2 ["text"] (spStrB isPlainS) :=
  def_of T 6 15 sc__is_plain bn__is_plain (spStrB_len _) (b__is_plain T)
theorem sc_is_line : FnScope ["text"] ["text"] (defScope s_is_line) := ⟨rfl, rfl, rfl, by decide +kernel, rfl, by decide +kernel, by decide +kernel⟩
theorem bn_is_line : BindN "is_line" s_is_line ["text"] := fun _ _ _ _ _ _ us hl => match us, hl with | [_], _ => rfl
theorem b_is_line (T : TX K mg) : Body P w K mg base "is_line" s_is_line ["text"] 2 (spStrB isLineS) := by
  intro cdv A outer s H vs Q E h X hr
  obtain ⟨z, rfl, hz, q⟩ := h
  have D__is_plain : DefAt P w K mg base CX0 "_is_plain" 2 ["text"] (spStrB isPlainS) := D__is_plain T
  refine ⟨_, (pss_one (ps_ret (pe_and (pe_cmpR op_leU (pe_callB (cr_len (K := K)) rfl (T.free 1) PySem.boot_len (pa_cons (pv 0) pa_nil)) (pe_gInt (T.int 16)) (nomark _)) (pe_one (pe_callA D__is_plain hr pass0 (pa_cons (pv 0) pa_nil)))))), ?_⟩
  unfold isLineS at q
  walk_at "st"
  refine c_ite (fun h1 => ?_) (fun h1 => ?_)
  · walk_at "st"
    refine ⟨z, rfl, hz, fun H4 e4 => ?_⟩
    have g := q H4 e4
    rw [decide_eq_true (by omega), Bool.true_and] at g
    exact g
  · walk_at "st"
    have g := q H Kp.refl
    rw [decide_eq_false (by omega), Bool.false_and] at g
    exact g
theorem D_is_line (T : TX K mg) : DefAt P w K mg base CX0 "is_line" 3 ["text"] (spStrB isLineS) :=
  def_of T 7 17 sc_is_line bn_is_line (spStrB_len _) (b_is_line T)
theorem sc_is_word : FnScope ["text"] ["text"] (defScope s_is_word) := ⟨rfl, rfl, rfl, by decide +kernel, rfl, by decide +kernel, by decide +kernel⟩
theorem bn_is_word : BindN "is_word" s_is_word ["text"] := fun _ _ _ _ _ _ us hl => match us, hl with | [_], _ => rfl
theorem b_is_word (T : TX K mg) : Body P w K mg base "is_word" s_is_word ["text"] 2 (spStrB isWordS) := by
  intro cdv A outer s H vs Q E h X hr
  obtain ⟨z, rfl, hz, q⟩ := h
  have D__is_plain : DefAt P w K mg base CX0 "_is_plain" 2 ["text"] (spStrB isPlainS) := D__is_plain T
  refine ⟨_, (pss_one (ps_ret (pe_and (pe_chain op_leU op_leU pe_int (pe_callB (cr_len (K := K)) rfl (T.free 1) PySem.boot_len (pa_cons (pv 0) pa_nil)) (pe_gInt (T.int 18))) (pe_one (pe_callA D__is_plain hr pass0 (pa_cons (pv 0) pa_nil)))))), ?_⟩
  unfold isWordS at q
  walk_at "st"
  refine c_ite (fun h1 => ?_) (fun h1 => ?_)
  · walk_at "st"
    refine c_ite (fun h2 => ?_) (fun h2 => ?_)
    · walk_at "st"
      refine ⟨z, rfl, hz, fun H4 e4 => ?_⟩
      have g := q H4 e4
      rw [decide_eq_true (by omega), decide_eq_true (by omega), Bool.true_and, Bool.true_and] at g
      exact g
    · walk_at "st"
      have g := q H Kp.refl
      rw [decide_eq_false (p := z.length ≤ 12) (by omega), Bool.and_false, Bool.false_and] at g
      exact g
  · walk_at "st"
    have g := q H Kp.refl
    rw [decide_eq_false (by omega), Bool.false_and] at g
    exact g
theorem D_is_word (T : TX K mg) : DefAt P w K mg base CX0 "is_word" 3 ["text"] (spStrB isWordS) :=
  def_of T 8 19 sc_is_word bn_is_word (spStrB_len _) (b_is_word T)
theorem sc_is_lines : FnScope ["lines", "line"] ["lines"] (defScope s_is_lines) := ⟨rfl, rfl, rfl, by decide +kernel, rfl, by decide +kernel, by decide +kernel⟩
theorem bn_is_lines : BindN "is_lines" s_is_lines ["lines"] := fun _ _ _ _ _ _ us hl => match us, hl with | [_], _ => rfl
def spLines (K : PySem.W.Frag) : Sp := fun vs H Q _ => ∃ (a : Addr) (ys : List Str), vs = [.ref a] ∧ SqT K H a (ys.map V.str) ∧ ys.length ≤ 1000 ∧ (∀ y ∈ ys, y.length ≤ 100000) ∧ ∀ H', Kp [] H H' → Q (.bl (isLinesS ys)) H'
theorem b_is_lines (T : TX K mg) : Body P w K mg base "is_lines" s_is_lines ["lines", "line"] 3 (spLines K) := by
  intro cdv A outer s H vs Q E h X hr
  obtain ⟨a, ys, rfl, hs, hn, hl, q⟩ := h
  have D_is_line : DefAt P w K mg base CX0 "is_line" 3 ["text"] (spStrB isLineS) := D_is_line T
  refine ⟨_, (pss_one (ps_ret (pe_and (pe_cmpR op_leU (pe_callB (cr_len (K := K)) rfl (T.free 1) PySem.boot_len (pa_cons (pv 0) pa_nil)) (pe_gInt (T.int 20)) (nomark _)) (pe_one (pe_callB (cr_allU (K := K) rfl) rfl (T.free 6) (by decide +kernel) (pa_cons (pe_lc (own := [("line", 1)]) rfl sc_is_lines.nd (pi_tupU (K := K) (pv 0)) (blkOk_by (N := ["lines", "line"]) (sc := defScope s_is_lines) (by decide +kernel)) (fun _ _ _ _ _ => (pg_name (i := 1) sc_is_lines.nd rfl (Or.inl rfl))) (fun _ _ _ _ _ => pts_nil) (fun _ _ _ _ _ => (pe_callA D_is_line hr pass0 (pa_cons (pv 1) pa_nil)))) pa_nil)))))), ?_⟩
  unfold isLinesS at q
  walk_at "st"
  refine c_ite (fun h1 => ?_) (fun h1 => ?_)
  · walk_at "st"
    rw [List.length_map] at h1
    refine lcT_map (fun y => V.bl (isLineS y)) (fun _ => true) hs (by omega) (fun y H' R S hy e k1 k2 => ?_) (fun Dl H' hD e hacc => ?_)
    · walk_at "st"
      refine ⟨rfl, ?_⟩
      walk_at "st"
      exact ⟨y, rfl, hl y hy, fun H4 e4 => k1 rfl _ e4⟩
    · rw [fil_true, all_bl] at hacc
      refine c_allB (SqL.of hacc) ?_
      rw [all_id]
      have g := q H' e
      rw [decide_eq_true (by omega), Bool.true_and] at g
      exact g
  · walk_at "st"
    rw [List.length_map] at h1
    have g := q H Kp.refl
    rw [decide_eq_false (by omega), Bool.false_and] at g
    exact g
theorem D_is_lines (T : TX K mg) : DefAt P w K mg base CX0 "is_lines" 4 ["lines"] (spLines K) :=
  def_of T 9 21 sc_is_lines bn_is_lines (fun vs H Q E h => by obtain ⟨z, ys, rfl, _⟩ := h; rfl) (b_is_lines T)
theorem sc_is_inside : FnScope ["path", "place"] ["path", "place"] (defScope s_is_inside) := ⟨rfl, rfl, rfl, by decide +kernel, rfl, by decide +kernel, by decide +kernel⟩
theorem bn_is_inside : BindN "is_inside" s_is_inside ["path", "place"] := fun _ _ _ _ _ _ us hl => match us, hl with | [_, _], _ => rfl
def spInside : Sp := fun vs H Q _ => ∃ x y : Str, vs = [.str x, .str y] ∧ y.length ≤ 100000 ∧ Q (.bl (isInsideS x y)) H
theorem b_is_inside (T : TX K mg) : Body P w K mg base "is_inside" s_is_inside ["path", "place"] 1 spInside := by
  intro cdv A outer s H vs Q E h X hr
  obtain ⟨x, y, rfl, hz, q⟩ := h
  refine ⟨_, (pss_one (ps_ret (pe_or (pe_cmpR (op_eqU (K := K) hr.units) (pv 1) pe_str (nomark _)) (pe_one (pe_m1 PySem.F.slot_str_startswith PySem.F.type_str_startswith mt_startsU (pv 0) (pe_op (op_addU (K := K)) (pv 1) pe_str)))))), ?_⟩
  unfold isInsideS at q
  walk_at "st"
  refine c_ite (fun h1 => ?_) (fun h1 => ?_)
  · walk_at "st"
    rw [decide_eq_true h1, Bool.true_or] at q
    exact q
  · walk_at "st"
    refine c_addS (by rw [sizeLine_eq]; have : (PySem.Str.ofString "/").length = 1 := by decide
                      omega) ?_
    refine c_starts ?_
    rw [decide_eq_false h1, Bool.false_or] at q
    exact q
theorem D_is_inside (T : TX K mg) : DefAt P w K mg base CX0 "is_inside" 2 ["path", "place"] spInside :=
  def_of T 10 22 sc_is_inside bn_is_inside (fun vs H Q E h => by obtain ⟨z, ys, rfl, _⟩ := h; rfl) (b_is_inside T)
end
end K01



namespace K01
open PySem L2 Sa
section
variable {P : Program} {w : World} {K : PySem.W.Frag} {mg : Str → Option Value} {base : Heap}
theorem sc__law_alike : FnScope ["_law_one", "_law_two"] ["_law_one", "_law_two"] (defScope s__law_alike) := ⟨rfl, rfl, rfl, by decide +kernel, rfl, by decide +kernel, by decide +kernel⟩
theorem bn__law_alike : BindN "_law_alike" s__law_alike ["_law_one", "_law_two"] := fun _ _ _ _ _ _ us hl => match us, hl with | [_, _], _ => rfl
def spAlike (K : PySem.W.Frag) : Sp := fun vs H Q _ => ∃ (x y : V) (d : PyData), vs = [x, y] ∧ Dp K H x d ∧ Dp K H y d ∧ Nice d ∧ Q (.bl true) H
theorem b__law_alike (T : TX K mg) : BodyG P w K mg base "_law_alike" s__law_alike ["_law_one", "_law_two"] 1 (spAlike K) := by
  intro cdv A outer s H vs Q E h X hr hg
  obtain ⟨x, y, d, rfl, hx, hy, nd, q⟩ := h
  refine ⟨_, (pss_one (ps_ret (pe_cmpR (op_eqU (K := K) hr.units) (pe_callB (cr_reprD (K := K) hg (un100 hr)) rfl (T.free 23) (by decide +kernel) (pa_cons (pv 0) pa_nil)) (pe_callB (cr_reprD (K := K) hg (un100 hr)) rfl (T.free 23) (by decide +kernel) (pa_cons (pv 1) pa_nil)) (nomark _)))), ?_⟩
  walk_at "st"
  refine c_repr hx nd ?_
  walk_at "st"
  refine c_repr hy nd ?_
  walk_at "st"
  rw [decide_eq_true rfl]
  exact q
theorem D__law_alike (T : TX K mg) : DefG P w K mg base "_law_alike" 2 ["_law_one", "_law_two"] (spAlike K) :=
  defG_of T 11 24 sc__law_alike bn__law_alike (fun vs H Q E h => by obtain ⟨b, d, _, rfl, _⟩ := h; rfl) (b__law_alike T)
end
end K01



namespace K01
open PySem L2 Sa
/-! the law's paths and lines -/
def pathNames : List Str := ["a", "b", "ab", "x1"]
def lineTexts : List Str := ["x", "y", "x y", "", "todo", "yx", "note the x", "12345678901234567890"]
/-- a path that the law draws -/
structure Pth (z : Str) : Prop where
  ex : ∃ ns : List Str, z = Txt.join (PySem.Str.ofString "/") ns ∧ 1 ≤ ns.length ∧ ns.length ≤ 3 ∧ ∀ n ∈ ns, n ∈ pathNames
theorem pathNames_len : ∀ n ∈ pathNames, n.length ≤ 2 := by decide +kernel
theorem sum_le {m : Nat} : ∀ {ns : List Str}, (∀ n ∈ ns, n.length ≤ m) → (ns.map (·.length)).sum ≤ ns.length * m
  | [], _ => Nat.zero_le _
  | n :: r, h => by
    have h1 := h n (List.mem_cons_self ..)
    have h2 := sum_le (ns := r) fun z hz => h z (List.mem_cons_of_mem _ hz)
    simp only [List.map_cons, List.sum_cons, List.length_cons, Nat.add_mul, Nat.one_mul]
    omega
theorem Pth.len {z : Str} (h : Pth z) : z.length ≤ 8 := by
  obtain ⟨ns, rfl, h1, h2, h3⟩ := h.ex
  rw [tjoin, ← join_len]
  have e1 := sum_le (m := 2) fun n hn => pathNames_len n (h3 n hn)
  have e2 : (PySem.Str.ofString "/").length = 1 := by decide
  rw [e2]
  omega
theorem pathNames_pos : ∀ n ∈ pathNames, 1 ≤ n.length := by decide +kernel
theorem Pth.pos {z : Str} (h : Pth z) : 1 ≤ z.length := by
  obtain ⟨ns, rfl, h1, h2, h3⟩ := h.ex
  rw [tjoin, ← join_len]
  cases ns with
  | nil => simp at h1
  | cons n r =>
    have := pathNames_pos n (h3 n (List.mem_cons_self ..))
    simp only [List.map_cons, List.sum_cons]
    omega
theorem Pth.parts {z : Str} (h : Pth z) (y : Str) : 1 ≤ (Txt.split z y).length := by
  cases e : Txt.split z y with
  | nil =>
    have j := StrLaws.join_split z y
    rw [e] at j
    have := h.pos
    rw [← j] at this
    exact absurd this (by show ¬ 1 ≤ 0; omega)
  | cons a r => simp
section
variable {P : Program} {w : World} {K : PySem.W.Frag} {mg : Str → Option Value} {base : Heap}
theorem sc__law_path : FnScope ["_law_box", "_law_depth", "_law_k"] ["_law_box"] (defScope s__law_path) := ⟨rfl, rfl, rfl, by decide +kernel, rfl, by decide +kernel, by decide +kernel⟩
theorem bn__law_path : BindN "_law_path" s__law_path ["_law_box"] := fun _ _ _ _ _ _ us hl => match us, hl with | [_], _ => rfl
def spPath : Sp := fun vs H Q _ => ∃ (b d : Addr), vs = [.ref b] ∧ Bx H b d ∧ ∀ z H', Pth z → Kp [b] H H' → Bx H' b d → Q (.str z) H'
theorem b__law_path (T : TX K mg) : Body P w K mg base "_law_path" s__law_path ["_law_box", "_law_depth", "_law_k"] 2 spPath := by
  intro cdv A outer s H vs Q E h X hr
  obtain ⟨b, d, rfl, B, q⟩ := h
  have D__law_draw : DefAt P w K mg base CX0 "_law_draw" 2 ["_law_box", "_law_many"] spDraw := D__law_draw T
  refine ⟨_, (pss_cons (ps_set (i := 1) sc__law_path.nd rfl (Or.inl rfl) (pe_ix (ix_U (K := K)) (pe_lst (pa_cons pe_int (pa_cons pe_int (pa_cons pe_int (pa_cons pe_int pa_nil))))) (pe_callA D__law_draw hr pass0 (pa_cons (pv 0) (pa_cons pe_int pa_nil))) (fun _ _ => rfl))) (pss_one (ps_ret (pe_joinU (K := K) pe_str (pe_lc (own := [("_law_k", 2)]) rfl sc__law_path.nd (pi_range1 rfl (T.free 4) (pa_cons (pv 1) pa_nil)) (blkOk_by (N := ["_law_box", "_law_depth", "_law_k"]) (sc := defScope s__law_path) (by decide +kernel)) (fun _ _ _ _ _ => (pg_name (i := 2) sc__law_path.nd rfl (Or.inl rfl))) (fun _ _ _ _ _ => pts_nil) (fun _ _ _ _ _ => (pe_ix (ix_U (K := K)) (pe_lst (pa_cons pe_str (pa_cons pe_str (pa_cons pe_str (pa_cons pe_str pa_nil))))) (pe_callA D__law_draw hr pass0 (pa_cons (pv 0) (pa_cons pe_int pa_nil))) (fun _ _ => rfl)))))))), ?_⟩
  walk_at "st"
  walk_at "nw"
  intro p H1 N
  walk_at "st"
  refine ⟨b, d, 4, rfl, B.nw N, by decide, fun i H2 h0 h1 e2 B2 => ?_⟩
  refine c_pickM (u := V.int) [1, 2, 2, 3] (B.pick N e2) h0 h1 fun dp hdp => ?_
  have hdp : 1 ≤ dp ∧ dp ≤ 3 := by
    simp only [List.mem_cons, List.not_mem_nil, or_false] at hdp
    omega
  walk_at "st"
  refine lcR_draw V.str (fun z => z ∈ pathNames) B2 (by omega) (fun i H' R S hi e B3 k => ?_) (fun Dl H' ns hD hlen hP e B3 hacc => ?_)
  · walk_at "st"
    refine ⟨rfl, ?_⟩
    walk_at "st"
    walk_at "nw"
    intro p2 H4 N4
    walk_at "st"
    refine ⟨b, d, 4, rfl, B3.nw N4, by decide, fun j H5 g0 g1 e5 B5 => ?_⟩
    exact c_pickM (u := V.str) pathNames (B3.pick N4 e5) g0 g1 fun z hz => k z H5 hz (N4.kp.trans e5) B5
  · have hp : Pth (Txt.join (PySem.Str.ofString "/") ns) := ⟨ns, rfl, by omega, by omega, hP⟩
    refine c_join (ys := ns) (SqL.of hacc) ?_ (q _ _ hp ((N.kp.trans e2).trans e) B3)
    have e1 := sum_le (m := 2) fun n hn => pathNames_len n (hP n hn)
    have e2 : (PySem.Str.ofString "/").length = 1 := by decide
    rw [e2]
    omega
theorem D__law_path (T : TX K mg) : DefAt P w K mg base CX0 "_law_path" 3 ["_law_box"] spPath :=
  def_of T 12 25 sc__law_path bn__law_path (fun vs H Q E h => by obtain ⟨b, d, rfl, _⟩ := h; rfl) (b__law_path T)
theorem sc__law_line : FnScope ["_law_box"] ["_law_box"] (defScope s__law_line) := ⟨rfl, rfl, rfl, by decide +kernel, rfl, by decide +kernel, by decide +kernel⟩
theorem bn__law_line : BindN "_law_line" s__law_line ["_law_box"] := fun _ _ _ _ _ _ us hl => match us, hl with | [_], _ => rfl
def spLine : Sp := fun vs H Q _ => ∃ (b d : Addr), vs = [.ref b] ∧ Bx H b d ∧ ∀ z H', z ∈ lineTexts → Kp [b] H H' → Bx H' b d → Q (.str z) H'
theorem b__law_line (T : TX K mg) : Body P w K mg base "_law_line" s__law_line ["_law_box"] 2 spLine := by
  intro cdv A outer s H vs Q E h X hr
  obtain ⟨b, d, rfl, B, q⟩ := h
  have D__law_draw : DefAt P w K mg base CX0 "_law_draw" 2 ["_law_box", "_law_many"] spDraw := D__law_draw T
  refine ⟨_, (pss_one (ps_ret (pe_ix (ix_U (K := K)) (pe_lst (pa_cons pe_str (pa_cons pe_str (pa_cons pe_str (pa_cons pe_str (pa_cons pe_str (pa_cons pe_str (pa_cons pe_str (pa_cons pe_str pa_nil))))))))) (pe_callA D__law_draw hr pass0 (pa_cons (pv 0) (pa_cons pe_int pa_nil))) (fun _ _ => rfl)))), ?_⟩
  walk_at "st"
  walk_at "nw"
  intro p H1 N
  walk_at "st"
  refine ⟨b, d, 8, rfl, B.nw N, by decide, fun i H2 h0 h1 e2 B2 => ?_⟩
  exact c_pickM (u := V.str) lineTexts (B.pick N e2) h0 h1 fun z hz => q z H2 hz (N.kp.trans e2) B2
theorem D__law_line (T : TX K mg) : DefAt P w K mg base CX0 "_law_line" 3 ["_law_box"] spLine :=
  def_of T 13 26 sc__law_line bn__law_line (fun vs H Q E h => by obtain ⟨b, d, rfl, _⟩ := h; rfl) (b__law_line T)
end
end K01



namespace K01
open PySem L2 Sa
def signT (c : Nat) : Bool := decide (32 ≤ c) && decide (c ≤ 126) && !decide (c = 37)
def goodT (z : Str) : Bool := z.cps.toList.all signT
theorem goodT_app (a b : Str) : goodT (a ++ b) = (goodT a && goodT b) := by unfold goodT; rw [cps_app, List.all_append]
theorem goodT_rpt {z : Str} (n : Int) (h : goodT z = true) : goodT (rptS z n) = true := List.all_eq_true.mpr fun c hc => List.all_eq_true.mp h c (rptS_mem hc)
theorem goodT_ok {z : Str} (h : goodT z = true) : okS z = true := okS_iff.mpr fun c hc => by
  have := List.all_eq_true.mp h c hc
  simp only [signT, Bool.and_eq_true, decide_eq_true_eq] at this
  omega
theorem goodT_plain {z : Str} (h : goodT z = true) : isPlainS z = !decide (34 ∈ z.cps.toList) := by
  unfold isPlainS
  rw [Bool.eq_iff_iff, List.all_eq_true, Bool.not_eq_true', decide_eq_false_iff_not]
  constructor
  · intro g h34
    have := g 34 h34
    revert this
    decide
  · intro g c hc
    have := List.all_eq_true.mp h c hc
    have h34 : c ≠ 34 := fun e => g (e ▸ hc)
    simp only [signT, plainC, Bool.and_eq_true, decide_eq_true_eq, Bool.not_eq_true', decide_eq_false_iff_not] at this ⊢
    omega
structure Tx1 (z : Str) : Prop where
  len : z.length ≤ 30
  good : goodT z = true
def tx1 (z : Str) : Bool := decide (z.length ≤ 30) && goodT z
theorem Tx1.of {z : Str} (h : tx1 z = true) : Tx1 z := by
  simp only [tx1, Bool.and_eq_true, decide_eq_true_eq] at h
  exact ⟨h.1, h.2⟩
section
variable {P : Program} {w : World} {K : PySem.W.Frag} {mg : Str → Option Value} {base : Heap}
theorem sc__law_text : FnScope ["_law_box", "_law_kind", "_law_text_here", "_law_turn"] ["_law_box"] (defScope s__law_text) := ⟨rfl, rfl, rfl, by decide +kernel, rfl, by decide +kernel, by decide +kernel⟩
theorem bn__law_text : BindN "_law_text" s__law_text ["_law_box"] := fun _ _ _ _ _ _ us hl => match us, hl with | [_], _ => rfl
def spText : Sp := fun vs H Q _ => ∃ (b d : Addr), vs = [.ref b] ∧ Bx H b d ∧ ∀ z H', Tx1 z → Kp [b] H H' → Bx H' b d → Q (.str z) H'
def texts0 : List Str := ["", "a", "/", "a/", "/a", "a//b", "a/b/c", "a/b/c/d", "Ab", "a b", "a.b", "a-b", "123", "0/0"]
def texts2 : List Str := ["x", " ", "~", "Q"]
def texts3 : List Str := ["\"", "", "'", "/", "\\"]
def texts4 : List Str := ["a", "b", "0", "/", " ", "A", "_", "\""]
theorem b__law_text (T : TX K mg) : Body P w K mg base "_law_text" s__law_text ["_law_box", "_law_kind", "_law_text_here", "_law_turn"] 2 spText := by
  intro cdv A outer s H vs Q E h X hr
  obtain ⟨b, d, rfl, B, q⟩ := h
  have D__law_draw : DefAt P w K mg base CX0 "_law_draw" 2 ["_law_box", "_law_many"] spDraw := D__law_draw T
  refine ⟨_, (pss_cons (ps_set (i := 1) sc__law_text.nd rfl (Or.inl rfl) (pe_callA D__law_draw hr pass0 (pa_cons (pv 0) (pa_cons pe_int pa_nil)))) (pss_cons (ps_if (pt_cmpR (op_eqU (K := K) hr.units) (pv 1) pe_int (nomark _)) (pss_one (ps_ret (pe_ix (ix_U (K := K)) (pe_lst (pa_cons pe_str (pa_cons pe_str (pa_cons pe_str (pa_cons pe_str (pa_cons pe_str (pa_cons pe_str (pa_cons pe_str (pa_cons pe_str (pa_cons pe_str (pa_cons pe_str (pa_cons pe_str (pa_cons pe_str (pa_cons pe_str (pa_cons pe_str pa_nil))))))))))))))) (pe_callA D__law_draw hr pass0 (pa_cons (pv 0) (pa_cons pe_int pa_nil))) (fun _ _ => rfl)))) pss_nil) (pss_cons (ps_if (pt_cmpR (op_eqU (K := K) hr.units) (pv 1) pe_int (nomark _)) (pss_one (ps_ret (pe_op (op_addU (K := K)) (pe_op (op_mulU (K := K)) pe_str (pe_op (op_addU (K := K)) pe_int (pe_callA D__law_draw hr pass0 (pa_cons (pv 0) (pa_cons pe_int pa_nil))))) (pe_ix (ix_U (K := K)) (pe_lst (pa_cons pe_str (pa_cons pe_str (pa_cons (pe_op (op_addU (K := K)) pe_str (pe_op (op_mulU (K := K)) pe_str (pe_op (op_addU (K := K)) pe_int (pe_callA D__law_draw hr pass0 (pa_cons (pv 0) (pa_cons pe_int pa_nil)))))) pa_nil)))) (pe_callA D__law_draw hr pass0 (pa_cons (pv 0) (pa_cons pe_int pa_nil))) (fun _ _ => rfl))))) pss_nil) (pss_cons (ps_if (pt_cmpR (op_eqU (K := K) hr.units) (pv 1) pe_int (nomark _)) (pss_one (ps_ret (pe_op (op_mulU (K := K)) (pe_ix (ix_U (K := K)) (pe_lst (pa_cons pe_str (pa_cons pe_str (pa_cons pe_str (pa_cons pe_str pa_nil))))) (pe_callA D__law_draw hr pass0 (pa_cons (pv 0) (pa_cons pe_int pa_nil))) (fun _ _ => rfl)) (pe_ix (ix_U (K := K)) (pe_lst (pa_cons pe_int (pa_cons pe_int (pa_cons pe_int (pa_cons pe_int (pa_cons pe_int (pa_cons pe_int (pa_cons pe_int (pa_cons pe_int pa_nil))))))))) (pe_callA D__law_draw hr pass0 (pa_cons (pv 0) (pa_cons pe_int pa_nil))) (fun _ _ => rfl))))) pss_nil) (pss_cons (ps_if (pt_cmpR (op_eqU (K := K) hr.units) (pv 1) pe_int (nomark _)) (pss_one (ps_ret (pe_op (op_addU (K := K)) pe_str (pe_ix (ix_U (K := K)) (pe_lst (pa_cons pe_str (pa_cons pe_str (pa_cons pe_str (pa_cons pe_str (pa_cons pe_str pa_nil)))))) (pe_callA D__law_draw hr pass0 (pa_cons (pv 0) (pa_cons pe_int pa_nil))) (fun _ _ => rfl))))) pss_nil) (pss_cons (ps_set (i := 2) sc__law_text.nd rfl (Or.inl rfl) pe_str) (pss_cons (ps_for PassesOwn.never rfl (pi_range1 rfl (T.free 4) (pa_cons (pe_callA D__law_draw hr pass0 (pa_cons (pv 0) (pa_cons pe_int pa_nil))) pa_nil)) (pg_name (i := 3) sc__law_text.nd rfl (Or.inl rfl)) (pss_one (ps_set (i := 2) sc__law_text.nd rfl (Or.inl rfl) (pe_op (op_addU (K := K)) (pv 2) (pe_ix (ix_U (K := K)) (pe_lst (pa_cons pe_str (pa_cons pe_str (pa_cons pe_str (pa_cons pe_str (pa_cons pe_str (pa_cons pe_str (pa_cons pe_str (pa_cons pe_str pa_nil))))))))) (pe_callA D__law_draw hr pass0 (pa_cons (pv 0) (pa_cons pe_int pa_nil))) (fun _ _ => rfl)))))) (pss_one (ps_ret (pv 2)))))))))), ?_⟩
  walk_at "st"
  refine ⟨b, d, _, rfl, B, by decide, fun i H1 h0 h1 e1 B1 => ?_⟩
  walk_at "st"
  refine c_ite (fun g0 => ?_) (fun g0 => ?_)
  · walk_at "st"
    walk_at "nw"
    intro p H2 N
    walk_at "st"
    refine ⟨b, d, _, rfl, B1.nw N, by decide, fun j H3 j0 j1 e3 B3 => ?_⟩
    exact c_pickM (u := V.str) texts0 (B1.pick N e3) j0 j1 fun z hz => q z H3 (.of ((by decide +kernel : ∀ z ∈ texts0, tx1 z = true) z hz)) (e1.trans (N.kp.trans e3)) B3
  walk_at "st"
  refine c_ite (fun g1 => ?_) (fun g1 => ?_)
  · walk_at "st"
    refine ⟨b, d, _, rfl, B1, by decide, fun j H3 j0 j1 e3 B3 => ?_⟩
    walk_at "st"
    refine c_mulS (by omega) (by omega) (by have : (PySem.Str.ofString "a").length = 1 := by decide
                                            rw [this, sizeLine_eq]; omega) ?_
    walk_at "st"
    refine ⟨b, d, _, rfl, B3, by decide, fun k H4 k0 k1 e4 B4 => ?_⟩
    walk_at "st"
    refine c_mulS (by omega) (by omega) (by have : (PySem.Str.ofString "c").length = 1 := by decide
                                            rw [this, sizeLine_eq]; omega) ?_
    have lc : (rptS (PySem.Str.ofString "c") (7 + k)).length ≤ 9 := by
      rw [rptS_len]
      have : (PySem.Str.ofString "c").length = 1 := by decide
      rw [this]; omega
    have la : (rptS (PySem.Str.ofString "a") (7 + j)).length ≤ 9 := by
      rw [rptS_len]
      have : (PySem.Str.ofString "a").length = 1 := by decide
      rw [this]; omega
    have l1 : (PySem.Str.ofString "/").length = 1 := by decide
    refine c_addS (by rw [l1, sizeLine_eq]; omega) ?_
    walk_at "st"
    walk_at "nw"
    intro p H5 N
    walk_at "st"
    refine ⟨b, d, _, rfl, B4.nw N, by decide, fun m H6 m0 m1 e6 B6 => ?_⟩
    refine c_pickM (u := V.str) ["", "/b", PySem.Str.ofString "/" ++ rptS (PySem.Str.ofString "c") (7 + k)] (B4.pick N e6) m0 m1 fun z hz => ?_
    have hz2 : z.length ≤ 10 ∧ goodT z = true := by
      simp only [List.mem_cons, List.not_mem_nil, or_false] at hz
      rcases hz with rfl | rfl | rfl
      · decide +kernel
      · decide +kernel
      · exact ⟨by rw [str_app_len, l1]; omega, by rw [goodT_app, goodT_rpt _ (by decide +kernel)]; decide +kernel⟩
    refine c_addS (by rw [sizeLine_eq]; omega) ?_
    refine q _ H6 ⟨by rw [str_app_len]; omega, by rw [goodT_app, goodT_rpt _ (by decide +kernel), hz2.2]; rfl⟩ (((e1.trans e3).trans e4).trans (N.kp.trans e6)) B6
  walk_at "st"
  refine c_ite (fun g2 => ?_) (fun g2 => ?_)
  · walk_at "st"
    walk_at "nw"
    intro p H2 N
    walk_at "st"
    refine ⟨b, d, _, rfl, B1.nw N, by decide, fun j H3 j0 j1 e3 B3 => ?_⟩
    refine c_pickM (u := V.str) texts2 (B1.pick N e3) j0 j1 fun z hz => ?_
    have hz2 : decide (z.length = 1) && goodT z = true := (by decide +kernel : ∀ z ∈ texts2, decide (z.length = 1) && goodT z = true) z hz
    simp only [Bool.and_eq_true, decide_eq_true_eq] at hz2
    walk_at "st"
    walk_at "nw"
    intro p2 H4 N2
    walk_at "st"
    refine ⟨b, d, _, rfl, B3.nw N2, by decide, fun k H5 k0 k1 e5 B5 => ?_⟩
    refine c_pickM (u := V.int) [0, 1, 11, 12, 13, 19, 20, 21] (B3.pick N2 e5) k0 k1 fun n hn => ?_
    have hn : 0 ≤ n ∧ n ≤ 21 := by
      simp only [List.mem_cons, List.not_mem_nil, or_false] at hn
      omega
    refine c_mulS (by omega) (by omega) (by rw [hz2.1, sizeLine_eq]; omega) ?_
    exact q _ H5 ⟨by rw [rptS_len, hz2.1]; omega, goodT_rpt _ hz2.2⟩ ((e1.trans (N.kp.trans e3)).trans (N2.kp.trans e5)) B5
  walk_at "st"
  refine c_ite (fun g3 => ?_) (fun g3 => ?_)
  · walk_at "st"
    walk_at "nw"
    intro p H2 N
    walk_at "st"
    refine ⟨b, d, _, rfl, B1.nw N, by decide, fun j H3 j0 j1 e3 B3 => ?_⟩
    refine c_pickM (u := V.str) texts3 (B1.pick N e3) j0 j1 fun z hz => ?_
    have hz2 : decide (z.length ≤ 1) && goodT z = true := (by decide +kernel : ∀ z ∈ texts3, decide (z.length ≤ 1) && goodT z = true) z hz
    simp only [Bool.and_eq_true, decide_eq_true_eq] at hz2
    have l5 : (PySem.Str.ofString "note ").length = 5 := by decide
    refine c_addS (by rw [l5, sizeLine_eq]; omega) ?_
    exact q _ H3 ⟨by rw [str_app_len, l5]; omega, by rw [goodT_app, hz2.2]; decide +kernel⟩ (e1.trans (N.kp.trans e3)) B3
  walk_at "st"
  refine ⟨b, d, _, rfl, B1, by decide, fun n H2 n0 n1 e2 B2 => ?_⟩
  walk_at "st"
  refine forR (fun i σ H' => ∃ (v : Option V) (k : Int) (z : Str), σ = [some (.ref b), some (.int k), some (.str z), v] ∧ Kp [b] H H' ∧ Bx H' b d ∧ z.length ≤ i ∧ goodT z = true) ⟨_, _, _, rfl, e1.trans e2, B2, by decide, by decide +kernel⟩ ?_ ?_
  · rintro m σ H3 hm ⟨v, k, z, rfl, e3, B3, hl, hg⟩
    walk_at "st"
    walk_at "nw"
    intro p H4 N
    walk_at "st"
    refine ⟨b, d, _, rfl, B3.nw N, by decide, fun j H5 j0 j1 e5 B5 => ?_⟩
    refine c_pickM (u := V.str) texts4 (B3.pick N e5) j0 j1 fun y hy => ?_
    have hy2 : decide (y.length = 1) && goodT y = true := (by decide +kernel : ∀ z ∈ texts4, decide (z.length = 1) && goodT z = true) y hy
    simp only [Bool.and_eq_true, decide_eq_true_eq] at hy2
    refine c_addS (by rw [sizeLine_eq, hy2.1]; omega) ?_
    walk_at "st"
    exact ⟨_, _, _, rfl, e3.trans (N.kp.trans e5), B5, by rw [str_app_len]; omega, by rw [goodT_app, hg, hy2.2]; rfl⟩
  · rintro σ H3 ⟨v, k, z, rfl, e3, B3, hl, hg⟩
    walk_at "st"
    exact q z H3 ⟨by omega, hg⟩ e3 B3
theorem D__law_text (T : TX K mg) : DefAt P w K mg base CX0 "_law_text" 3 ["_law_box"] spText :=
  def_of T 14 27 sc__law_text bn__law_text (fun vs H Q E h => by obtain ⟨b, d, rfl, _⟩ := h; rfl) (b__law_text T)
theorem sc__law_is_name : FnScope ["_law_text_here", "_law_sign"] ["_law_text_here"] (defScope s__law_is_name) := ⟨rfl, rfl, rfl, by decide +kernel, rfl, by decide +kernel, by decide +kernel⟩
theorem bn__law_is_name : BindN "_law_is_name" s__law_is_name ["_law_text_here"] := fun _ _ _ _ _ _ us hl => match us, hl with | [_], _ => rfl
theorem b__law_is_name (T : TX K mg) : Body P w K mg base "_law_is_name" s__law_is_name ["_law_text_here", "_law_sign"] 1 (spStrB isNameS) := by
  intro cdv A outer s H vs Q E h X hr
  obtain ⟨z, rfl, hz, q⟩ := h
  refine ⟨_, (pss_cons (ps_for PassesOwn.never rfl (pi_str (pv 0)) (pg_name (i := 1) sc__law_is_name.nd rfl (Or.inl rfl)) (pss_one (ps_if (pt_cmpR (op_notInU (K := K)) (pv 1) pe_str rfl) (pss_one (ps_ret pe_bl)) pss_nil))) (pss_one (ps_ret (pe_chain op_leU op_leU pe_int (pe_callB (cr_len (K := K)) rfl (T.free 1) PySem.boot_len (pa_cons (pv 0) pa_nil)) pe_int)))), ?_⟩
  unfold isNameS at q
  walk_at "st"
  refine forS (fun i σ H' => ∃ v, σ = [some (.str z), v] ∧ H = H' ∧ (z.cps.toList.take i).all (fun c => decide (c ∈ (PySem.Str.ofString "abcdefghijklmnopqrstuvwxyz0123456789").cps.toList)) = true) ⟨_, rfl, rfl, rfl⟩ ?_ ?_
  · rintro i c σ _ hc ⟨v, rfl, rfl, hg⟩
    walk_at "st"
    refine c_iteN (fun h => ?_) (fun h => ?_)
    · walk_at "st"
      have g := q H Kp.refl
      have e : z.cps.toList.all (fun c => decide (c ∈ (PySem.Str.ofString "abcdefghijklmnopqrstuvwxyz0123456789").cps.toList)) = false := by
        cases q2 : z.cps.toList.all (fun c => decide (c ∈ (PySem.Str.ofString "abcdefghijklmnopqrstuvwxyz0123456789").cps.toList)) with
        | false => rfl
        | true => exact absurd (of_decide_eq_true (List.all_eq_true.mp q2 c (List.mem_of_getElem? hc))) h
      rw [e, Bool.and_false] at g
      exact g
    · walk_at "st"
      exact ⟨_, rfl, rfl, by rw [take_succ' hc, List.all_append, hg]; simp only [List.all_cons, List.all_nil, Bool.and_true, Bool.true_and]; exact decide_eq_true h⟩
  · rintro σ _ ⟨v, rfl, rfl, hg⟩
    rw [List.take_length] at hg
    have g := q H Kp.refl
    rw [hg, Bool.and_true] at g
    walk_at "st"
    refine c_ite (fun h1 => ?_) (fun h1 => ?_)
    · walk_at "st"
      rw [decide_eq_true (by omega), Bool.true_and] at g
      have e : decide ((z.length : Int) ≤ 8) = decide (z.length ≤ 8) := by congr 1; exact propext ⟨fun h => by omega, fun h => by omega⟩
      rw [e]
      exact g
    · rw [decide_eq_false (by omega), Bool.false_and] at g
      exact g
theorem D__law_is_name (T : TX K mg) : DefAt P w K mg base CX0 "_law_is_name" 2 ["_law_text_here"] (spStrB isNameS) :=
  def_of T 15 28 sc__law_is_name bn__law_is_name (spStrB_len _) (b__law_is_name T)
theorem sc__law_is_path : FnScope ["_law_text_here", "_law_names", "_law_name"] ["_law_text_here"] (defScope s__law_is_path) := ⟨rfl, rfl, rfl, by decide +kernel, rfl, by decide +kernel, by decide +kernel⟩
theorem bn__law_is_path : BindN "_law_is_path" s__law_is_path ["_law_text_here"] := fun _ _ _ _ _ _ us hl => match us, hl with | [_], _ => rfl
def spPathB : Sp := fun vs H Q _ => ∃ z : Str, vs = [.str z] ∧ z.length ≤ 100000 ∧ okS z = true ∧ ∀ H', Kp [] H H' → Q (.bl (isPathS z)) H'
theorem fil_none {α : Type} (ys : List α) (f : α → Bool) : decide ((ys.filter fun y => !f y) = []) = ys.all f := by
  rw [Bool.eq_iff_iff, decide_eq_true_eq, List.filter_eq_nil_iff, List.all_eq_true]
  simp
theorem b__law_is_path (T : TX K mg) : Body P w K mg base "_law_is_path" s__law_is_path ["_law_text_here", "_law_names", "_law_name"] 2 spPathB := by
  intro cdv A outer s H vs Q E h X hr
  obtain ⟨z, rfl, hz, hok, q⟩ := h
  have D__law_is_name : DefAt P w K mg base CX0 "_law_is_name" 2 ["_law_text_here"] (spStrB isNameS) := D__law_is_name T
  refine ⟨_, (pss_cons (ps_set (i := 1) sc__law_is_path.nd rfl (Or.inl rfl) (pe_splitU (pv 0) pe_str)) (pss_one (ps_ret (pe_and (pe_cmpR op_leU (pe_callB (cr_len (K := K)) rfl (T.free 1) PySem.boot_len (pa_cons (pv 1) pa_nil)) pe_int (nomark _)) (pe_one (pe_cmpR (op_eqU (K := K) hr.units) (pe_lc (own := [("_law_name", 2)]) rfl sc__law_is_path.nd (pi_listU (K := K) (pv 1)) (blkOk_by (N := ["_law_text_here", "_law_names", "_law_name"]) (sc := defScope s__law_is_path) (by decide +kernel)) (fun _ _ _ _ _ => (pg_name (i := 2) sc__law_is_path.nd rfl (Or.inl rfl))) (fun _ _ _ _ _ => (pts_one (pt_not (pt_tru (K := K) (pe_callA D__law_is_name hr pass0 (pa_cons (pv 2) pa_nil)))))) (fun _ _ _ _ _ => (pv 2))) (pe_lst pa_nil) (nomark _))))))), ?_⟩
  walk_at "st"
  refine c_split (by decide) (by rw [sizeLine_eq]; omega) fun p H1 N => ?_
  have hs := split_small (z := z) (y := PySem.Str.ofString "/") hz (by decide)
  walk_at "st"
  refine c_ite (fun h1 => ?_) (fun h1 => ?_)
  · walk_at "st"
    rw [List.length_map] at h1
    refine lcL_map V.str (fun y => !isNameS y) (SqL.of N.at_) (by omega) (fun y H' R S hy e k1 k2 => ?_) (fun Dl H' hD e hacc => ?_)
    · walk_at "st"
      refine ⟨rfl, ?_⟩
      walk_at "st"
      have hl := split_part hy
      refine ⟨y, rfl, by omega, fun H4 e4 => ?_⟩
      walk_at "st"
      refine c_iteNB (fun g => ?_) (fun g => ?_)
      · walk_at "st"
        exact k1 (by rw [g]; rfl) _ e4
      · exact k2 (by rw [g]; rfl) _ e4
    · walk_at "st"
      walk_at "nw"
      intro p2 H2 N2
      refine c_eqLS (ys := (Txt.split z (PySem.Str.ofString "/")).filter fun y => !isNameS y) (zs := []) (SqL.of (N2.keep hacc)) (SqL.of N2.at_) (fun y hy => split_ok hok (List.mem_filter.mp hy).1) (by simp) ?_
      rw [fil_none]
      have g := q H2 ((N.kp.trans e).trans N2.kp)
      unfold isPathS at g
      rw [decide_eq_true (by omega), Bool.true_and] at g
      exact g
  · walk_at "st"
    rw [List.length_map] at h1
    have g := q H1 N.kp
    unfold isPathS at g
    rw [decide_eq_false (by omega), Bool.false_and] at g
    exact g
theorem D__law_is_path (T : TX K mg) : DefAt P w K mg base CX0 "_law_is_path" 3 ["_law_text_here"] spPathB :=
  def_of T 16 29 sc__law_is_path bn__law_is_path (fun vs H Q E h => by obtain ⟨z, rfl, _⟩ := h; rfl) (b__law_is_path T)
theorem sc__law_inside : FnScope ["_law_path_here", "_law_place"] ["_law_path_here", "_law_place"] (defScope s__law_inside) := ⟨rfl, rfl, rfl, by decide +kernel, rfl, by decide +kernel, by decide +kernel⟩
theorem bn__law_inside : BindN "_law_inside" s__law_inside ["_law_path_here", "_law_place"] := fun _ _ _ _ _ _ us hl => match us, hl with | [_, _], _ => rfl
def spInsideL : Sp := fun vs H Q _ => ∃ x y : Str, vs = [.str x, .str y] ∧ x.length ≤ 100000 ∧ y.length ≤ 100000 ∧ Q (.bl (isInsideS x y)) H
theorem b__law_inside (T : TX K mg) : Body P w K mg base "_law_inside" s__law_inside ["_law_path_here", "_law_place"] 1 spInsideL := by
  intro cdv A outer s H vs Q E h X hr
  obtain ⟨x, y, rfl, hx, hy, q⟩ := h
  refine ⟨_, (pss_one (ps_ret (pe_or (pe_cmpR (op_eqU (K := K) hr.units) (pv 1) pe_str (nomark _)) (pe_one (pe_cmpR (op_eqU (K := K) hr.units) (pe_slice (sl_U (K := K)) (pv 0) po_none (po_some (pe_op (op_addU (K := K)) (pe_callB (cr_len (K := K)) rfl (T.free 1) PySem.boot_len (pa_cons (pv 1) pa_nil)) pe_int))) (pe_op (op_addU (K := K)) (pv 1) pe_str) (nomark _)))))), ?_⟩
  have l1 : (PySem.Str.ofString "/").length = 1 := by decide
  unfold isInsideS at q
  walk_at "st"
  refine c_ite (fun h1 => ?_) (fun h1 => ?_)
  · walk_at "st"
    rw [decide_eq_true h1, Bool.true_or] at q
    exact q
  · walk_at "st"
    refine c_slS (by rw [sizeLine_eq]; omega) ?_
    walk_at "st"
    refine c_addS (by rw [l1, sizeLine_eq]; omega) ?_
    walk_at "st"
    have e : ((y.length : Int) + 1) = (((y ++ PySem.Str.ofString "/").length : Nat) : Int) := by rw [str_app_len, l1]; omega
    rw [e, cut_starts]
    rw [decide_eq_false h1, Bool.false_or] at q
    exact q
theorem D__law_inside (T : TX K mg) : DefAt P w K mg base CX0 "_law_inside" 2 ["_law_path_here", "_law_place"] spInsideL :=
  def_of T 17 30 sc__law_inside bn__law_inside (fun vs H Q E h => by obtain ⟨z, ys, rfl, _⟩ := h; rfl) (b__law_inside T)
end
end K01



namespace K01
open PySem L2 Sa
section
variable {P : Program} {w : World} {K : PySem.W.Frag} {mg : Str → Option Value} {base : Heap}
theorem sc_law : FnScope ["_law_script", "_law_box", "_law_turn", "_law_text_here", "_law_plain", "_law_lines_here", "_law_path_here", "_law_place"] ["_law_script"] (defScope s_law) := ⟨rfl, rfl, rfl, by decide +kernel, rfl, by decide +kernel, by decide +kernel⟩
theorem bn_law : BindN "law" s_law ["_law_script"] := fun _ _ _ _ _ _ us hl => match us, hl with | [_], _ => rfl
def spLaw (K : PySem.W.Frag) : Sp := fun vs H Q _ => ∃ (a : Addr) (ns : List Int), vs = [.ref a] ∧ SqL K H a (ns.map V.int) ∧ ∀ H', Q (.bl true) H'
theorem isLines2 {z : Str} : isLinesS [z, PySem.Str.ofString "x"] = isLineS z ∧ isLinesS [PySem.Str.ofString "x", z] = isLineS z ∧ isLinesS [PySem.Str.ofString "x", PySem.Str.ofString "", z] = isLineS z := by
  have h1 : isLineS (PySem.Str.ofString "x") = true := by decide +kernel
  have h2 : isLineS (PySem.Str.ofString "") = true := by decide +kernel
  simp [isLinesS, h1, h2]
theorem isLinesR {z : Str} {n : Nat} (h : isLineS z = true) : isLinesS (List.replicate n z) = decide (n ≤ 12) := by
  unfold isLinesS
  rw [List.length_replicate]
  have : (List.replicate n z).all isLineS = true := List.all_eq_true.mpr fun y hy => by rw [(List.mem_replicate.mp hy).2]; exact h
  rw [this, Bool.and_true]
theorem lineTexts_ok : ∀ z ∈ lineTexts, isLineS z = true ∧ z.length ≤ 20 := by decide +kernel
theorem rep_flat (z : Str) (n : Nat) : (List.replicate n ([z].map V.str)).flatten = (List.replicate n z).map V.str := by
  induction n with
  | zero => rfl
  | succ n ih => rw [List.replicate_succ, List.flatten_cons, ih, List.replicate_succ]; rfl
theorem b_law (T : TX K mg) : BodyG P w K mg base "law" s_law ["_law_script", "_law_box", "_law_turn", "_law_text_here", "_law_plain", "_law_lines_here", "_law_path_here", "_law_place"] 6 (spLaw K) := by
  intro cdv A outer s H vs Q E h X hr hg
  obtain ⟨a, ns, rfl, hs, q⟩ := h
  have D__law_digits : DefAt P w K mg base CX0 "_law_digits" 3 ["_law_script", "_law_first", "_law_last"] (spDigits K) := D__law_digits T
  have D__law_draw : DefAt P w K mg base CX0 "_law_draw" 2 ["_law_box", "_law_many"] spDraw := D__law_draw T
  have D__law_text : DefAt P w K mg base CX0 "_law_text" 3 ["_law_box"] spText := D__law_text T
  have D__law_line : DefAt P w K mg base CX0 "_law_line" 3 ["_law_box"] spLine := D__law_line T
  have D__law_path : DefAt P w K mg base CX0 "_law_path" 3 ["_law_box"] spPath := D__law_path T
  have D__law_alike : DefG P w K mg base "_law_alike" 2 ["_law_one", "_law_two"] (spAlike K) := D__law_alike T
  have D__law_is_name : DefAt P w K mg base CX0 "_law_is_name" 2 ["_law_text_here"] (spStrB isNameS) := D__law_is_name T
  have D__law_is_path : DefAt P w K mg base CX0 "_law_is_path" 3 ["_law_text_here"] spPathB := D__law_is_path T
  have D__law_inside : DefAt P w K mg base CX0 "_law_inside" 2 ["_law_path_here", "_law_place"] spInsideL := D__law_inside T
  have D_is_name : DefAt P w K mg base CX0 "is_name" 2 ["text"] (spStrB isNameS) := D_is_name T
  have D_is_path : DefAt P w K mg base CX0 "is_path" 3 ["text"] (spStrB isPathS) := D_is_path T
  have D_is_place : DefAt P w K mg base CX0 "is_place" 4 ["text"] (spStrB isPlaceS) := D_is_place T
  have D_is_line : DefAt P w K mg base CX0 "is_line" 3 ["text"] (spStrB isLineS) := D_is_line T
  have D_is_word : DefAt P w K mg base CX0 "is_word" 3 ["text"] (spStrB isWordS) := D_is_word T
  have D_is_lines : DefAt P w K mg base CX0 "is_lines" 4 ["lines"] (spLines K) := D_is_lines T
  have D_is_inside : DefAt P w K mg base CX0 "is_inside" 2 ["path", "place"] spInside := D_is_inside T
  refine ⟨_, (pss_cons (ps_set (i := 1) sc_law.nd rfl (Or.inl rfl) (pe_lst (pa_cons (pe_callA D__law_digits hr pass0 (pa_cons (pv 0) (pa_cons pe_int (pa_cons pe_int pa_nil)))) (pa_cons pe_int pa_nil)))) (pss_cons (ps_if (pt_cmpR (op_neU (K := K) hr.units) (pe_tup (pa_cons (pe_gInt (T.int 8)) (pa_cons (pe_gInt (T.int 10)) (pa_cons (pe_gInt (T.int 16)) (pa_cons (pe_gInt (T.int 20)) (pa_cons (pe_gInt (T.int 18)) pa_nil)))))) (pe_tup (pa_cons pe_int (pa_cons pe_int (pa_cons pe_int (pa_cons pe_int (pa_cons pe_int pa_nil)))))) (nomark _)) (pss_one (ps_ret pe_bl)) pss_nil) (pss_cons (ps_for PassesOwn.never rfl (pi_range1 rfl (T.free 4) (pa_cons pe_int pa_nil)) (pg_name (i := 2) sc_law.nd rfl (Or.inl rfl)) (pss_cons (ps_set (i := 3) sc_law.nd rfl (Or.inl rfl) (pe_callA D__law_text hr pass0 (pa_cons (pv 1) pa_nil))) (pss_cons (ps_set (i := 4) sc_law.nd rfl (Or.inl rfl) (pe_cmpR (op_notInU (K := K)) pe_str (pv 3) rfl)) (pss_cons (ps_if (pt_not (pt_tru (K := K) (pe_callG D__law_alike hr hg (pa_cons (pe_tup (pa_cons (pe_callA D_is_name hr pass0 (pa_cons (pv 3) pa_nil)) (pa_cons (pe_callA D_is_path hr pass0 (pa_cons (pv 3) pa_nil)) pa_nil))) (pa_cons (pe_tup (pa_cons (pe_callA D__law_is_name hr pass0 (pa_cons (pv 3) pa_nil)) (pa_cons (pe_callA D__law_is_path hr pass0 (pa_cons (pv 3) pa_nil)) pa_nil))) pa_nil))))) (pss_one (ps_ret pe_bl)) pss_nil) (pss_cons (ps_if (pt_not (pt_tru (K := K) (pe_callG D__law_alike hr hg (pa_cons (pe_callA D_is_place hr pass0 (pa_cons (pv 3) pa_nil)) (pa_cons (pe_or (pe_cmpR (op_eqU (K := K) hr.units) (pv 3) pe_str (nomark _)) (pe_one (pe_callA D__law_is_path hr pass0 (pa_cons (pv 3) pa_nil)))) pa_nil))))) (pss_one (ps_ret pe_bl)) pss_nil) (pss_cons (ps_if (pt_not (pt_tru (K := K) (pe_callG D__law_alike hr hg (pa_cons (pe_tup (pa_cons (pe_callA D_is_line hr pass0 (pa_cons (pv 3) pa_nil)) (pa_cons (pe_callA D_is_word hr pass0 (pa_cons (pv 3) pa_nil)) pa_nil))) (pa_cons (pe_tup (pa_cons (pe_and (pv 4) (pe_one (pe_cmpR op_leU (pe_callB (cr_len (K := K)) rfl (T.free 1) PySem.boot_len (pa_cons (pv 3) pa_nil)) pe_int (nomark _)))) (pa_cons (pe_and (pv 4) (pe_one (pe_chain op_leU op_leU pe_int (pe_callB (cr_len (K := K)) rfl (T.free 1) PySem.boot_len (pa_cons (pv 3) pa_nil)) pe_int))) pa_nil))) pa_nil))))) (pss_one (ps_ret pe_bl)) pss_nil) (pss_cons (ps_set (i := 5) sc_law.nd rfl (Or.inl rfl) (pe_op (op_mulU (K := K)) (pe_tup (pa_cons (pe_callA D__law_line hr pass0 (pa_cons (pv 1) pa_nil)) pa_nil)) (pe_op (op_addU (K := K)) pe_int (pe_callA D__law_draw hr pass0 (pa_cons (pv 1) (pa_cons pe_int pa_nil)))))) (pss_cons (ps_if (PW.pt (pw_or (pt_not (pt_tru (K := K) (pe_callG D__law_alike hr hg (pa_cons (pe_callA D_is_lines hr pass0 (pa_cons (pv 5) pa_nil)) (pa_cons (pe_cmpR op_leU (pe_callB (cr_len (K := K)) rfl (T.free 1) PySem.boot_len (pa_cons (pv 5) pa_nil)) pe_int (nomark _)) pa_nil))))) (pw_or1 (pt_not (pt_tru (K := K) (pe_callG D__law_alike hr hg (pa_cons (pe_callA D_is_lines hr pass0 (pa_cons (pe_ix (ix_U (K := K)) (pe_lst (pa_cons (pe_tup (pa_cons (pv 3) (pa_cons pe_str pa_nil))) (pa_cons (pe_tup (pa_cons pe_str (pa_cons (pv 3) pa_nil))) (pa_cons (pe_tup (pa_cons pe_str (pa_cons pe_str (pa_cons (pv 3) pa_nil)))) pa_nil)))) (pe_callA D__law_draw hr pass0 (pa_cons (pv 1) (pa_cons pe_int pa_nil))) (fun _ _ => rfl)) pa_nil)) (pa_cons (pe_and (pv 4) (pe_one (pe_cmpR op_leU (pe_callB (cr_len (K := K)) rfl (T.free 1) PySem.boot_len (pa_cons (pv 3) pa_nil)) pe_int (nomark _)))) pa_nil)))))))) (pss_one (ps_ret pe_bl)) pss_nil) (pss_cons (ps_set (i := 6) sc_law.nd rfl (Or.inl rfl) (pe_callA D__law_path hr pass0 (pa_cons (pv 1) pa_nil))) (pss_cons (ps_set (i := 7) sc_law.nd rfl (Or.inl rfl) (pe_ix (ix_U (K := K)) (pe_lst (pa_cons pe_str (pa_cons (pe_callA D__law_path hr pass0 (pa_cons (pv 1) pa_nil)) (pa_cons (pv 6) (pa_cons (pe_ix (ix_U (K := K)) (pe_splitU (pv 6) pe_str) pe_int (fun _ _ => rfl)) (pa_cons (pe_joinU (K := K) pe_str (pe_slice (sl_U (K := K)) (pe_splitU (pv 6) pe_str) po_none (po_some pe_int))) pa_nil)))))) (pe_callA D__law_draw hr pass0 (pa_cons (pv 1) (pa_cons pe_int pa_nil))) (fun _ _ => rfl))) (pss_one (ps_if (pt_not (pt_tru (K := K) (pe_callG D__law_alike hr hg (pa_cons (pe_callA D_is_inside hr pass0 (pa_cons (pv 6) (pa_cons (pv 7) pa_nil))) (pa_cons (pe_callA D__law_inside hr pass0 (pa_cons (pv 6) (pa_cons (pv 7) pa_nil))) pa_nil))))) (pss_one (ps_ret pe_bl)) pss_nil)))))))))))) (pss_one (ps_ret (pe_callG D__law_alike hr hg (pa_cons (pe_callA D_is_lines hr pass0 (pa_cons (pe_tup pa_nil) pa_nil)) (pa_cons pe_bl pa_nil)))))))), ?_⟩
  walk_at "st"
  refine ⟨a, ns, rfl, hs, fun d ds hd => ?_⟩
  walk_at "st"
  walk_at "nw"
  intro b H1 N1
  have B1 : Bx H1 b d := ⟨0, ds, N1.at_, N1.keep upd_same, by decide⟩
  walk_at "st"
  walk_at "nw"
  intro p1 H2 N2
  walk_at "st"
  walk_at "nw"
  intro p2 H3 N3
  walk_at "st"
  refine c_neTI (ns := [8, 3, 20, 12, 12]) (ms := [8, 3, 20, 12, 12]) (SqT.of (N3.keep N2.at_)) (SqT.of N3.at_) (by decide +kernel) (by decide +kernel) ?_
  have B3 : Bx H3 b d := (B1.nw N2).nw N3
  clear N1 N2 N3 B1
  walk_at "st"
  refine c_iteF (by decide +kernel) ?_
  walk_at "st"
  refine forR (fun i σ H' => ∃ (v2 v3 v4 v5 v6 v7 : Option V), σ = [some (.ref a), some (.ref b), v2, v3, v4, v5, v6, v7] ∧ Bx H' b d) ⟨_, _, _, _, _, _, rfl, B3⟩ ?_ ?_
  · rintro i σ G0 hi ⟨v2, v3, v4, v5, v6, v7, rfl, C0⟩
    walk_at "st"
    refine ⟨b, d, rfl, C0, fun z G1 hz f1 C1 => ?_⟩
    have hl := hz.len
    have hok := goodT_ok hz.good
    have hpl := goodT_plain hz.good
    have e20 : decide ((z.length : Int) ≤ (20 : Int)) = decide (z.length ≤ 20) := le_int (b := 20)
    have e34 : PySem.Str.ofString "\"" = ⟨#[34]⟩ := by decide +kernel
    walk_at "st"
    rw [e34]
    walk_at "st"
    refine ⟨z, rfl, by omega, fun G2 f2 => ?_⟩
    walk_at "st"
    refine ⟨z, rfl, by omega, fun G3 f3 => ?_⟩
    walk_at "st"
    walk_at "nw"
    intro p3 G4 N4
    walk_at "st"
    refine ⟨z, rfl, by omega, fun G5 f5 => ?_⟩
    walk_at "st"
    refine ⟨z, rfl, by omega, hok, fun G6 f6 => ?_⟩
    walk_at "st"
    walk_at "nw"
    intro p4 G7 N7
    have C7 : Bx G7 b d := (((((C1.kp0 f2).kp0 f3).nw N4).kp0 f5).kp0 f6).nw N7
    walk_at "st"
    refine ⟨_, _, _, rfl, dp_bl2 (N7.keep (f6.at0 (f5.at0 N4.at_))), dp_bl2 N7.at_, nice_bl2 _ _, ?_⟩
    clear N4 N7 f2 f3 f5 f6 C0 C1 f1
    walk_at "st"
    refine ⟨z, rfl, by omega, fun G8 f8 => ?_⟩
    walk_at "st"
    refine c_orK (isPathS z) (fun R k => ?_) (fun G9 f9 => ?_)
    · walk_at "st"
      exact ⟨z, rfl, by omega, hok, k⟩
    walk_at "st"
    refine ⟨_, _, _, rfl, .bl _, .bl _, nice_bl _, ?_⟩
    have C9 : Bx G9 b d := (C7.kp0 f8).kp0 f9
    clear f8 f9 C7
    walk_at "st"
    refine ⟨z, rfl, by omega, fun G10 f10 => ?_⟩
    walk_at "st"
    refine ⟨z, rfl, by omega, fun G11 f11 => ?_⟩
    walk_at "st"
    walk_at "nw"
    intro p5 G12 N12
    have C12 : Bx G12 b d := ((C9.kp0 f10).kp0 f11).nw N12
    walk_at "st"
    refine c_andE (decide (z.length ≤ 20)) (fun R k => ?_) ?_
    · walk_at "st"
      rw [e20]
      exact k
    walk_at "st"
    refine c_andE (decide (1 ≤ z.length) && decide (z.length ≤ 12)) (fun R k => ?_) ?_
    · walk_at "st"
      have e1 : decide ((1 : Int) ≤ (z.length : Int)) = decide (1 ≤ z.length) := le_int (a := 1)
      have e2 : decide ((z.length : Int) ≤ (12 : Int)) = decide (z.length ≤ 12) := le_int (b := 12)
      rw [e1]
      refine c_ite (fun h => ?_) (fun h => ?_)
      · walk_at "st"
        rw [decide_eq_true h, Bool.true_and] at k
        rw [e2]
        exact k
      · rw [decide_eq_false h, Bool.false_and] at k
        exact k
    walk_at "st"
    walk_at "nw"
    intro p6 G13 N13
    have C13 : Bx G13 b d := C12.nw N13
    walk_at "st"
    have eL : isLineS z = (!decide (34 ∈ z.cps.toList) && decide (z.length ≤ 20)) := by unfold isLineS; rw [hpl, Bool.and_comm]
    have eW : isWordS z = (!decide (34 ∈ z.cps.toList) && (decide (1 ≤ z.length) && decide (z.length ≤ 12))) := by unfold isWordS; rw [hpl, Bool.and_comm]
    refine ⟨_, _, _, rfl, dp_bl2 (N13.keep N12.at_), by rw [eL, eW]; exact dp_bl2 N13.at_, nice_bl2 _ _, ?_⟩
    clear N12 N13 f10 f11 C9 C12
    walk_at "st"
    refine ⟨b, d, rfl, C13, fun y G14 hy f14 C14 => ?_⟩
    walk_at "st"
    walk_at "nw"
    intro p7 G15 N15
    walk_at "st"
    refine ⟨b, d, _, rfl, C14.nw N15, by decide, fun m G16 m0 m1 f16 C16 => ?_⟩
    walk_at "st"
    have s7 : SqT K G16 p7 ([y].map V.str) := SqT.of (f16.at1 (C14.ne_new N15.fr).1 N15.at_)
    refine c_mulT s7 (by simp) (by omega) (by omega) (by simp) fun p8 G17 N17 => ?_
    rw [rep_flat] at N17
    obtain ⟨hy1, hy2⟩ := lineTexts_ok y hy
    walk_at "st"
    refine ⟨p8, _, rfl, SqT.of N17.at_, by rw [List.length_replicate]; omega, fun u hu => by rw [(List.mem_replicate.mp hu).2]; omega, fun G18 f18 => ?_⟩
    walk_at "st"
    have e12 : decide ((((List.replicate (10 + m).toNat y).map V.str).length : Int) ≤ (12 : Int)) = isLinesS (List.replicate (10 + m).toNat y) := by
      rw [isLinesR hy1, List.length_map, List.length_replicate]
      exact le_int (b := 12)
    rw [e12]
    refine ⟨_, _, _, rfl, .bl _, .bl _, nice_bl _, ?_⟩
    have C18 : Bx G18 b d := (C16.nw N17).kp0 f18
    clear N15 N17 f14 f16 f18 C13 C14 C16 e12 s7
    walk_at "st"
    walk_at "nw"
    intro q1 G19 M1
    walk_at "st"
    walk_at "nw"
    intro q2 G20 M2
    walk_at "st"
    walk_at "nw"
    intro q3 G21 M3
    walk_at "st"
    walk_at "nw"
    intro q4 G22 M4
    have C22 : Bx G22 b d := (((C18.nw M1).nw M2).nw M3).nw M4
    have C21 : Bx G21 b d := ((C18.nw M1).nw M2).nw M3
    walk_at "st"
    refine ⟨b, d, _, rfl, C22, by decide, fun m2 G23 m20 m21 f23 C23 => ?_⟩
    have k1 : G22 q1 = some (.tup ([z, PySem.Str.ofString "x"].map V.str)) := M4.keep (M3.keep (M2.keep M1.at_))
    have k2 : G22 q2 = some (.tup ([PySem.Str.ofString "x", z].map V.str)) := M4.keep (M3.keep M2.at_)
    have k3 : G22 q3 = some (.tup ([PySem.Str.ofString "x", PySem.Str.ofString "", z].map V.str)) := M4.keep M3.at_
    have n1 : q1 ≠ b := (C18.ne_new M1.fr).1
    have n2 : q2 ≠ b := ((C18.nw M1).ne_new M2.fr).1
    have n3 : q3 ≠ b := (((C18.nw M1).nw M2).ne_new M3.fr).1
    refine c_pickM (u := fun x : Addr × List Str => V.ref x.1) [(q1, [z, PySem.Str.ofString "x"]), (q2, [PySem.Str.ofString "x", z]), (q3, [PySem.Str.ofString "x", PySem.Str.ofString "", z])] (C21.pick M4 f23) m20 m21 fun x hx => ?_
    have lx : (PySem.Str.ofString "x").length = 1 := by decide
    have ln : (PySem.Str.ofString "").length = 0 := by decide
    have hx2 : G23 x.1 = some (.tup (x.2.map V.str)) ∧ isLinesS x.2 = isLineS z ∧ x.2.length ≤ 3 ∧ ∀ u ∈ x.2, u.length ≤ 100 := by
      simp only [List.mem_cons, List.not_mem_nil, or_false] at hx
      rcases hx with rfl | rfl | rfl
      · refine ⟨f23.at1 n1 k1, isLines2.1, by simp, fun u hu => ?_⟩
        simp only [List.mem_cons, List.not_mem_nil, or_false] at hu
        rcases hu with rfl | rfl <;> omega
      · refine ⟨f23.at1 n2 k2, isLines2.2.1, by simp, fun u hu => ?_⟩
        simp only [List.mem_cons, List.not_mem_nil, or_false] at hu
        rcases hu with rfl | rfl <;> omega
      · refine ⟨f23.at1 n3 k3, isLines2.2.2, by simp, fun u hu => ?_⟩
        simp only [List.mem_cons, List.not_mem_nil, or_false] at hu
        rcases hu with rfl | rfl | rfl <;> omega
    obtain ⟨x1, x2, x3, x4⟩ := hx2
    walk_at "st"
    refine ⟨x.1, x.2, rfl, SqT.of x1, by omega, fun u hu => Nat.le_trans (x4 u hu) (by decide), fun G24 f24 => ?_⟩
    walk_at "st"
    refine c_andE (decide (z.length ≤ 20)) (fun R k => ?_) ?_
    · walk_at "st"
      rw [e20]
      exact k
    rw [x2, eL]
    walk_at "st"
    refine ⟨_, _, _, rfl, .bl _, .bl _, nice_bl _, ?_⟩
    have C24 : Bx G24 b d := C23.kp0 f24
    clear M1 M2 M3 M4 C18 C21 C22 C23 f23 f24 x1 k1 k2 k3
    walk_at "st"
    refine ⟨b, d, rfl, C24, fun pa G25 hpa f25 C25 => ?_⟩
    have lpa := hpa.len
    walk_at "st"
    refine ⟨b, d, rfl, C25, fun pb G26 hpb f26 C26 => ?_⟩
    have lpb := hpb.len
    walk_at "st"
    refine c_split (by decide) (by rw [sizeLine_eq]; omega) fun r1 G27 M7 => ?_
    walk_at "st"
    refine c_pickM (u := V.str) (Txt.split pa (PySem.Str.ofString "/")) (SqL.of M7.at_) (by decide) (by have := hpa.parts (PySem.Str.ofString "/"); omega) fun pc hpc => ?_
    have lpc := split_part hpc
    walk_at "st"
    refine c_split (by decide) (by rw [sizeLine_eq]; omega) fun r2 G28 M8 => ?_
    walk_at "st"
    refine c_slL (SqL.of M8.at_) fun r3 G29 M9 => ?_
    have ecut : cutV ((Txt.split pa (PySem.Str.ofString "/")).map V.str) none (some 2) = (cutL (Txt.split pa (PySem.Str.ofString "/")) none (some 2)).map V.str := by rw [cutV_eq, cutL_map]
    rw [ecut] at M9
    have ljn : (Txt.join (PySem.Str.ofString "/") (cutL (Txt.split pa (PySem.Str.ofString "/")) none (some 2))).length ≤ 8 := by
      rw [tjoin]
      have e0 : cutL (Txt.split pa (PySem.Str.ofString "/")) none (some 2) = (Txt.split pa (PySem.Str.ofString "/")).take (HT.sIx (Txt.split pa (PySem.Str.ofString "/")).length (Txt.split pa (PySem.Str.ofString "/")).length (some 2)) := by
        unfold cutL
        have : HT.sIx (Txt.split pa (PySem.Str.ofString "/")).length 0 none = 0 := rfl
        rw [this, List.drop_zero, Nat.sub_zero]
      rw [e0]
      have := join_take (PySem.Str.ofString "/") (HT.sIx (Txt.split pa (PySem.Str.ofString "/")).length (Txt.split pa (PySem.Str.ofString "/")).length (some 2)) (Txt.split pa (PySem.Str.ofString "/"))
      rw [StrLaws.join_split] at this
      omega
    walk_at "st"
    refine c_join (SqL.of M9.at_) ?_ ?_
    · have e1 := join_len (PySem.Str.ofString "/") (cutL (Txt.split pa (PySem.Str.ofString "/")) none (some 2))
      rw [← tjoin] at e1
      have l1 : (PySem.Str.ofString "/").length = 1 := by decide
      rw [l1] at e1 ⊢
      omega
    generalize Txt.join (PySem.Str.ofString "/") (cutL (Txt.split pa (PySem.Str.ofString "/")) none (some 2)) = pd at ljn ⊢
    walk_at "st"
    walk_at "nw"
    intro r4 G30 M10
    have C29 : Bx G29 b d := ((C26.nw M7).nw M8).nw M9
    walk_at "st"
    refine ⟨b, d, _, rfl, C29.nw M10, by decide, fun m3 G31 m30 m31 f31 C31 => ?_⟩
    refine c_pickM (u := V.str) [PySem.Str.ofString "", pb, pa, pc, pd] (C29.pick M10 f31) m30 m31 fun y2 hy2 => ?_
    have ly2 : y2.length ≤ 8 := by
      simp only [List.mem_cons, List.not_mem_nil, or_false] at hy2
      rcases hy2 with rfl | rfl | rfl | rfl | rfl <;> omega
    walk_at "st"
    refine ⟨pa, y2, rfl, by omega, ?_⟩
    walk_at "st"
    refine ⟨pa, y2, rfl, by omega, by omega, ?_⟩
    walk_at "st"
    refine ⟨_, _, _, rfl, .bl _, .bl _, nice_bl _, ?_⟩
    walk_at "st"
    exact ⟨_, _, _, _, _, _, rfl, C31⟩
  · rintro σ G0 ⟨v2, v3, v4, v5, v6, v7, rfl, C0⟩
    walk_at "st"
    walk_at "nw"
    intro p G1 N1
    walk_at "st"
    refine ⟨p, [], rfl, SqT.of N1.at_, by simp, by simp, fun G2 f2 => ?_⟩
    walk_at "st"
    exact ⟨_, _, _, rfl, .bl _, by rw [show isLinesS [] = true from rfl]; exact .bl _, nice_bl _, q _⟩
end
end K01


namespace K01
open PySem L2 Sa
abbrev R : PySem.W.OpenRow := PySem.W.OpenLaw.row PySem.Challenge.rw_sameanswers_k01_names_paths_and_lines
abbrev qv : Program := PySem.W.view R.prog [31]
abbrev hk : PySem.W.Hook := He.hookD 4 fa fn
def ob (s : PySem.W.SharedT) : He.AlD := He.obsDG 4 fa fn (HandSHeadRun.getT s)
theorem ob_eq (s : PySem.W.SharedT) : ob s = hk.obs s.abs := He.obsDG_eq (HandSHeadRun.getT_eq s)
def loose0 : List PySem.Str := ["NAME_MOST", "DEPTH_MOST", "LINE_MOST", "LINES_MOST", "WORD_MOST", "LETTERS", "PERCENT", "is_name", "is_path", "is_place", "_is_plain", "is_line", "is_word", "is_lines", "is_inside", "_law_cell", "_law_digits", "_law_draw", "_law_path", "_law_line", "_law_lines", "_law_inside", "_law_blocked", "_law_files", "_law_rows", "_law_alike", "_law_text", "_law_is_name", "_law_is_path"]
def loose : List PySem.Str := loose0
theorem run (w : World) : HandSHeadRun.RunEq R qv hk ob 4000 loose w := by
  intro os
  kernel_rfl
theorem atEnd {P : Program} {w : World} {K : PySem.W.Frag} {h : Heap} {mg : Str → Option Value} {f : Addr} (KX : K.In h) (G : h.Ns mainGlobals mg) (hf : mg "law" = some (.ref f)) (c : He.SaysD fa fn K) :
    ∃ fd : FuncData, (∀ (s : Shared) (v : Value), BindsTo s fd ⟨[v], []⟩ [("_law_script", v)]) ∧ ∀ base : Heap, K.In base → base.Ns mainGlobals mg → FnG P w K mg base CX0 7 f fd ["_law_script"] (spLaw K) :=
  lawG_of KX G c hf 18 31 sc_law bn_law (fun vs H Q E z => by obtain ⟨a, ns, rfl, _⟩ := z; rfl) fun base => b_law ⟨h, KX, G, c⟩
end K01
open PySem PySem.W PySem.Calls PyProof.Rows
set_option maxRecDepth 100000 in
set_option maxHeartbeats 0 in
theorem PySem.Challenge.cw_sameanswers_k01_names_paths_and_lines_holds : PySem.Challenge.rw_sameanswers_k01_names_paths_and_lines.Holds := by
  w_on; o_law
  refine HandSHeadRun.head_any (r := OpenLaw.row PySem.Challenge.rw_sameanswers_k01_names_paths_and_lines) (q := K01.qv) (H := K01.hk) (ob := K01.ob) (M := 4000) (loose := K01.loose) (d := HandSHeadRun.topDef (OpenLaw.row PySem.Challenge.rw_sameanswers_k01_names_paths_and_lines).prog 31) (kwd := []) K01.ob_eq
    (by kernel_rfl) (fun s => by kernel_rfl) K01.run (by kernel_rfl) (by kernel_rfl) (by kernel_rfl) (by rfl) (by first | assumption | decide +kernel) (by decide +kernel) ⟨rfl, rfl, rfl, rfl, rfl, by decide +kernel⟩ ?hw ?hc
  case hw => w_witness2
  case hc =>
    refine Sa.law_end (l := PySem.Challenge.rw_sameanswers_k01_names_paths_and_lines) (n := 63) (k := 7) (x := "_law_script") rfl (by decide) (by kernel_rfl) ⟨rfl, by decide, by decide⟩ ?F
    intro w mg fa h Y G hmg0
    obtain ⟨K, KX, c⟩ := Y
    have hmg : mg ("law" : PySem.Str) = some (.ref fa) := by
      have e : (HandSHeadRun.topDef (OpenLaw.row PySem.Challenge.rw_sameanswers_k01_names_paths_and_lines).prog 31).name = ("law" : PySem.Str) := by kernel_rfl
      rw [← e]
      exact hmg0
    obtain ⟨fd, hb, hF⟩ := K01.atEnd (P := (PySem.Challenge.rw_sameanswers_k01_names_paths_and_lines).prog) (w := w) KX G hmg c
    exact ⟨K, fd, K01.spLaw K, KX, hb, fun H a ns hS => ⟨a, ns, rfl, hS, fun _ => rfl⟩, hF⟩
#print axioms PySem.Challenge.cw_sameanswers_k01_names_paths_and_lines_holds



