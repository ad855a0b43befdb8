import PyProof.Rows.All
import Wide.All
import OpenK.AllK
import Wide.FinOn
import HandS.ForMost
import HandS.Codes
import HandS.IsInst
import HandS.More
import HandS.Defaults
import HandS.Walk
import HandS.Deep
import HandS.Conv
import HandS.Zip
import HandS.Style
import HandS.Head0
import HandS.Head1
import HandS.Head2
import HandS.HeadEnd
import HandS.HeadHook1
import HandS.HeadHook2
import PySem.Challenge.RW_pointways_k11_webs_told
import HandS.SetFor
import KE.GoesZip
import KE.GoesMore
import HandS.ForExc
import HandS.TryMany
import HandS.ExcIs
import HandS.ExcInit
import HandS.HotCalls
import HandS.ExcInitHot
import KE.KExcIs
import HandS.ExcField
import HandS.Finally
import HandS.DictComp
import HandS.SortInts
set_option synthInstance.maxSize 100000
set_option synthInstance.maxHeartbeats 2000000
set_option Elab.async false
set_option linter.all false
set_option maxRecDepth 100000
set_option maxHeartbeats 4000000
namespace PW
open PySem PySem.Spec PyProof.Rows L2
/-! ### what the top left, by names -/
structure TopOf (fa : List He.Fa) (fn : List He.DefD) (K : PySem.W.Frag) (mg : Str → Option Value) : Prop where
  says : He.SaysD fa fn K
  glo : ∀ x, (He.Fa.glo x).ok K = true → mg x = some (.ref (He.ga K x))
  free : ∀ x, (He.Fa.free x).ok K = true → mg x = none
  int : ∀ x i, (He.Fa.int x i).ok K = true → ∃ t, mg x = some (.int i t)
  str : ∀ x z, (He.Fa.str x z).ok K = true → ∃ t, mg x = some (.str z t)
theorem TopOf.mk' {fa : List He.Fa} {fn : List He.DefD} {K : PySem.W.Frag} {mg : Str → Option Value} {h : Heap} (X : K.In h) (G : h.Ns mainGlobals mg) (c : He.SaysD fa fn K) : TopOf fa fn K mg :=
  ⟨c, fun _ z => He.glo_ok X G z, fun _ z => He.free_ok X G z, fun _ _ z => He.int_ok X G z, fun _ _ z => He.str_ok X G z⟩
section
variable {P : Program} {w : World} {K : PySem.W.Frag} {mg : Str → Option Value} {base : Heap}
abbrev BodyOf (P : Program) (w : World) (K : PySem.W.Frag) (mg : Str → Option Value) (base : Heap) (N : List Str) (qual : Str) (sc : Scope) (bd : List Stmt) (f : Addr) (k : Nat) (sp : Sp) : Prop :=
  ∀ (cdv : Value) (A : Around) (outer : List Env) (s : Shared) (H : Hp) (vs : List V) (Q : VK) (E : XK), Room k (A.deeper (envOfC qual sc s.heap.objs.size f cdv)) → sp vs H Q E →
      ∃ t, PSs (cxOf C8.CX0 P w K mg base N qual sc f cdv A outer s H E).nox bd t ∧ t { nx := fun _ H' => Q .non H', rt := Q } (start N vs) H
abbrev BindOf (x qual : Str) (pa : Arguments) (bd : List Stmt) (sc : Scope) (ps : List Str) : Prop :=
  ∀ (kV doc pm : Value) (an : Option Addr) (cdv ct : Value) (us : List Value), us.length = ps.length → bindArgs (PySem.W.fnOf x qual pa bd sc .none kV doc pm an cdv ct) ⟨us, []⟩ = pure (ps.zip us)
theorem fnok_of {x qual : Str} {pa : Arguments} {bd : List Stmt} {sc : Scope} {f : Addr} {fd : FuncData} {N ps : List Str} {k : Nat} {sp : Sp} (F : FunD K x qual pa bd sc [] [] f fd) (S : FnScope N ps sc)
    (len : ∀ vs H Q E, sp vs H Q E → vs.length = ps.length) (hbody : BodyOf P w K mg base N qual sc bd f k sp) : FnOk P w K mg base C8.CX0 (k + 1) f fd ps sp := by
  refine F.ok S len fun cdv A outer s H vs Q E hr h => ?_
  obtain ⟨t, a, b⟩ := hbody cdv A outer s H vs Q E hr h
  exact ⟨t, a.nox, b⟩
/-- a def by its body -/
theorem cal_of {x : Str} {pa : Arguments} {bd : List Stmt} {sc : Scope} {f : Addr} {N ps : List Str} {k : Nat} {sp : Sp} (F : ∃ fd, FunD K x x pa bd sc [] [] f fd) (hm : mg x = some (.ref f)) (S : FnScope N ps sc)
    (hb : BindOf x x pa bd sc ps) (len : ∀ vs H Q E, sp vs H Q E → vs.length = ps.length) (hbody : BodyOf P w K mg base N x sc bd f k sp) : C8.Cal P w K mg base (k + 1) x sp [] := by
  obtain ⟨fd, F⟩ := F
  exact ⟨f, fd, ps, [], fnok_of F S len hbody, hm, F.kp, F.bindsN hb, .nil⟩
/-- a method by its body -/
theorem met_of {m qual : Str} {C : Addr} {pa : Arguments} {bd : List Stmt} {sc : Scope} {f : Addr} {N ps : List Str} {k : Nat} {sp : Sp} (c : Cls K C) (me : Meth K C m f) (F : ∃ fd, FunD K m qual pa bd sc [] [] f fd) (S : FnScope N ps sc)
    (hb : BindOf m qual pa bd sc ps) (len : ∀ vs H Q E, sp vs H Q E → vs.length = ps.length) (hbody : BodyOf P w K mg base N qual sc bd f k sp) : C8.Met P w K mg base (k + 1) C m sp [] := by
  obtain ⟨fd, F⟩ := F
  exact ⟨f, fd, ps, [], c, me, fnok_of F S len hbody, F.bindsN hb, .nil⟩
/-- a class by its __init__'s body -/
theorem mak_of {x qual : Str} {C : Addr} {pa : Arguments} {bd : List Stmt} {sc : Scope} {f : Addr} {N ps : List Str} {k : Nat} {sp : Sp} (M : Mk K C f) (hm : mg x = some (.ref C)) (F : ∃ fd, FunD K "__init__" qual pa bd sc [] [] f fd) (S : FnScope N ps sc)
    (hb : BindOf "__init__" qual pa bd sc ps) (len : ∀ vs H Q E, sp vs H Q E → vs.length = ps.length) (hbody : BodyOf P w K mg base N qual sc bd f k sp) : C8.Mak P w K mg base (k + 1) x C sp [] := by
  obtain ⟨fd, F⟩ := F
  exact ⟨f, fd, ps, [], M, fnok_of F S len hbody, hm, F.bindsN hb, .nil⟩
end
/-! ### the layer's rules with the written part by its own name (so that a comprehension's reading holds none of its frame) -/
section
variable {X : Cx} {K : PySem.W.Frag}
def rLenK (K : PySem.W.Frag) : List V → Hp → VK → Prop := fun xs H Q => ∃ p ys, xs = [V.ref p] ∧ (SqL K H p ys ∨ SqT K H p ys) ∧ Q (.int ys.length) H
def rListK (K : PySem.W.Frag) : List V → Hp → VK → Prop := fun xs H Q => ∃ p ys, xs = [V.ref p] ∧ (SqL K H p ys ∨ SqT K H p ys) ∧ ∀ l, H l = none → Q (.ref l) (upd H l (.lst ys))
def rTupK (K : PySem.W.Frag) : List V → Hp → VK → Prop := fun xs H Q => ∃ p ys, xs = [V.ref p] ∧ ((SqL K H p ys ∧ ∀ l, H l = none → Q (.ref l) (upd H l (.tup ys))) ∨ (SqT K H p ys ∧ Q (.ref p) H))
theorem ixL (h : X.K = K := by rfl) : IxR X (rIxL K) := by
  subst h
  exact ix_list
theorem ixT (h : X.K = K := by rfl) : IxR X (rIxT K) := by
  subst h
  exact ix_tup
theorem inSeq (h : X.K = K := by rfl) : OpR X (compareOp .In) (rIn K false) := by
  subst h
  exact op_in_seq
theorem notInSeq (h : X.K = K := by rfl) : OpR X (compareOp .NotIn) (rIn K true) := by
  subst h
  exact op_notIn_seq
theorem eqDK (hu : X.A.units + 64 < cLine) (h : X.K = K := by rfl) : OpR X (compareOp .Eq) (rEqD K) := by
  subst h
  exact op_eqD hu
theorem neDK (hu : X.A.units + 64 < cLine) (h : X.K = K := by rfl) : OpR X (compareOp .NotEq) (rNeD K) := by
  subst h
  exact op_neD hu
theorem inDK (hu : X.A.units + 65 < cLine) (h : X.K = K := by rfl) : OpR X (compareOp .In) (rInD K) := by
  subst h
  exact op_inD hu
theorem notInDK (hu : X.A.units + 65 < cLine) (h : X.K = K := by rfl) : OpR X (compareOp .NotIn) (rNotInD K) := by
  subst h
  exact op_notInD hu
theorem u65 {k : Nat} {A : Around} (r : Room k A) : A.units + 65 < cLine := by
  have := r.un
  omega
theorem lookup_relabel {env : Env} : ∀ {names : List (Str × NameKind)} {x : Str}, names.lookup x = some .cell ∨ names.lookup x = some .free →
    (names.map fun (n, k) => if (k == NameKind.free && env.scope.kind == .function && env.kindOf n == some .cell) then (n, NameKind.cell) else (n, k)).lookup x = some .cell ∨ (names.map fun (n, k) => if (k == NameKind.free && env.scope.kind == .function && env.kindOf n == some .cell) then (n, NameKind.cell) else (n, k)).lookup x = some .free
  | [], _, h => by simp at h
  | (n, k) :: r, x, h => by
    have ih := @lookup_relabel env r x
    rw [List.map_cons]
    generalize hc : (k == NameKind.free && env.scope.kind == .function && env.kindOf n == some .cell) = c
    by_cases e : (x == n) = true
    · rw [List.lookup_cons, e] at h
      cases c with
      | true =>
        left
        show List.lookup x ((if (k == NameKind.free && env.scope.kind == .function && env.kindOf n == some .cell) = true then (n, NameKind.cell) else (n, k)) :: _) = _
        rw [hc, if_pos rfl, List.lookup_cons, e]
      | false =>
        show List.lookup x ((if (k == NameKind.free && env.scope.kind == .function && env.kindOf n == some .cell) = true then (n, NameKind.cell) else (n, k)) :: _) = _ ∨ List.lookup x ((if (k == NameKind.free && env.scope.kind == .function && env.kindOf n == some .cell) = true then (n, NameKind.cell) else (n, k)) :: _) = _
        rw [hc, if_neg Bool.false_ne_true, List.lookup_cons, e]
        exact h
    · have e' : (x == n) = false := Bool.eq_false_iff.mpr e
      rw [List.lookup_cons, e'] at h
      show List.lookup x ((if (k == NameKind.free && env.scope.kind == .function && env.kindOf n == some .cell) = true then (n, NameKind.cell) else (n, k)) :: _) = _ ∨ List.lookup x ((if (k == NameKind.free && env.scope.kind == .function && env.kindOf n == some .cell) = true then (n, NameKind.cell) else (n, k)) :: _) = _
      rw [hc]
      cases c with
      | true =>
        rw [if_pos rfl, List.lookup_cons, e']
        exact ih h
      | false =>
        rw [if_neg Bool.false_ne_true, List.lookup_cons, e']
        exact ih h
/-- a comprehension in a comprehension: sc is the outer one's scope as it is written -/
theorem blkOk_in {N : List Str} {sc scope : Scope} {env : Env} {own : List (Str × Nat)} (h : blkC N sc scope own = true) : BlkOk N (relabel sc env) scope own := by
  have b := blkOk_by h
  exact ⟨b.kind, b.uniq, b.ix, fun y hy e => lookup_relabel (b.free y hy e), b.own⟩
def iOr (w1 w2 : TI) : TI := fun σ H R => w1 σ H R ∨ w2 σ H R
def tOrE (t1 t2 : TE) : TE := fun σ H Q => t1 σ H Q ∨ t2 σ H Q
theorem pi_or {tg l : Expr} {w1 w2 : TI} (a : PI X tg l w1) (b : PI X tg l w2) : PI X tg l (iOr w1 w2) :=
  ⟨fun pins s σ H R I h => h.elim (fun z => a.run pins s σ H R I z) fun z => b.run pins s σ H R I z⟩
theorem pe_orE {e : Expr} {t1 t2 : TE} (a : PE X e t1) (b : PE X e t2) : PE X e (tOrE t1 t2) :=
  ⟨fun pins s σ H Q I h => h.elim (fun z => a.run pins s σ H Q I z) fun z => b.run pins s σ H Q I z⟩
theorem pi_listK {tg l : Expr} {tl : TE} (a : PE X l tl) (h : X.K = K := by rfl) : PI X tg l (iList K tl) := by
  subst h
  exact pi_list a
theorem pi_tupK {tg l : Expr} {tl : TE} (a : PE X l tl) (h : X.K = K := by rfl) : PI X tg l (iTup K tl) := by
  subst h
  exact pi_tup a
theorem pe_bmK {T id : String} {name : Str} {o e : Expr} {es : List Expr} {to : TE} {t : TA} {r : V → List V → Hp → VK → Prop} {apos cpos : Pos} (pa : PlainAttrs T) (slot : Slot T name id) (hty : typeOf (.builtin id) = pure (.type "method_descriptor")) (hm : MtR X id r) (ho : PE X o to) (ha : PA X (e :: es) t)
    (hK : X.K = K := by rfl) (hbase : attributeBase o name X.env (eval o X.env) = eval o X.env := by rfl) (hfew : ((backTo cpos (starEach (e :: es) X.env)).all (fun x => !x.1) && (backToKw cpos (keywordEach [] X.env)).all (fun x => x.1.isSome) && decide ((e :: es).length + ([] : List Keyword).length + (if ([] : List Keyword).isEmpty then 0 else 1) < 30)) = true := by rfl)
    (hl : (apos.endLine == cpos.line) = true := by rfl) (hs : starEach (e :: es) X.env = (false, eval e X.env) :: starEach es X.env := by rfl) (hp : (backTo cpos (starEach es X.env)).any (·.1) = false := by rfl) : PE X (.Call (.Attribute o name apos) (e :: es) [] cpos) (tBM K T r to t) := by
  subst hK
  exact pe_bm pa slot hty hm ho ha hbase hfew hl hs hp
theorem pe_bm0K {T id : String} {name : Str} {o : Expr} {to : TE} {r : V → List V → Hp → VK → Prop} {apos cpos : Pos} (pa : PlainAttrs T) (slot : Slot T name id) (hty : typeOf (.builtin id) = pure (.type "method_descriptor")) (hm : MtR X id r) (ho : PE X o to)
    (hK : X.K = K := by rfl) (hbase : attributeBase o name X.env (eval o X.env) = eval o X.env := by rfl) (hl : (apos.endLine == cpos.line) = true := by rfl) : PE X (.Call (.Attribute o name apos) [] [] cpos) (tBM0 K T r to) := by
  subst hK
  exact pe_bm0 pa slot hty hm ho hbase hl
theorem pe_fldK {e : Expr} {f : Str} {ta : TE} {pos : Pos} (he : PE X e ta) (hb : attributeBase e f X.env (eval e X.env) = eval e X.env) (hK : X.K = K := by rfl) : PE X (.Attribute e f pos) (tFld K ta f) := by
  subst hK
  exact pe_fld he hb
def rDictK (K : PySem.W.Frag) : List V → Hp → VK → Prop := fun xs H Q => ∃ (a : Addr) (ps : List Addr) (kvs : List (Key × V)), xs = [V.ref a] ∧ SqL K H a (ps.map V.ref) ∧ Paired (fun p kv => SqT K H p [kV kv.1, kv.2]) ps kvs ∧ ∀ q, H q = none → Q (.ref q) (upd H q (.dK (mergeK [] kvs)))
theorem dictK (hc : X.calm = true) (h : X.K = K := by rfl) : CallR X (.type "dict") (rDictK K) := by
  subst h
  exact call_dictP hc
theorem lenK (h : X.K = K := by rfl) : CallR X (.builtin "len") (rLenK K) := by
  subst h
  exact call_len_seq
theorem listK (h : X.K = K := by rfl) : CallR X (.type "list") (rListK K) := by
  subst h
  exact call_list_of
theorem tupK (h : X.K = K := by rfl) : CallR X (.type "tuple") (rTupK K) := by
  subst h
  exact call_tuple_of
theorem allK (hc : X.calm = true) (h : X.K = K := by rfl) : CallR X (.builtin "all") (rAll K) := by
  subst h
  exact cr_all hc
theorem anyK (hc : X.calm = true) (h : X.K = K := by rfl) : CallR X (.builtin "any") (rAny K) := by
  subst h
  exact cr_any hc
theorem sumK (hc : X.calm = true) (h : X.K = K := by rfl) : CallR X (.builtin "sum") (rSum K) := by
  subst h
  exact cr_sum hc
theorem maxK (hc : X.calm = true) (h : X.K = K := by rfl) : CallR X (.builtin "max") (rMax K) := by
  subst h
  exact cr_max hc
theorem minK (hc : X.calm = true) (h : X.K = K := by rfl) : CallR X (.builtin "min") (rMin K) := by
  subst h
  exact cr_min hc
theorem isiK1 (h : X.K = K := by rfl) : CallR X (.builtin "isinstance") (rIsi K) := by
  subst h
  exact call_isi
theorem isiKT (h : X.K = K := by rfl) : CallR X (.builtin "isinstance") (rIsiT K) := by
  subst h
  exact call_isiT
theorem slLK (h : X.K = K := by rfl) : SlR X (rSlL K) := by
  subst h
  exact sl_list
theorem slTK (h : X.K = K := by rfl) : SlR X (rSlT K) := by
  subst h
  exact sl_tup
theorem mtIndexK (h : X.K = K := by rfl) : MtR X "list.index" (rIndex K) := by
  subst h
  exact mt_index
end
end PW

local macro_rules | `(tactic| walk_at "same") => `(tactic| first
  | assumption
  | exact L2.Same.refl _
  | (with_reducible refine' PW.sameIn ?h ?e; (case h => walk_at "free"); (case e => walk_at "same"))
  | (refine' L2.Same.trans ?e ?f; (case f => assumption); (case e => walk_at "same")))
local macro_rules | `(tactic| walk_at "free") => `(tactic| first
  | assumption
  | (refine' PW.freeS ?h ?e; (case h => assumption); (case e => walk_at "same"))
  | (refine' PW.freeK ?h ?n ?e; (case h => assumption); (case e => walk_at "kp"); (case n => walk_at "ne")))
local macro_rules | `(tactic| walk_at "kp") => `(tactic| first
  | assumption
  | exact PW.Kp.refl _ _
  | (with_reducible refine' PW.kpWr ?e; (case e => walk_at "kp"))
  | (with_reducible refine' PW.kpIn ?h ?e; (case e => walk_at "kp"); (case h => walk_at "free"))
  | (refine' PW.kpS ?e ?s; (case s => assumption); (case e => walk_at "kp"))
  | (refine' PW.Kp.trans ?e ?f; (case f => assumption); (case e => walk_at "kp"))
  | (refine' PW.Kp.same ?e; (case e => walk_at "same")))
local macro_rules | `(tactic| walk_at "hp") => `(tactic| first
  | assumption
  | with_reducible exact L2.upd_same
  | (refine' PW.hpS ?h ?e; (case h => assumption); (case e => walk_at "same"))
  | (refine' PW.hpK ?h ?n ?e; (case h => assumption); (case e => walk_at "kp"); (case n => walk_at "ne")))
local macro_rules | `(tactic| walk_at "ne") => `(tactic| first
  | assumption
  | (refine' Ne.symm ?h; (case h => assumption))
  | (refine' PW.neN1 ?h ?g; (case h => assumption); (case g => walk_at "hp"))
  | (refine' PW.neN2 ?h ?g; (case h => assumption); (case g => walk_at "hp"))
  | (refine' PW.neP1 ?h ?g; (case h => assumption); (case g => walk_at "pot"))
  | (refine' PW.neP2 ?h ?g; (case h => assumption); (case g => walk_at "pot")))
local macro_rules | `(tactic| walk_at "pot") => `(tactic| first
  | assumption
  | (refine' PW.Pot.same ?h ?e; (case h => assumption); (case e => walk_at "same"))
  | (with_reducible refine' PW.Pot.into ?h ?n; (case n => walk_at "ne"); (case h => walk_at "pot")))
local macro_rules | `(tactic| walk_at "fact") => `(tactic| first
  | assumption
  | (with_reducible refine' PW.DatAt.same ?h ?e; (case h => assumption); (case e => walk_at "same"))
  | (with_reducible refine' PW.DatAt.kp ?h ?hp ?na ?nb ?e; (case h => assumption); (case e => walk_at "kp"); (case hp => walk_at "pot"); (case na => walk_at "ne"); (case nb => walk_at "ne"))
  | (with_reducible refine' PW.WebAt.same ?h ?e; (case h => assumption); (case e => walk_at "same"))
  | (with_reducible refine' PW.WebAt.kp ?h ?hp ?n1 ?e; (case h => assumption); (case e => walk_at "kp"); (case hp => walk_at "pot"); (case n1 => first | assumption | (refine PW.WebOk.n1 (ats := ?x) ?y; assumption)))
  | (with_reducible refine' PW.TupsAt.same ?h ?e; (case h => assumption); (case e => walk_at "same"))
  | (with_reducible refine' PW.TupsAt.kp ?h ?hp ?e; (case h => assumption); (case e => walk_at "kp"); (case hp => walk_at "pot"))
  | (with_reducible refine' PW.LstsAt.same ?h ?e; (case h => assumption); (case e => walk_at "same")))
local macro_rules | `(tactic| walk_at "sq") => `(tactic| first
  | assumption
  | (with_reducible refine' L2.SqL.of ?h; (case h => walk_at "hp"))
  | (with_reducible refine' L2.SqT.of ?h; (case h => walk_at "hp"))
  | (with_reducible refine' PW.sqlS ?h ?e; (case h => assumption); (case e => walk_at "same"))
  | (with_reducible refine' Or.inl ?h; (case h => walk_at "sq"))
  | (with_reducible refine' Or.inr ?h; (case h => walk_at "sq"))
  | (with_reducible refine' PW.rowO.sq ?h; (case h => walk_at "hp"))
  | (with_reducible refine' Exists.intro ?w ?h; (case h => walk_at "sq")))
local macro_rules | `(tactic| walk_at "cl") => `(tactic| first
  | assumption
  | rfl
  | walk_at "sq"
  | (with_reducible refine' Or.inl ⟨rfl, ?w, ?h⟩; (case h => walk_at "sq"))
  | (with_reducible refine' L2.DGet.k (k := Sum.inr _) ?h; (case h => walk_at "hp"))
  | exact L2.ClsV.ty _
  | exact L2.TyX.base (.int _)
  | exact L2.TyX.base (.str _)
  | (with_reducible refine' L2.kit_ty (b := true) ?h; (case h => decide +kernel))
  | (with_reducible refine' L2.kit_ty (b := false) ?h; (case h => decide +kernel))
  | exact PW.flat_strs _
  | exact PW.sz0 | exact PW.sz1 | exact PW.sz2 | exact PW.sz3 | exact PW.sz4
  | walk_at "fact" | walk_at "hp" | walk_at "ne" | walk_at "pot" | walk_at "same" | walk_at "kp" | walk_at "free"
  | omega)
local macro_rules | `(tactic| walk_at "rd1") => `(tactic| first
  | (refine' And.intro ?l ?r; (case l => walk_at "cl"))
  | ((fail_if_success (refine' Exists.intro (α := (_ → _)) ?w ?r)); refine' Exists.intro ?w ?r; rotate_left))
local macro_rules | `(tactic| walk_at "rd") => `(tactic| repeat walk_at "rd1")


namespace PW
open PySem PySem.Spec PyProof.Rows L2
/-! ### heaps: what is kept -/
/-- all but p is as it was -/
def Kp (p : Addr) (H H' : Hp) : Prop := ∀ b o, b ≠ p → H b = some o → H' b = some o
theorem Kp.refl (p : Addr) (H : Hp) : Kp p H H := fun _ _ _ h => h
theorem Kp.trans {p : Addr} {H H1 H2 : Hp} (a : Kp p H H1) (b : Kp p H1 H2) : Kp p H H2 := fun c o n h => b c o n (a c o n h)
theorem Kp.same {p : Addr} {H H' : Hp} (e : Same H H') : Kp p H H' := fun b o _ h => e b o h
theorem Kp.free {p : Addr} {H H' : Hp} (e : Kp p H H') {l : Addr} (hl : l ≠ p) (h : H' l = none) : H l = none := by
  cases q : H l with
  | none => rfl
  | some o =>
    rw [e l o hl q] at h
    cases h
theorem Kp.write (p : Addr) (H : Hp) (o : HO) : Kp p H (upd H p o) := fun b u n h => by
  rw [upd_ne n]
  exact h
theorem same_new {H : Hp} {p : Addr} {o : HO} (h : H p = none) : Same H (upd H p o) := fun b x e => by
  rw [upd_ne (ne_of_none e h)]
  exact e
theorem Kp.new {p q : Addr} {H H1 : Hp} {o : HO} (e : Kp p H H1) (h : H1 q = none) : Kp p H (upd H1 q o) := e.trans (Kp.same (same_new h))
/-- writing into what is new since H -/
theorem _root_.L2.Same.into {H H1 : Hp} {q : Addr} {o : HO} (e : Same H H1) (h : H q = none) : Same H (upd H1 q o) := fun b x z => by
  rw [upd_ne (ne_of_none z h)]
  exact e b x z
theorem _root_.L2.Same.next {H H1 : Hp} {q : Addr} {o : HO} (e : Same H H1) (h : H1 q = none) : Same H (upd H1 q o) := e.into (e.free h)
theorem Kp.into {p q : Addr} {H H1 : Hp} {o : HO} (e : Kp p H H1) (h : H q = none) : Kp p H (upd H1 q o) := fun b x n z => by
  rw [upd_ne (ne_of_none z h)]
  exact e b x n z
/-! ### the pot of draws -/
def Pot (H : Hp) (p : Addr) : Prop := ∃ x y : Int, 0 ≤ x ∧ 0 ≤ y ∧ H p = some (.lst [.int x, .int y])
theorem Pot.same {H H' : Hp} {p : Addr} (h : Pot H p) (e : Same H H') : Pot H' p := by
  obtain ⟨x, y, hx, hy, z⟩ := h
  exact ⟨x, y, hx, hy, e _ _ z⟩
theorem Pot.ne {H : Hp} {p q : Addr} (h : Pot H p) (e : H q = none) : q ≠ p := by
  obtain ⟨x, y, hx, hy, z⟩ := h
  exact (ne_of_none z e).symm
theorem Pot.into {H : Hp} {p q : Addr} {o : HO} (h : Pot H p) (n : q ≠ p) : Pot (upd H q o) p := by
  obtain ⟨x, y, hx, hy, z⟩ := h
  exact ⟨x, y, hx, hy, by rw [upd_ne n.symm]; exact z⟩
end PW

namespace PW
open PySem PySem.Spec PyProof.Rows L2
/-! ## data, and what stands for it in the heap -/
/-- a walk along ears: where its parts stand -/
structure WkA where
  dx : Addr
  kv : V
  am : Addr
  au : Addr
inductive D where
  | non | bl (b : Bool) | int (i : Int) | str (s : Str) | ty (n : String)
  | lst (xs : List D) | tup (xs : List D)
  | dK (kvs : List (Key × D)) | dT (kvs : List (List Key × D))
  | ins (c : Str) (fs : List (Str × D))
  | pot
  | wlk (w : WkA) (ks : List (Str × Str)) (ms : List Str) (us : List Int)
/-- more addresses that a thing of a slot's own has to itself -/
def D.xtra : D → List Addr
  | .wlk w _ _ _ => [w.am, w.au]
  | _ => []
mutual
inductive Rep (K : PySem.W.Frag) (H : Hp) : V → D → Prop
  | non : Rep K H .non .non
  | bl (b : Bool) : Rep K H (.bl b) (.bl b)
  | int (i : Int) : Rep K H (.int i) (.int i)
  | str (s : Str) : Rep K H (.str s) (.str s)
  | ty (n : String) : Rep K H (.ty n) (.ty n)
  | lst {a : Addr} {vs : List V} {ds : List D} : H a = some (.lst vs) → RepL K H vs ds → Rep K H (.ref a) (.lst ds)
  | tup {a : Addr} {vs : List V} {ds : List D} : H a = some (.tup vs) → RepL K H vs ds → Rep K H (.ref a) (.tup ds)
  | dK {a : Addr} {kvs : List (Key × V)} {es : List (Key × D)} : Rd H a (.dK kvs) → kvs.map (·.1) = es.map (·.1) → RepL K H (kvs.map (·.2)) (es.map (·.2)) → Rep K H (.ref a) (.dK es)
  | dT {a : Addr} {kvs : List (List Key × V)} {es : List (List Key × D)} : Rd H a (.dT kvs) → kvs.map (·.1) = es.map (·.1) → RepL K H (kvs.map (·.2)) (es.map (·.2)) → Rep K H (.ref a) (.dT es)
  | ins {a dx : Addr} {c : Str} {fs : List (Str × V)} {es : List (Str × D)} : H a = some (.ins (He.ga K c) dx fs) → fs.map (·.1) = es.map (·.1) → RepL K H (fs.map (·.2)) (es.map (·.2)) → Rep K H (.ref a) (.ins c es)
inductive RepL (K : PySem.W.Frag) (H : Hp) : List V → List D → Prop
  | nil : RepL K H [] []
  | cons {v : V} {vs : List V} {d : D} {ds : List D} : Rep K H v d → RepL K H vs ds → RepL K H (v :: vs) (d :: ds)
end
section
variable {K : PySem.W.Frag} {H H' : Hp}
theorem Rd.same (e : Same H H') {a : Addr} {u : HO} : Rd H a u → Rd H' a u
  | .inl h => .inl (e _ _ h)
  | .inr ⟨o, h⟩ => .inr ⟨o, e _ _ h⟩
mutual
theorem Rep.mono (e : Same H H') : ∀ {v : V} {d : D}, Rep K H v d → Rep K H' v d
  | _, _, .non => .non
  | _, _, .bl b => .bl b
  | _, _, .int i => .int i
  | _, _, .str s => .str s
  | _, _, .ty n => .ty n
  | _, _, .lst h g => .lst (e _ _ h) (RepL.mono e g)
  | _, _, .tup h g => .tup (e _ _ h) (RepL.mono e g)
  | _, _, .dK h k g => .dK (Rd.same e h) k (RepL.mono e g)
  | _, _, .dT h k g => .dT (Rd.same e h) k (RepL.mono e g)
  | _, _, .ins h k g => .ins (e _ _ h) k (RepL.mono e g)
theorem RepL.mono (e : Same H H') : ∀ {vs : List V} {ds : List D}, RepL K H vs ds → RepL K H' vs ds
  | _, _, .nil => .nil
  | _, _, .cons h g => .cons (Rep.mono e h) (RepL.mono e g)
end
theorem RepL.len : ∀ {vs : List V} {ds : List D}, RepL K H vs ds → vs.length = ds.length
  | _, _, .nil => rfl
  | _, _, .cons _ g => congrArg (· + 1) g.len
theorem RepL.get : ∀ {vs : List V} {ds : List D} {i : Nat} {d : D}, RepL K H vs ds → ds[i]? = some d → ∃ v, vs[i]? = some v ∧ Rep K H v d
  | _, _, _, _, .nil, e => by simp at e
  | _, _, 0, _, .cons h _, e => by
    cases e
    exact ⟨_, rfl, h⟩
  | _, _, i + 1, _, .cons _ g, e => g.get (i := i) e
theorem RepL.getV : ∀ {vs : List V} {ds : List D} {i : Nat} {v : V}, RepL K H vs ds → vs[i]? = some v → ∃ d, ds[i]? = some d ∧ Rep K H v d
  | _, _, _, _, .nil, e => by simp at e
  | _, _, 0, _, .cons h _, e => by
    cases e
    exact ⟨_, rfl, h⟩
  | _, _, i + 1, _, .cons _ g, e => g.getV (i := i) e
theorem RepL.app : ∀ {vs ws : List V} {ds es : List D}, RepL K H vs ds → RepL K H ws es → RepL K H (vs ++ ws) (ds ++ es)
  | _, _, _, _, .nil, s => s
  | _, _, _, _, .cons h g, s => .cons h (g.app s)
theorem RepL.one {v : V} {d : D} (h : Rep K H v d) : RepL K H [v] [d] := .cons h .nil
theorem RepL.set {v : V} {d : D} (h : Rep K H v d) : ∀ {vs : List V} {ds : List D} (i : Nat), RepL K H vs ds → RepL K H (vs.set i v) (ds.set i d)
  | _, _, _, .nil => .nil
  | _, _, 0, .cons _ g => .cons h g
  | _, _, i + 1, .cons q g => .cons q (RepL.set h i g)
theorem RepL.take : ∀ {vs : List V} {ds : List D} (n : Nat), RepL K H vs ds → RepL K H (vs.take n) (ds.take n)
  | _, _, 0, _ => .nil
  | _, _, _ + 1, .nil => .nil
  | _, _, n + 1, .cons r t => .cons r (RepL.take n t)
theorem RepL.drop : ∀ {vs : List V} {ds : List D} (n : Nat), RepL K H vs ds → RepL K H (vs.drop n) (ds.drop n)
  | _, _, 0, r => r
  | _, _, _ + 1, .nil => .nil
  | _, _, n + 1, .cons _ t => RepL.drop n t
theorem RepL.rev : ∀ {vs : List V} {ds : List D}, RepL K H vs ds → RepL K H vs.reverse ds.reverse
  | _, _, .nil => .nil
  | _, _, .cons h g => by
    rw [List.reverse_cons, List.reverse_cons]
    exact g.rev.app (.one h)
theorem RepL.erase : ∀ {vs : List V} {ds : List D} (i : Nat), RepL K H vs ds → RepL K H (vs.eraseIdx i) (ds.eraseIdx i)
  | _, _, _, .nil => .nil
  | _, _, 0, .cons _ g => g
  | _, _, i + 1, .cons q g => .cons q (RepL.erase i g)
end
/-! ### what can't change: flat things and tuples of such -/
mutual
def D.imm : D → Bool
  | .tup xs => D.immL xs
  | .lst _ => false
  | .dK _ => false
  | .dT _ => false
  | .ins _ _ => false
  | .pot => false
  | .wlk _ _ _ _ => false
  | .non => true
  | .bl _ => true
  | .int _ => true
  | .str _ => true
  | .ty _ => true
def D.immL : List D → Bool
  | [] => true
  | d :: ds => d.imm && D.immL ds
end
open Classical in
/-- the heap without the bad addresses; tuples stay -/
noncomputable def cut (bad : Addr → Prop) (H : Hp) : Hp := fun a => match H a with
  | some (.tup xs) => some (.tup xs)
  | o => if bad a then none else o
theorem cut_of {bad : Addr → Prop} {H : Hp} {a : Addr} {o : HO} (h : H a = some o) (n : ¬ bad a) : cut bad H a = some o := by
  unfold cut
  rw [h]
  cases o <;> simp [n]
theorem cut_tup {bad : Addr → Prop} {H : Hp} {a : Addr} {xs : List V} (h : H a = some (.tup xs)) : cut bad H a = some (.tup xs) := by
  unfold cut
  rw [h]
theorem cut_inv {bad : Addr → Prop} {H : Hp} {a : Addr} {o : HO} (h : cut bad H a = some o) : H a = some o ∧ (¬ bad a ∨ ∃ xs, o = .tup xs) := by
  unfold cut at h
  cases e : H a with
  | none =>
    rw [e] at h
    simp at h
  | some u =>
    rw [e] at h
    cases u with
    | tup xs =>
      simp at h
      subst h
      exact ⟨rfl, .inr ⟨_, rfl⟩⟩
    | _ =>
      simp at h
      obtain ⟨h1, rfl⟩ := h
      exact ⟨rfl, .inl h1⟩
theorem cut_le {bad : Addr → Prop} {H : Hp} : Same (cut bad H) H := fun _ _ h => (cut_inv h).1
theorem cut_mono {bad bad' : Addr → Prop} {H H' : Hp} (h : ∀ a o, H a = some o → ¬ bad a → H' a = some o ∧ ¬ bad' a) (t : ∀ a xs, H a = some (.tup xs) → bad a → H' a = some (.tup xs)) : Same (cut bad H) (cut bad' H') := fun a o e => by
  obtain ⟨e1, e2⟩ := cut_inv e
  rcases Classical.em (bad a) with b | b
  · rcases e2 with e2 | ⟨xs, rfl⟩
    · exact absurd b e2
    · exact cut_tup (t a xs e1 b)
  · obtain ⟨h1, h2⟩ := h a o e1 b
    exact cut_of h1 h2
section
variable {K : PySem.W.Frag} {H : Hp} {bad : Addr → Prop}
mutual
theorem Rep.imm : ∀ {v : V} {d : D}, Rep K H v d → d.imm = true → Rep K (cut bad H) v d
  | _, _, .non, _ => .non
  | _, _, .bl b, _ => .bl b
  | _, _, .int i, _ => .int i
  | _, _, .str s, _ => .str s
  | _, _, .ty n, _ => .ty n
  | _, _, .tup h g, e => .tup (cut_tup h) (RepL.imm g (by simpa [D.imm] using e))
  | _, _, .lst _ _, e => by simp [D.imm] at e
  | _, _, .dK _ _ _, e => by simp [D.imm] at e
  | _, _, .dT _ _ _, e => by simp [D.imm] at e
  | _, _, .ins _ _ _, e => by simp [D.imm] at e
theorem RepL.imm : ∀ {vs : List V} {ds : List D}, RepL K H vs ds → D.immL ds = true → RepL K (cut bad H) vs ds
  | _, _, .nil, _ => .nil
  | _, _, .cons h g, e => by
    simp only [D.immL, Bool.and_eq_true] at e
    exact .cons (Rep.imm h e.1) (RepL.imm g e.2)
end
end
/-! ### a thing in the heap is not within itself -/
mutual
def D.dp : D → Nat
  | .lst xs => D.dpL xs + 1
  | .tup xs => D.dpL xs + 1
  | .dK kvs => D.dpK kvs + 1
  | .dT kvs => D.dpT kvs + 1
  | .ins _ fs => D.dpF fs + 1
  | .pot => 0
  | .wlk _ _ _ _ => 0
  | .non => 0
  | .bl _ => 0
  | .int _ => 0
  | .str _ => 0
  | .ty _ => 0
def D.dpL : List D → Nat
  | [] => 0
  | d :: ds => max d.dp (D.dpL ds)
def D.dpK : List (Key × D) → Nat
  | [] => 0
  | (_, d) :: ds => max d.dp (D.dpK ds)
def D.dpT : List (List Key × D) → Nat
  | [] => 0
  | (_, d) :: ds => max d.dp (D.dpT ds)
def D.dpF : List (Str × D) → Nat
  | [] => 0
  | (_, d) :: ds => max d.dp (D.dpF ds)
end
theorem dpK_eq : ∀ kvs : List (Key × D), D.dpK kvs = D.dpL (kvs.map (·.2))
  | [] => by simp [D.dpK, D.dpL]
  | (_, d) :: ds => by simp [D.dpK, D.dpL, dpK_eq ds]
theorem dpT_eq : ∀ kvs : List (List Key × D), D.dpT kvs = D.dpL (kvs.map (·.2))
  | [] => by simp [D.dpT, D.dpL]
  | (_, d) :: ds => by simp [D.dpT, D.dpL, dpT_eq ds]
theorem dpF_eq : ∀ kvs : List (Str × D), D.dpF kvs = D.dpL (kvs.map (·.2))
  | [] => by simp [D.dpF, D.dpL]
  | (_, d) :: ds => by simp [D.dpF, D.dpL, dpF_eq ds]
theorem dpL_mem : ∀ {ds : List D} {d : D}, d ∈ ds → d.dp ≤ D.dpL ds
  | [], _, h => by cases h
  | e :: ds, d, h => by
    simp only [D.dpL]
    rcases List.mem_cons.mp h with rfl | h
    · omega
    · have := dpL_mem h
      omega
section
variable {K : PySem.W.Frag} {H : Hp}
theorem Rd.dK1 {a : Addr} {k1 k2 : List (Key × V)} (h : Rd H a (.dK k1)) (g : Rd H a (.dK k2)) : k1 = k2 := by
  rcases h with h | ⟨o, h⟩ <;> rcases g with g | ⟨p, g⟩ <;> rw [h] at g <;> cases g <;> rfl
theorem Rd.dT1 {a : Addr} {k1 k2 : List (List Key × V)} (h : Rd H a (.dT k1)) (g : Rd H a (.dT k2)) : k1 = k2 := by
  rcases h with h | ⟨o, h⟩ <;> rcases g with g | ⟨p, g⟩ <;> rw [h] at g <;> cases g <;> rfl
mutual
theorem Rep.dp1 : ∀ {v : V} {d : D}, Rep K H v d → ∀ {e : D}, Rep K H v e → d.dp = e.dp
  | _, _, .non, _, q => by cases q; rfl
  | _, _, .bl b, _, q => by cases q; rfl
  | _, _, .int i, _, q => by cases q; rfl
  | _, _, .str s, _, q => by cases q; rfl
  | _, _, .ty n, _, q => by cases q; rfl
  | _, _, .lst h g, _, q => by
    cases q with
    | lst h' g' =>
      rw [h] at h'
      cases h'
      simp only [D.dp, RepL.dp1 g g']
    | tup h' g' => rw [h] at h'; cases h'
    | dK h' _ g' => rcases h' with h' | ⟨_, h'⟩ <;> rw [h] at h' <;> cases h'
    | dT h' _ g' => rcases h' with h' | ⟨_, h'⟩ <;> rw [h] at h' <;> cases h'
    | ins h' _ g' => rw [h] at h'; cases h'
  | _, _, .tup h g, _, q => by
    cases q with
    | tup h' g' =>
      rw [h] at h'
      cases h'
      simp only [D.dp, RepL.dp1 g g']
    | lst h' g' => rw [h] at h'; cases h'
    | dK h' _ g' => rcases h' with h' | ⟨_, h'⟩ <;> rw [h] at h' <;> cases h'
    | dT h' _ g' => rcases h' with h' | ⟨_, h'⟩ <;> rw [h] at h' <;> cases h'
    | ins h' _ g' => rw [h] at h'; cases h'
  | _, _, .dK h k g, _, q => by
    cases q with
    | dK h' k' g' =>
      cases Rd.dK1 h h'
      simp only [D.dp, dpK_eq, RepL.dp1 g g']
    | lst h' g' => rcases h with h | ⟨_, h⟩ <;> rw [h] at h' <;> cases h'
    | tup h' g' => rcases h with h | ⟨_, h⟩ <;> rw [h] at h' <;> cases h'
    | dT h' _ g' => rcases h with h | ⟨_, h⟩ <;> rcases h' with h' | ⟨_, h'⟩ <;> rw [h] at h' <;> cases h'
    | ins h' _ g' => rcases h with h | ⟨_, h⟩ <;> rw [h] at h' <;> cases h'
  | _, _, .dT h k g, _, q => by
    cases q with
    | dT h' k' g' =>
      cases Rd.dT1 h h'
      simp only [D.dp, dpT_eq, RepL.dp1 g g']
    | lst h' g' => rcases h with h | ⟨_, h⟩ <;> rw [h] at h' <;> cases h'
    | tup h' g' => rcases h with h | ⟨_, h⟩ <;> rw [h] at h' <;> cases h'
    | dK h' _ g' => rcases h with h | ⟨_, h⟩ <;> rcases h' with h' | ⟨_, h'⟩ <;> rw [h] at h' <;> cases h'
    | ins h' _ g' => rcases h with h | ⟨_, h⟩ <;> rw [h] at h' <;> cases h'
  | _, _, .ins h k g, _, q => by
    cases q with
    | ins h' k' g' =>
      rw [h] at h'
      injection h' with h'
      injection h' with _ _ h'
      subst h'
      simp only [D.dp, dpF_eq, RepL.dp1 g g']
    | lst h' g' => rw [h] at h'; cases h'
    | tup h' g' => rw [h] at h'; cases h'
    | dK h' _ g' => rcases h' with h' | ⟨_, h'⟩ <;> rw [h] at h' <;> cases h'
    | dT h' _ g' => rcases h' with h' | ⟨_, h'⟩ <;> rw [h] at h' <;> cases h'
theorem RepL.dp1 : ∀ {vs : List V} {ds : List D}, RepL K H vs ds → ∀ {es : List D}, RepL K H vs es → D.dpL ds = D.dpL es
  | _, _, .nil, _, q => by cases q; rfl
  | _, _, .cons h g, _, q => by
    cases q with
    | cons h' g' => simp only [D.dpL, Rep.dp1 h h', RepL.dp1 g g']
end
mutual
theorem Rep.rm {a : Addr} {n : Nat} (ha : ∀ e, Rep K H (.ref a) e → e.dp = n) : ∀ {v : V} {d : D}, Rep K H v d → d.dp < n → Rep K (cut (· = a) H) v d
  | _, _, .non, _ => .non
  | _, _, .bl b, _ => .bl b
  | _, _, .int i, _ => .int i
  | _, _, .str s, _ => .str s
  | _, _, .ty n, _ => .ty n
  | _, _, .lst (a := b) (ds := ds) h g, z => .lst (cut_of h fun (e : b = a) => by
      subst e
      have := ha _ (.lst h g)
      omega) (RepL.rm ha g (by simp only [D.dp] at z; omega))
  | _, _, .tup h g, z => .tup (cut_tup h) (RepL.rm ha g (by simp only [D.dp] at z; omega))
  | _, _, .dK (a := b) h k g, z => by
    have hb : b ≠ a := fun e => by
      subst e
      have := ha _ (.dK h k g)
      omega
    refine .dK ?_ k (RepL.rm ha g (by simp only [D.dp, dpK_eq] at z; omega))
    rcases h with h | ⟨o, h⟩
    · exact .inl (cut_of h hb)
    · exact .inr ⟨o, cut_of h hb⟩
  | _, _, .dT (a := b) h k g, z => by
    have hb : b ≠ a := fun e => by
      subst e
      have := ha _ (.dT h k g)
      omega
    refine .dT ?_ k (RepL.rm ha g (by simp only [D.dp, dpT_eq] at z; omega))
    rcases h with h | ⟨o, h⟩
    · exact .inl (cut_of h hb)
    · exact .inr ⟨o, cut_of h hb⟩
  | _, _, .ins (a := b) h k g, z => .ins (cut_of h fun (e : b = a) => by
      subst e
      have := ha _ (.ins h k g)
      omega) k (RepL.rm ha g (by simp only [D.dp, dpF_eq] at z; omega))
theorem RepL.rm {a : Addr} {n : Nat} (ha : ∀ e, Rep K H (.ref a) e → e.dp = n) : ∀ {vs : List V} {ds : List D}, RepL K H vs ds → D.dpL ds < n → RepL K (cut (· = a) H) vs ds
  | _, _, .nil, _ => .nil
  | _, _, .cons h g, z => .cons (Rep.rm ha h (by simp only [D.dpL] at z; omega)) (RepL.rm ha g (by simp only [D.dpL] at z; omega))
end
/-- the parts of a list do not hold it -/
theorem Rep.parts {a : Addr} {d : D} (h : Rep K H (.ref a) d) {vs : List V} {ds : List D} (g : RepL K H vs ds) (z : D.dpL ds < d.dp) : RepL K (cut (· = a) H) vs ds :=
  g.rm (n := d.dp) (fun _ q => q.dp1 h) z
end
end PW

namespace PW
open PySem PySem.Spec PyProof.Rows L2
/-! ## a frame: its slots as data -/
/-- a slot: a thing that is only read (r: none of it stood at the def's entry), or a thing of the slot's own -/
structure Exn where
  c : Str
  fs : List (Str × D)
inductive Sl where
  | sh (r : Bool) (d : D) | ow (r : Bool) (d : D) | scr (ns : List Int) | exn (a : Addr) (dd : Option Addr) (x : Exn) | exo (a : Addr) (dd : Option Addr) (x : Exn) | lk (r : Bool) (d : D) | pa (r : Bool) (d : D) | po (d : D)
abbrev DEnv := List (Option Sl)
structure Fr where
  K : PySem.W.Frag
  H0 : Hp
  Hc : Hp
  Hx : Hp
  sc : Addr → List Int → Prop
  pt : Option Addr
  px : Addr → Prop
  hx : Addr → Prop
  hid : Addr → Prop
  lk : Addr → Prop
def Fr.ex (F : Fr) (a : Addr) : Prop := F.pt = some a ∨ F.px a ∨ F.lk a ∨ F.hx a
def Fr.hide (F : Fr) (a : Addr) : Fr := { F with hid := fun b => b = a ∨ F.hid b }
def Fr.hideS (F : Fr) (B : Addr → Prop) : Fr := { F with hid := fun b => B b ∨ F.hid b }
def OwnAt (σ : L2.St) (ρ : DEnv) (i : Nat) (a : Addr) : Prop := ∃ (r : Bool) (d : D), ρ[i]? = some (some (.ow r d)) ∧ (σ[i]? = some (some (.ref a)) ∨ a ∈ d.xtra)
def OwnA (σ : L2.St) (ρ : DEnv) (a : Addr) : Prop := ∃ i, OwnAt σ ρ i a
def Fr.bad (F : Fr) (O : Addr → Prop) (r : Bool) (a : Addr) : Prop := F.hid a ∨ O a ∨ (r = true ∧ F.H0 a ≠ none)
noncomputable abbrev Fr.RH (F : Fr) (O : Addr → Prop) (H : Hp) (r : Bool) : Hp := cut (F.bad O r) H
def RepO (K : PySem.W.Frag) (Hr : Hp) (o : Option HO) : D → Prop
  | .lst ds => ∃ vs, o = some (.lst vs) ∧ RepL K Hr vs ds
  | .dK es => ∃ kvs, o = some (.dK kvs) ∧ kvs.map (·.1) = es.map (·.1) ∧ RepL K Hr (kvs.map (·.2)) (es.map (·.2))
  | .dT es => ∃ kvs, o = some (.dT kvs) ∧ kvs.map (·.1) = es.map (·.1) ∧ RepL K Hr (kvs.map (·.2)) (es.map (·.2))
  | .ins c es => ∃ dx fs, o = some (.ins (He.ga K c) dx fs) ∧ fs.map (·.1) = es.map (·.1) ∧ RepL K Hr (fs.map (·.2)) (es.map (·.2))
  | .pot => ∃ x y : Int, 0 ≤ x ∧ 0 ≤ y ∧ o = some (.lst [.int x, .int y])
  | .wlk w ks _ _ => o = some (.ins (He.ga K "EarWalk") w.dx [("known", w.kv), ("met", .ref w.am), ("used", .ref w.au)]) ∧ Rep K Hr w.kv (.lst (ks.map fun t => .tup [.str t.1, .str t.2]))
  | _ => False
/-- the containers of a walk along ears -/
def XtO (H : Hp) : D → Prop
  | .wlk w _ ms us => H w.am = some (.lst (ms.map V.str)) ∧ H w.au = some (.dK (us.map fun n => ((Sum.inl n : Key), V.bl true)))
  | _ => True
/-- things of a slot's own that stay there -/
def D.isPot : D → Bool
  | .pot => true
  | .ins _ _ => true
  | .wlk _ _ _ _ => true
  | _ => false
def D.isWlk : D → Bool
  | .wlk _ _ _ _ => true
  | _ => false
theorem isWlk_of {d : D} (h : d.isPot = false) : d.isWlk = false := by
  cases d with
  | wlk => cases h
  | _ => rfl
theorem RepO.mono {K : PySem.W.Frag} {H H' : Hp} {o : Option HO} {d : D} (h : RepO K H o d) (e : Same H H') : RepO K H' o d := by
  cases d with
  | lst ds => obtain ⟨vs, h1, h2⟩ := h; exact ⟨vs, h1, h2.mono e⟩
  | dK es => obtain ⟨kvs, h1, h2, h3⟩ := h; exact ⟨kvs, h1, h2, h3.mono e⟩
  | dT es => obtain ⟨kvs, h1, h2, h3⟩ := h; exact ⟨kvs, h1, h2, h3.mono e⟩
  | ins c es => obtain ⟨dx, kvs, h1, h2, h3⟩ := h; exact ⟨dx, kvs, h1, h2, h3.mono e⟩
  | wlk w ks ms us => exact ⟨h.1, h.2.mono e⟩
  | pot => exact h
  | _ => exact h
theorem RepO.there {K : PySem.W.Frag} {H : Hp} {o : Option HO} {d : D} (h : RepO K H o d) : ∃ u, o = some u ∧ ∀ xs, u ≠ .tup xs := by
  cases d with
  | lst ds => obtain ⟨vs, h1, h2⟩ := h; exact ⟨_, h1, fun _ z => by cases z⟩
  | dK es => obtain ⟨kvs, h1, h2, h3⟩ := h; exact ⟨_, h1, fun _ z => by cases z⟩
  | dT es => obtain ⟨kvs, h1, h2, h3⟩ := h; exact ⟨_, h1, fun _ z => by cases z⟩
  | ins c es => obtain ⟨dx, kvs, h1, h2, h3⟩ := h; exact ⟨_, h1, fun _ z => by cases z⟩
  | pot => obtain ⟨x, y, _, _, h1⟩ := h; exact ⟨_, h1, fun _ z => by cases z⟩
  | wlk w ks ms us => exact ⟨_, h.1, fun _ z => by cases z⟩
  | _ => exact h.elim
theorem XtO.there {H : Hp} {d : D} (h : XtO H d) {b : Addr} (hb : b ∈ d.xtra) : ∃ u, H b = some u ∧ ∀ xs, u ≠ .tup xs := by
  cases d with
  | wlk w ks ms us =>
    obtain ⟨h1, h2⟩ := h
    rcases List.mem_cons.mp hb with rfl | hb
    · exact ⟨_, h1, fun _ z => by cases z⟩
    · rw [List.mem_singleton.mp hb]
      exact ⟨_, h2, fun _ z => by cases z⟩
  | _ => cases hb
theorem XtO.same {H H' : Hp} {d : D} (h : XtO H d) (e : ∀ b ∈ d.xtra, ∀ o, H b = some o → H' b = some o) : XtO H' d := by
  cases d with
  | wlk w ks ms us => exact ⟨e _ List.mem_cons_self _ h.1, e _ (List.mem_cons_of_mem _ List.mem_cons_self) _ h.2⟩
  | _ => trivial
/-- the script -/
def ScrAt (F : Fr) (a : Addr) (ns : List Int) : Prop := (Rd F.H0 a (.lst (ns.map V.int)) ∧ F.pt ≠ some a ∧ ¬ F.lk a ∧ ¬ F.px a) ∨ SqL F.K (fun _ => none) a (ns.map V.int)
/-- what stood at the frame's entry, as it stood -/
def PaAt (F : Fr) : Option Bool → V → D → Prop
  | some r, v, d => Rep F.K (cut (fun a => F.ex a ∨ (r = true ∧ F.Hc a ≠ none)) F.H0) v d
  | none, v, d => Rep F.K (cut F.ex F.Hx) v d
def XRep (K : PySem.W.Frag) (Hr : Hp) (dd : Option Addr) (x : Exn) : Prop := match x.fs with
  | [] => dd = none
  | fs => ∃ a fvs, dd = some a ∧ Hr a = some (.xd fvs) ∧ fvs.map (·.1) = fs.map (·.1) ∧ RepL K Hr (fvs.map (·.2)) (fs.map (·.2))
theorem XRep.mono {K : PySem.W.Frag} {H H' : Hp} {dd : Option Addr} {x : Exn} (h : XRep K H dd x) (e : Same H H') : XRep K H' dd x := by
  unfold XRep at h ⊢
  split at h
  · exact h
  · obtain ⟨a, fvs, h1, h2, h3, h4⟩ := h
    exact ⟨a, fvs, h1, e _ _ h2, h3, h4.mono e⟩
/-- a dict that is walked -/
def LkP (K : PySem.W.Frag) (H : Hp) (a : Addr) : D → Prop
  | .dK es => ∃ od kvs, H a = some (.frz od (.dK kvs)) ∧ kvs.map (·.1) = es.map (·.1) ∧ RepL K H (kvs.map (·.2)) (es.map (·.2))
  | .dT es => ∃ od kvs, H a = some (.frz od (.dT kvs)) ∧ kvs.map (·.1) = es.map (·.1) ∧ RepL K H (kvs.map (·.2)) (es.map (·.2))
  | _ => False
theorem LkP.mono {K : PySem.W.Frag} {H H' : Hp} {a : Addr} {d : D} (h : LkP K H a d) (e : Same H H') : LkP K H' a d := by
  cases d with
  | dK es =>
    obtain ⟨od, kvs, h1, h2, h3⟩ := h
    exact ⟨od, kvs, e _ _ h1, h2, h3.mono e⟩
  | dT es =>
    obtain ⟨od, kvs, h1, h2, h3⟩ := h
    exact ⟨od, kvs, e _ _ h1, h2, h3.mono e⟩
  | _ => exact h.elim
theorem LkP.rep {K : PySem.W.Frag} {H : Hp} {a : Addr} {d : D} (h : LkP K H a d) : Rep K H (.ref a) d := by
  cases d with
  | dK es =>
    obtain ⟨od, kvs, h1, h2, h3⟩ := h
    exact .dK (.inr ⟨od, h1⟩) h2 h3
  | dT es =>
    obtain ⟨od, kvs, h1, h2, h3⟩ := h
    exact .dT (.inr ⟨od, h1⟩) h2 h3
  | _ => exact h.elim
/-- slots that hold neither data nor a thing of their own -/
def RawP (K : PySem.W.Frag) (S : Addr → List Int → Prop) (P : Option Bool → V → D → Prop) (Hr : Bool → Hp) (o : Option (Option V)) : Sl → Prop
  | .scr ns => ∃ a, o = some (some (.ref a)) ∧ S a ns
  | .exn a dd x => o = some (some (.ref a)) ∧ XRep K (Hr true) dd x
  | .exo a dd x => o = some (some (.ref a)) ∧ XRep K (Hr false) dd x
  | .lk r d => ∃ a, o = some (some (.ref a)) ∧ LkP K (Hr r) a d
  | .pa r d => ∃ v, o = some (some v) ∧ P (some r) v d
  | .po d => ∃ v, o = some (some v) ∧ P none v d
  | _ => True
theorem RawP.mono {K : PySem.W.Frag} {S : Addr → List Int → Prop} {P : Option Bool → V → D → Prop} {Hr Hr' : Bool → Hp} {o : Option (Option V)} {s : Sl} (h : RawP K S P Hr o s) (e : ∀ r, Same (Hr r) (Hr' r)) : RawP K S P Hr' o s := by
  cases s with
  | exn a dd x => exact ⟨h.1, h.2.mono (e true)⟩
  | exo a dd x => exact ⟨h.1, h.2.mono (e false)⟩
  | lk r d =>
    obtain ⟨a, h1, h2⟩ := h
    exact ⟨a, h1, h2.mono (e r)⟩
  | scr ns => exact h
  | pa r d => exact h
  | po d => exact h
  | _ => trivial
structure Env (F : Fr) (σ : L2.St) (ρ : DEnv) (H : Hp) : Prop where
  len : σ.length = ρ.length
  keep : ∀ a o, F.H0 a = some o → F.pt ≠ some a → ¬ F.px a → H a = some o ∨ (F.lk a ∧ ∃ od, H a = some (.frz od o))
  sh : ∀ (i : Nat) (r : Bool) (d : D), ρ[i]? = some (some (.sh r d)) → ∃ v, σ[i]? = some (some v) ∧ Rep F.K (F.RH (OwnA σ ρ) H r) v d
  ow : ∀ (i : Nat) (r : Bool) (d : D), ρ[i]? = some (some (.ow r d)) → ∃ a, σ[i]? = some (some (.ref a)) ∧ RepO F.K (F.RH (OwnA σ ρ) H r) (H a) d ∧ ¬ F.hid a ∧ (F.H0 a = none ∨ F.pt = some a ∨ (F.px a ∧ d.isPot = true))
  inj : ∀ (i j : Nat) (a : Addr), OwnAt σ ρ i a → OwnAt σ ρ j a → i = j
  pt : ∀ a, F.pt = some a → ∃ r d, ρ[0]? = some (some (.ow r d)) ∧ d.isPot = true ∧ σ[0]? = some (some (.ref a))
  hidIn : ∀ a, F.hid a → (∃ o, H a = some o) ∧ (F.H0 a = none ∨ F.px a ∨ F.hx a)
  xo : ∀ (i : Nat) (r : Bool) (d : D), ρ[i]? = some (some (.ow r d)) → XtO H d
  xt : ∀ (i : Nat) (r : Bool) (d : D) (b : Addr), ρ[i]? = some (some (.ow r d)) → b ∈ d.xtra → ¬ F.hid b ∧ (F.H0 b = none ∨ F.px b ∨ F.pt = some b)
  pxIn : ∀ a, F.px a → ∃ o, H a = some o
  tp : ∀ a xs, F.H0 a = some (.tup xs) → H a = some (.tup xs)
  hc : ∀ a o, F.Hx a = some o → ¬ F.ex a → F.H0 a = some o
  tc : ∀ a xs, F.Hx a = some (.tup xs) → F.H0 a = some (.tup xs)
  sc : ∀ a ns, F.sc a ns → ScrAt F a ns
  raw : ∀ (i : Nat) (s : Sl), ρ[i]? = some (some s) → RawP F.K F.sc (PaAt F) (F.RH (OwnA σ ρ) H) σ[i]? s
/-- what stood and was no slot's own still stands and is none -/
structure Stp (O : Addr → Prop) (H : Hp) (O' : Addr → Prop) (H' : Hp) : Prop where
  kp : ∀ a o, H a = some o → ¬ O a → H' a = some o ∧ ¬ O' a
  dom : ∀ a, H' a = none → H a = none
theorem Stp.refl (O : Addr → Prop) (H : Hp) : Stp O H O H := ⟨fun _ _ h n => ⟨h, n⟩, fun _ h => h⟩
theorem Stp.trans {O O1 O2 : Addr → Prop} {H H1 H2 : Hp} (a : Stp O H O1 H1) (b : Stp O1 H1 O2 H2) : Stp O H O2 H2 := ⟨fun c o h n => by
  obtain ⟨h1, n1⟩ := a.kp c o h n
  exact b.kp c o h1 n1, fun c h => a.dom c (b.dom c h)⟩
theorem Stp.same {O : Addr → Prop} {H H' : Hp} (e : Same H H') : Stp O H O H' := ⟨fun _ _ h n => ⟨e _ _ h, n⟩, fun _ h => e.free h⟩
section
variable {F : Fr} {σ σ' : L2.St} {ρ ρ' : DEnv} {H H' : Hp} {a : Addr} {i : Nat} {r : Bool} {d : D} {v : V}
theorem Env.notup (E : Env F σ ρ H) (h : OwnA σ ρ a) : ∃ u, H a = some u ∧ ∀ xs, u ≠ .tup xs := by
  obtain ⟨i, r, d, h1, h2⟩ := h
  rcases h2 with h2 | h2
  · obtain ⟨b, h3, h4, _⟩ := E.ow i r d h1
    rw [h2] at h3
    cases h3
    exact h4.there
  · exact (E.xo i r d h1).there h2
theorem Env.rh (E : Env F σ ρ H) {O' : Addr → Prop} (s : Stp (OwnA σ ρ) H O' H') : Same (F.RH (OwnA σ ρ) H r) (F.RH O' H' r) := by
  refine cut_mono (fun a o h nb => ?_) fun a xs h b => ?_
  · obtain ⟨h1, h2⟩ := s.kp a o h fun z => nb (.inr (.inl z))
    refine ⟨h1, fun z => ?_⟩
    rcases z with z | z | z
    · exact nb (.inl z)
    · exact h2 z
    · exact nb (.inr (.inr z))
  · refine (s.kp a _ h fun z => ?_).1
    obtain ⟨u, hu, nu⟩ := E.notup z
    rw [h] at hu
    cases hu
    exact nu xs rfl
theorem Env.new (E : Env F σ ρ H) (h : H a = none) : F.H0 a = none ∧ ¬ F.hid a ∧ ¬ OwnA σ ρ a ∧ F.pt ≠ some a := by
  have no : ¬ OwnA σ ρ a := fun z => by
    obtain ⟨u, hu, _⟩ := E.notup z
    rw [h] at hu
    cases hu
  have np : F.pt ≠ some a := fun z => by
    obtain ⟨r, d, h1, _, h2⟩ := E.pt a z
    exact no ⟨0, r, d, h1, .inl h2⟩
  refine ⟨?_, fun z => ?_, no, np⟩
  · cases e : F.H0 a with
    | none => rfl
    | some o =>
      have nx : ¬ F.px a := fun z => by
        obtain ⟨o, ho⟩ := E.pxIn a z
        rw [h] at ho
        cases ho
      rcases E.keep a o e np nx with z | ⟨_, od, z⟩ <;> rw [h] at z <;> cases z
  · obtain ⟨⟨o, ho⟩, _⟩ := E.hidIn a z
    rw [h] at ho
    cases ho
theorem Env.grow (E : Env F σ ρ H) (e : Same H H') : Env F σ ρ H' where
  len := E.len
  keep := fun a o h n nx => by
    rcases E.keep a o h n nx with z | ⟨l, od, z⟩
    · exact .inl (e _ _ z)
    · exact .inr ⟨l, od, e _ _ z⟩
  sh := fun i r d h => by
    obtain ⟨v, h1, h2⟩ := E.sh i r d h
    exact ⟨v, h1, h2.mono (E.rh (.same e))⟩
  ow := fun i r d h => by
    obtain ⟨a, h1, h2, h3⟩ := E.ow i r d h
    obtain ⟨u, hu, _⟩ := h2.there
    refine ⟨a, h1, ?_, h3⟩
    rw [e _ _ hu, ← hu]
    exact h2.mono (E.rh (.same e))
  inj := E.inj
  pt := E.pt
  hidIn := fun a h => by
    obtain ⟨⟨o, ho⟩, h0⟩ := E.hidIn a h
    exact ⟨⟨o, e _ _ ho⟩, h0⟩
  xo := fun i r d h => (E.xo i r d h).same fun b _ o ho => e _ _ ho
  xt := E.xt
  pxIn := fun a h => by
    obtain ⟨o, ho⟩ := E.pxIn a h
    exact ⟨o, e _ _ ho⟩
  tp := fun a xs h => e _ _ (E.tp a xs h)
  hc := E.hc
  tc := E.tc
  sc := E.sc
  raw := fun i s hi => (E.raw i s hi).mono fun r => E.rh (.same e)
theorem Env.hideNew (E : Env F σ ρ H) (hb0 : H a = none) (e : Same H H') (ha : ∃ o, H' a = some o) : Env (F.hide a) σ ρ H' := by
  have up : ∀ r, Same (F.RH (OwnA σ ρ) H r) ((F.hide a).RH (OwnA σ ρ) H' r) := fun r => by
    refine cut_mono (fun b o hb nb => ⟨e _ _ hb, fun z => ?_⟩) fun b xs hb _ => e _ _ hb
    rcases z with (rfl | z) | z | z
    · rw [hb0] at hb
      cases hb
    · exact nb (.inl z)
    · exact nb (.inr (.inl z))
    · exact nb (.inr (.inr z))
  have E' := E.grow e
  refine ⟨E.len, E'.keep, fun i r d h => ?_, fun i r d h => ?_, E.inj, E.pt, fun b hb => ?_, E'.xo, fun i r d b h hb => ?_, E'.pxIn, E'.tp, E.hc, E.tc, E.sc, fun i s hi => (E.raw i s hi).mono up⟩
  · obtain ⟨v, h1, h2⟩ := E.sh i r d h
    exact ⟨v, h1, h2.mono (up r)⟩
  · obtain ⟨b, h1, h2, h3, h4⟩ := E.ow i r d h
    obtain ⟨u, hu, _⟩ := h2.there
    refine ⟨b, h1, ?_, fun z => ?_, h4⟩
    · rw [e _ _ hu, ← hu]
      exact h2.mono (up r)
    · rcases z with rfl | z
      · rw [hu] at hb0
        cases hb0
      · exact h3 z
  · rcases hb with rfl | hb
    · exact ⟨ha, .inl (E.new hb0).1⟩
    · exact E'.hidIn b hb
  · obtain ⟨g1, g2⟩ := E.xt i r d b h hb
    refine ⟨fun z => ?_, g2⟩
    rcases z with rfl | z
    · exact (E.new hb0).2.2.1 ⟨i, r, d, h, .inr hb⟩
    · exact g1 z
theorem Env.unhide (E : Env (F.hide a) σ ρ H) : Env F σ ρ H := by
  have up : ∀ r, Same ((F.hide a).RH (OwnA σ ρ) H r) (F.RH (OwnA σ ρ) H r) := fun r => by
    refine cut_mono (fun b o hb nb => ⟨hb, fun z => ?_⟩) fun b xs hb _ => hb
    rcases z with z | z | z
    · exact nb (.inl (.inr z))
    · exact nb (.inr (.inl z))
    · exact nb (.inr (.inr z))
  refine ⟨E.len, E.keep, fun i r d h => ?_, fun i r d h => ?_, E.inj, E.pt, fun b hb => E.hidIn b (.inr hb), E.xo, fun i r d b h hb => ⟨fun z => (E.xt i r d b h hb).1 (.inr z), (E.xt i r d b h hb).2⟩, E.pxIn, E.tp, E.hc, E.tc, E.sc, fun i s hi => (E.raw i s hi).mono up⟩
  · obtain ⟨v, h1, h2⟩ := E.sh i r d h
    exact ⟨v, h1, h2.mono (up r)⟩
  · obtain ⟨b, h1, h2, h3, h4⟩ := E.ow i r d h
    exact ⟨b, h1, h2.mono (up r), fun z => h3 (.inr z), h4⟩
theorem unhide_rh {O : Addr → Prop} : Same ((F.hide a).RH O H r) (F.RH O H r) := by
  refine cut_mono (fun b o hb nb => ⟨hb, fun z => ?_⟩) fun b xs hb _ => hb
  rcases z with z | z | z
  · exact nb (.inl (.inr z))
  · exact nb (.inr (.inl z))
  · exact nb (.inr (.inr z))
theorem Env.ownHid (E : Env F σ ρ H) (h : OwnA σ ρ a) : ¬ F.hid a := by
  obtain ⟨j, r, d, g1, g2⟩ := h
  rcases g2 with g2 | g2
  · obtain ⟨b, g3, _, g5, _⟩ := E.ow j r d g1
    rw [g2] at g3
    cases g3
    exact g5
  · exact (E.xt j r d a g1 g2).1
theorem PaAt.old (E : Env F σ ρ H) (h : PaAt F none v d) : PaAt F (some false) v d := by
  refine Rep.mono (cut_mono (fun b o hb nb => ⟨E.hc b o hb nb, fun z => ?_⟩) fun b xs hb _ => E.tc b xs hb) h
  rcases z with z | ⟨z, _⟩
  · exact nb z
  · cases z
theorem PaAt.rep (E : Env F σ ρ H) (h : PaAt F (some r) v d) : Rep F.K (F.RH (OwnA σ ρ) H false) v d := by
  refine Rep.mono (cut_mono (fun b o hb nb => ?_) fun b xs hb _ => E.tp b xs hb) h
  have n1 : F.pt ≠ some b := fun z => nb (.inl (.inl z))
  have n2 : ¬ F.px b := fun z => nb (.inl (.inr (.inl z)))
  have n3 : ¬ F.lk b := fun z => nb (.inl (.inr (.inr (.inl z))))
  refine ⟨(E.keep b o hb n1 n2).resolve_right fun z => n3 z.1, fun z => ?_⟩
  rcases z with z | ⟨i, r1, d1, z1, z2⟩ | ⟨z, _⟩
  · rcases (E.hidIn b z).2 with y | y | y
    · rw [hb] at y
      cases y
    · exact n2 y
    · exact nb (.inl (.inr (.inr (.inr y))))
  · rcases z2 with z2 | z2
    · obtain ⟨c, g1, _, _, g4⟩ := E.ow i r1 d1 z1
      rw [z2] at g1
      cases g1
      rcases g4 with y | y | y
      · rw [hb] at y
        cases y
      · exact n1 y
      · exact n2 y.1
    · rcases (E.xt i r1 d1 b z1 z2).2 with y | y | y
      · rw [hb] at y
        cases y
      · exact n2 y
      · exact n1 y
  · cases z
theorem Env.lt (E : Env F σ ρ H) {s : Option Sl} (h : ρ[i]? = some s) : i < σ.length := by
  rw [E.len]
  exact (List.getElem?_eq_some_iff.mp h).1
/-- something that a slot has to itself changes -/
theorem Env.putG {r' : Bool} {d' : D} {c : Addr} {o : HO} (E : Env F σ ρ H) (h : ρ[i]? = some (some (.ow r d))) (hs : σ[i]? = some (some (.ref a))) (hp : d.isPot = true → d'.isPot = true) (hx : d'.xtra = d.xtra) (hc : c = a ∨ c ∈ d.xtra) (ho : RepO F.K (F.RH (OwnA σ ρ) H r') (upd H c o a) d') (hxo : XtO (upd H c o) d') :
    Env F σ (ρ.set i (some (.ow r' d'))) (upd H c o) ∧ Stp (OwnA σ ρ) H (OwnA σ (ρ.set i (some (.ow r' d')))) (upd H c o) := by
  have hi : i < ρ.length := (List.getElem?_eq_some_iff.mp h).1
  have at_i : (ρ.set i (some (.ow r' d')))[i]? = some (some (.ow r' d')) := List.getElem?_set_self hi
  have at_j : ∀ j, j ≠ i → (ρ.set i (some (.ow r' d')))[j]? = ρ[j]? := fun j hj => List.getElem?_set_ne (Ne.symm hj)
  have ownI : ∀ j b, OwnAt σ (ρ.set i (some (.ow r' d'))) j b ↔ OwnAt σ ρ j b := fun j b => by
    by_cases hj : j = i
    · subst hj
      constructor
      · rintro ⟨rj, dj, h1, h2⟩
        rw [at_i] at h1
        cases h1
        exact ⟨r, d, h, by rw [← hx]; exact h2⟩
      · rintro ⟨rj, dj, h1, h2⟩
        rw [h] at h1
        cases h1
        exact ⟨r', d', at_i, by rw [hx]; exact h2⟩
    · unfold OwnAt
      rw [at_j j hj]
  have own : ∀ b, OwnA σ (ρ.set i (some (.ow r' d'))) b ↔ OwnA σ ρ b := fun b => exists_congr fun j => ownI j b
  have oai : OwnAt σ ρ i c := ⟨r, d, h, hc.imp (fun z => by rw [z]; exact hs) id⟩
  have oa : OwnA σ ρ c := ⟨i, oai⟩
  have st : Stp (OwnA σ ρ) H (OwnA σ (ρ.set i (some (.ow r' d')))) (upd H c o) := ⟨fun b u hb nb => by
    have : b ≠ c := fun z => nb (z ▸ oa)
    exact ⟨by rw [upd_ne this]; exact hb, fun z => nb ((own b).mp z)⟩, fun b hb => by
    by_cases hba : b = c
    · subst hba
      rw [upd_same] at hb
      cases hb
    · rw [upd_ne hba] at hb
      exact hb⟩
  have up : ∀ r, Same (F.RH (OwnA σ ρ) H r) (F.RH (OwnA σ (ρ.set i (some (.ow r' d')))) (upd H c o) r) := fun r => E.rh st
  obtain ⟨a', ha', h2, h3, h4⟩ := E.ow i r d h
  rw [hs] at ha'
  cases ha'
  have free : ∀ u, F.H0 c = some u → F.pt ≠ some c → ¬ F.px c → False := fun u hu np nx => by
    rcases hc with rfl | hc
    · rcases h4 with h4 | h4 | h4
      · rw [hu] at h4
        cases h4
      · exact np h4
      · exact nx h4.1
    · rcases (E.xt i r d c h hc).2 with z | z | z
      · rw [hu] at z
        cases z
      · exact nx z
      · exact np z
  have there : ∀ b, (∃ u, H b = some u) → ∃ u, upd H c o b = some u := fun b ⟨u, hu⟩ => by
    by_cases hba : b = c
    · subst hba
      exact ⟨_, upd_same⟩
    · exact ⟨u, by rw [upd_ne hba]; exact hu⟩
  refine ⟨⟨?_, fun b u hb np nx => ?_, fun j rj dj hj => ?_, fun j rj dj hj => ?_, fun j k b hj hk => ?_, fun b hb => ?_, fun b hb => ?_, fun j rj dj hj => ?_, fun j rj dj b hj hb => ?_, fun b hb => there b (E.pxIn b hb), fun b xs hb => ?_, E.hc, E.tc, E.sc, fun j v hj => ?_⟩, st⟩
  · rw [List.length_set]
    exact E.len
  · have : b ≠ c := fun z => by
      subst z
      exact free u hb np nx
    rw [upd_ne this]
    exact E.keep b u hb np nx
  · have hji : j ≠ i := fun z => by
      subst z
      rw [at_i] at hj
      cases hj
    rw [at_j j hji] at hj
    obtain ⟨v, h5, h6⟩ := E.sh j rj dj hj
    exact ⟨v, h5, h6.mono (up rj)⟩
  · by_cases hji : j = i
    · subst hji
      rw [at_i] at hj
      cases hj
      exact ⟨a, hs, ho.mono (up _), h3, h4.imp_right (Or.imp_right fun z => ⟨z.1, hp z.2⟩)⟩
    · rw [at_j j hji] at hj
      obtain ⟨b, h5, h6, h7, h8⟩ := E.ow j rj dj hj
      have : b ≠ c := fun z => by
        subst z
        exact hji (E.inj j i b ⟨_, _, hj, .inl h5⟩ oai)
      refine ⟨b, h5, ?_, h7, h8⟩
      rw [upd_ne this]
      exact h6.mono (up rj)
  · exact E.inj j k b ((ownI j b).mp hj) ((ownI k b).mp hk)
  · obtain ⟨r0, d0, h5, hd0, h6⟩ := E.pt b hb
    by_cases h0 : i = 0
    · subst h0
      rw [h] at h5
      cases h5
      exact ⟨r', d', at_i, hp hd0, h6⟩
    · exact ⟨r0, d0, by rw [at_j 0 (Ne.symm h0)]; exact h5, hd0, h6⟩
  · exact ⟨there b (E.hidIn b hb).1, (E.hidIn b hb).2⟩
  · by_cases hji : j = i
    · subst hji
      rw [at_i] at hj
      cases hj
      exact hxo
    · rw [at_j j hji] at hj
      refine (E.xo j rj dj hj).same fun b hb u hu => ?_
      have : b ≠ c := fun z => by
        subst z
        exact hji (E.inj j i b ⟨_, _, hj, .inr hb⟩ oai)
      rw [upd_ne this]
      exact hu
  · by_cases hji : j = i
    · subst hji
      rw [at_i] at hj
      cases hj
      rw [hx] at hb
      exact E.xt j r d b h hb
    · rw [at_j j hji] at hj
      exact E.xt j rj dj b hj hb
  · have h5 := E.tp b xs hb
    have : b ≠ c := fun z => by
      subst z
      obtain ⟨u, hu, nu⟩ := E.notup oa
      rw [h5] at hu
      cases hu
      exact nu xs rfl
    rw [upd_ne this]
    exact h5
  · by_cases hji : j = i
    · subst hji
      rw [at_i] at hj
      cases hj
      trivial
    · rw [at_j j hji] at hj
      exact (E.raw j v hj).mono up
/-- the content of a slot's own thing changes -/
theorem Env.put {r' : Bool} {d' : D} {o : HO} (E : Env F σ ρ H) (h : ρ[i]? = some (some (.ow r d))) (hs : σ[i]? = some (some (.ref a))) (hp : d.isPot = true → d'.isPot = true) (ho : RepO F.K (F.RH (OwnA σ ρ) H r') (some o) d') (hx : d'.xtra = d.xtra := by rfl) (hxo : ∀ H', XtO H' d' := by intro; trivial) :
    Env F σ (ρ.set i (some (.ow r' d'))) (upd H a o) ∧ Stp (OwnA σ ρ) H (OwnA σ (ρ.set i (some (.ow r' d')))) (upd H a o) :=
  E.putG h hs hp hx (.inl rfl) (by rw [upd_same]; exact ho) (hxo _)
/-- slot i is no pot -/
def noPot (ρ : DEnv) (i : Nat) : Prop := ∀ r d, i = 0 → ρ[i]? = some (some (.ow r d)) → d.isPot = false
theorem ownAt_set {s : Option Sl} {w : Option V} (hs : ∀ r d, s ≠ some (.ow r d)) {j : Nat} {b : Addr} : OwnAt (σ.set i w) (ρ.set i s) j b ↔ j ≠ i ∧ OwnAt σ ρ j b := by
  by_cases hj : j = i
  · subst hj
    constructor
    · rintro ⟨rj, dj, h1, _⟩
      by_cases hl : j < ρ.length
      · rw [List.getElem?_set_self hl] at h1
        exact absurd (Option.some.inj h1) (hs _ _)
      · rw [List.getElem?_eq_none (by simpa using hl)] at h1
        cases h1
    · exact fun z => absurd rfl z.1
  · unfold OwnAt
    rw [List.getElem?_set_ne (Ne.symm hj), List.getElem?_set_ne (Ne.symm hj)]
    exact ⟨fun z => ⟨hj, z⟩, fun z => z.2⟩
theorem own_set {s : Option Sl} {w : Option V} (hs : ∀ r d, s ≠ some (.ow r d)) {b : Addr} (h : OwnA (σ.set i w) (ρ.set i s) b) : OwnA σ ρ b := by
  obtain ⟨j, h⟩ := h
  exact ⟨j, ((ownAt_set hs).mp h).2⟩
theorem Env.setN (E : Env F σ ρ H) (hp : noPot ρ i) {w : Option V} {s : Option Sl} (hs : ∀ r d, s ≠ some (.ow r d)) (hw : ∀ r d, s = some (.sh r d) → ∃ v, w = some v ∧ Rep F.K (F.RH (OwnA σ ρ) H r) v d) (hr : ∀ u, s = some u → RawP F.K F.sc (PaAt F) (F.RH (OwnA σ ρ) H) (some w) u) :
    Env F (σ.set i w) (ρ.set i s) H ∧ Stp (OwnA σ ρ) H (OwnA (σ.set i w) (ρ.set i s)) H := by
  have st : Stp (OwnA σ ρ) H (OwnA (σ.set i w) (ρ.set i s)) H := ⟨fun b o hb nb => ⟨hb, fun z => nb (own_set hs z)⟩, fun _ h => h⟩
  have up : ∀ r, Same (F.RH (OwnA σ ρ) H r) (F.RH (OwnA (σ.set i w) (ρ.set i s)) H r) := fun r => E.rh st
  have at_j : ∀ j, j ≠ i → (ρ.set i s)[j]? = ρ[j]? := fun j hj => List.getElem?_set_ne (Ne.symm hj)
  have as_j : ∀ j, j ≠ i → (σ.set i w)[j]? = σ[j]? := fun j hj => List.getElem?_set_ne (Ne.symm hj)
  have no_i : ∀ {r d}, (ρ.set i s)[i]? ≠ some (some (.ow r d)) := fun {r d} h1 => by
    by_cases hl : i < ρ.length
    · rw [List.getElem?_set_self hl] at h1
      exact hs _ _ (Option.some.inj h1)
    · rw [List.getElem?_eq_none (by simpa using hl)] at h1
      cases h1
  have of_i : ∀ {j : Nat} {r : Bool} {d : D}, (ρ.set i s)[j]? = some (some (.ow r d)) → ρ[j]? = some (some (.ow r d)) := fun {j r d} hj => by
    have hji : j ≠ i := fun z => by
      subst z
      exact no_i hj
    rw [at_j j hji] at hj
    exact hj
  refine ⟨⟨?_, E.keep, fun j rj dj hj => ?_, fun j rj dj hj => ?_, fun j k b hj hk => E.inj j k b ((ownAt_set hs).mp hj).2 ((ownAt_set hs).mp hk).2, fun b hb => ?_, E.hidIn, fun j rj dj hj => E.xo j rj dj (of_i hj), fun j rj dj b hj hb => E.xt j rj dj b (of_i hj) hb, E.pxIn, E.tp, E.hc, E.tc, E.sc, fun j v hj => ?_⟩, st⟩
  · rw [List.length_set, List.length_set]
    exact E.len
  · by_cases hji : j = i
    · subst hji
      by_cases hl : j < ρ.length
      · rw [List.getElem?_set_self hl] at hj
        obtain ⟨v, rfl, h2⟩ := hw rj dj (Option.some.inj hj)
        refine ⟨v, ?_, h2.mono (up rj)⟩
        rw [List.getElem?_set_self (by rw [E.len]; exact hl)]
      · rw [List.getElem?_eq_none (by simpa using hl)] at hj
        cases hj
    · rw [at_j j hji] at hj
      obtain ⟨v, h5, h6⟩ := E.sh j rj dj hj
      exact ⟨v, by rw [as_j j hji]; exact h5, h6.mono (up rj)⟩
  · have hji : j ≠ i := fun z => by
      subst z
      exact no_i hj
    rw [at_j j hji] at hj
    obtain ⟨b, h5, h6, h7, h8⟩ := E.ow j rj dj hj
    exact ⟨b, by rw [as_j j hji]; exact h5, h6.mono (up rj), h7, h8⟩
  · obtain ⟨r0, d0, h5, hd0, h6⟩ := E.pt b hb
    have : (0 : Nat) ≠ i := fun z => by
      subst z
      rw [hp _ _ rfl h5] at hd0
      cases hd0
    exact ⟨r0, d0, by rw [at_j 0 this]; exact h5, hd0, by rw [as_j 0 this]; exact h6⟩
  · by_cases hji : j = i
    · subst hji
      by_cases hl : j < ρ.length
      · rw [List.getElem?_set_self hl] at hj
        rw [List.getElem?_set_self (by rw [E.len]; exact hl)]
        exact (hr v (Option.some.inj hj)).mono up
      · rw [List.getElem?_eq_none (by simpa using hl)] at hj
        cases hj
    · rw [at_j j hji] at hj
      rw [as_j j hji]
      exact (E.raw j v hj).mono up
theorem Env.setSh (E : Env F σ ρ H) (hp : noPot ρ i) (h : Rep F.K (F.RH (OwnA σ ρ) H r) v d) :
    Env F (σ.set i (some v)) (ρ.set i (some (.sh r d))) H ∧ Stp (OwnA σ ρ) H (OwnA (σ.set i (some v)) (ρ.set i (some (.sh r d)))) H :=
  E.setN hp (fun _ _ z => by cases z) (fun r' d' z => by
    cases z
    exact ⟨v, rfl, h⟩) fun v z => by cases z; trivial
theorem Env.setNo (E : Env F σ ρ H) (hp : noPot ρ i) : Env F (σ.set i none) (ρ.set i none) H ∧ Stp (OwnA σ ρ) H (OwnA (σ.set i none) (ρ.set i none)) H :=
  E.setN hp (fun _ _ z => by cases z) (fun r' d' z => by cases z) fun v z => by cases z
/-- new things become a slot's own -/
theorem Env.setOwG {B : Addr → Prop} (E : Env (F.hideS B) σ ρ H) (hB : ∀ b, B b ↔ b = a ∨ b ∈ d.xtra) (hp : noPot ρ i) (hi : i < ρ.length) (h0 : ∀ b, B b → F.H0 b = none) (nh : ∀ b, B b → ¬ F.hid b) (ho : RepO F.K ((F.hideS B).RH (OwnA σ ρ) H r) (H a) d) (hxo : XtO H d) :
    Env F (σ.set i (some (.ref a))) (ρ.set i (some (.ow r d))) H ∧ ∀ O Hs, (∀ b, B b → Hs b = none) → Stp O Hs (OwnA σ ρ) H → Stp O Hs (OwnA (σ.set i (some (.ref a))) (ρ.set i (some (.ow r d)))) H := by
  have at_i : (ρ.set i (some (.ow r d)))[i]? = some (some (.ow r d)) := List.getElem?_set_self hi
  have as_i : (σ.set i (some (.ref a)))[i]? = some (some (.ref a)) := List.getElem?_set_self (by rw [E.len]; exact hi)
  have at_j : ∀ j, j ≠ i → (ρ.set i (some (.ow r d)))[j]? = ρ[j]? := fun j hj => List.getElem?_set_ne (Ne.symm hj)
  have as_j : ∀ j, j ≠ i → (σ.set i (some (.ref a)))[j]? = σ[j]? := fun j hj => List.getElem?_set_ne (Ne.symm hj)
  have Ba : B a := (hB a).mpr (.inl rfl)
  have ownI : ∀ j b, OwnAt (σ.set i (some (.ref a))) (ρ.set i (some (.ow r d))) j b → (j = i ∧ B b) ∨ (j ≠ i ∧ OwnAt σ ρ j b) := fun j b => by
    rintro ⟨rj, dj, h1, h2⟩
    by_cases hj : j = i
    · subst hj
      rw [at_i] at h1
      cases h1
      refine .inl ⟨rfl, (hB b).mpr (h2.imp_left fun z => ?_)⟩
      rw [as_i] at z
      cases z
      rfl
    · rw [at_j j hj] at h1
      rw [as_j j hj] at h2
      exact .inr ⟨hj, rj, dj, h1, h2⟩
  have own : ∀ b, OwnA (σ.set i (some (.ref a))) (ρ.set i (some (.ow r d))) b → B b ∨ OwnA σ ρ b := fun b ⟨j, h⟩ => by
    rcases ownI j b h with ⟨_, h⟩ | ⟨_, h⟩
    · exact .inl h
    · exact .inr ⟨j, h⟩
  have notB : ∀ j b, OwnAt σ ρ j b → ¬ B b := fun j b ⟨rj, dj, h1, h2⟩ hb => by
    rcases h2 with h2 | h2
    · obtain ⟨c, h5, _, h7, _⟩ := E.ow j rj dj h1
      rw [h2] at h5
      cases h5
      exact h7 (.inl hb)
    · exact (E.xt j rj dj b h1 h2).1 (.inl hb)
  have up : ∀ r', Same ((F.hideS B).RH (OwnA σ ρ) H r') (F.RH (OwnA (σ.set i (some (.ref a))) (ρ.set i (some (.ow r d)))) H r') := fun r' => by
    refine cut_mono (fun b o hb nb => ⟨hb, fun z => ?_⟩) fun b xs hb _ => hb
    rcases z with z | z | z
    · exact nb (.inl (.inr z))
    · rcases own b z with z | z
      · exact nb (.inl (.inl z))
      · exact nb (.inr (.inl z))
    · exact nb (.inr (.inr z))
  refine ⟨⟨?_, E.keep, fun j rj dj hj => ?_, fun j rj dj hj => ?_, fun j k b hj hk => ?_, fun b hb => ?_, fun b hb => E.hidIn b (.inr hb), fun j rj dj hj => ?_, fun j rj dj b hj hb => ?_, E.pxIn, E.tp, E.hc, E.tc, E.sc, fun j v hj => ?_⟩, fun O Hs hs st => ⟨fun b o hb nb => ?_, st.dom⟩⟩
  · rw [List.length_set, List.length_set]
    exact E.len
  · have hji : j ≠ i := fun z => by
      subst z
      rw [at_i] at hj
      cases hj
    rw [at_j j hji] at hj
    obtain ⟨v, h5, h6⟩ := E.sh j rj dj hj
    exact ⟨v, by rw [as_j j hji]; exact h5, h6.mono (up rj)⟩
  · by_cases hji : j = i
    · subst hji
      rw [at_i] at hj
      cases hj
      exact ⟨a, as_i, ho.mono (up _), nh a Ba, .inl (h0 a Ba)⟩
    · rw [at_j j hji] at hj
      obtain ⟨b, h5, h6, h7, h8⟩ := E.ow j rj dj hj
      exact ⟨b, by rw [as_j j hji]; exact h5, h6.mono (up rj), fun z => h7 (.inr z), h8⟩
  · rcases ownI j b hj with ⟨h1, h2⟩ | ⟨h1, h2⟩
    · rcases ownI k b hk with ⟨h3, h4⟩ | ⟨h3, h4⟩
      · rw [h1, h3]
      · exact absurd h2 (notB k b h4)
    · rcases ownI k b hk with ⟨h3, h4⟩ | ⟨h3, h4⟩
      · exact absurd h4 (notB j b h2)
      · exact E.inj j k b h2 h4
  · obtain ⟨r0, d0, h5, hd0, h6⟩ := E.pt b hb
    have : (0 : Nat) ≠ i := fun z => by
      subst z
      rw [hp _ _ rfl h5] at hd0
      cases hd0
    exact ⟨r0, d0, by rw [at_j 0 this]; exact h5, hd0, by rw [as_j 0 this]; exact h6⟩
  · by_cases hji : j = i
    · subst hji
      rw [at_i] at hj
      cases hj
      exact hxo
    · rw [at_j j hji] at hj
      exact E.xo j rj dj hj
  · by_cases hji : j = i
    · subst hji
      rw [at_i] at hj
      cases hj
      have Bb := (hB b).mpr (.inr hb)
      exact ⟨nh b Bb, .inl (h0 b Bb)⟩
    · rw [at_j j hji] at hj
      exact ⟨fun z => (E.xt j rj dj b hj hb).1 (.inr z), (E.xt j rj dj b hj hb).2⟩
  · by_cases hji : j = i
    · subst hji
      rw [at_i] at hj
      cases hj
      trivial
    · rw [at_j j hji] at hj
      rw [as_j j hji]
      exact (E.raw j v hj).mono up
  · obtain ⟨h1, h2⟩ := st.kp b o hb nb
    refine ⟨h1, fun z => ?_⟩
    rcases own b z with z | z
    · rw [hs b z] at hb
      cases hb
    · exact h2 z
theorem Env.setOw (E : Env (F.hide a) σ ρ H) (hp : noPot ρ i) (hi : i < ρ.length) (h0 : F.H0 a = none) (nh : ¬ F.hid a) (hd : d.isWlk = false) (ho : RepO F.K ((F.hide a).RH (OwnA σ ρ) H r) (H a) d) :
    Env F (σ.set i (some (.ref a))) (ρ.set i (some (.ow r d))) H ∧ ∀ O Hs, Hs a = none → Stp O Hs (OwnA σ ρ) H → Stp O Hs (OwnA (σ.set i (some (.ref a))) (ρ.set i (some (.ow r d)))) H := by
  obtain ⟨h1, h2⟩ := Env.setOwG (F := F) (B := (· = a)) E (fun b => by
    cases d with
    | wlk => cases hd
    | _ => exact ⟨.inl, fun z => z.resolve_right (by intro q; cases q)⟩) hp hi (fun b hb => by rw [hb]; exact h0) (fun b hb => by rw [hb]; exact nh) ho (by
    cases d with
    | wlk => cases hd
    | _ => trivial)
  exact ⟨h1, fun O Hs hs st => h2 O Hs (fun b hb => by rw [hb]; exact hs) st⟩
theorem RepO.rep {K : PySem.W.Frag} {Hr Hr' : Hp} (h : RepO K Hr (H a) d) (hd : d.isPot = false) (e : Same Hr Hr') (ha : ∀ o, H a = some o → Hr' a = some o) : Rep K Hr' (.ref a) d := by
  cases d with
  | lst ds =>
    obtain ⟨vs, h1, h2⟩ := h
    exact .lst (ha _ h1) (h2.mono e)
  | dK es =>
    obtain ⟨kvs, h1, h2, h3⟩ := h
    exact .dK (.inl (ha _ h1)) h2 (h3.mono e)
  | dT es =>
    obtain ⟨kvs, h1, h2, h3⟩ := h
    exact .dT (.inl (ha _ h1)) h2 (h3.mono e)
  | ins c es => cases hd
  | pot => cases hd
  | wlk => cases hd
  | _ => exact h.elim
/-- a slot's own thing is handed on: from now on it is only read -/
theorem Env.freeze (E : Env F σ ρ H) (h : ρ[i]? = some (some (.ow r d))) (hd : d.isPot = false) (hs : σ[i]? = some (some v)) :
    Env F σ (ρ.set i (some (.sh r d))) H ∧ Stp (OwnA σ ρ) H (OwnA σ (ρ.set i (some (.sh r d)))) H ∧ Rep F.K (F.RH (OwnA σ (ρ.set i (some (.sh r d)))) H r) v d := by
  obtain ⟨a, ha, h2, h3, h4⟩ := E.ow i r d h
  rw [hs] at ha
  cases ha
  have hi : i < ρ.length := (List.getElem?_eq_some_iff.mp h).1
  have np : F.pt ≠ some a := fun z => by
    obtain ⟨r0, d0, h5, hd0, h6⟩ := E.pt a z
    have := E.inj 0 i a ⟨_, _, h5, .inl h6⟩ ⟨_, _, h, .inl hs⟩
    subst this
    rw [h] at h5
    cases h5
    rw [hd] at hd0
    cases hd0
  have h0 : F.H0 a = none := by
    rcases h4 with h4 | h4 | h4
    · exact h4
    · exact absurd h4 np
    · rw [hd] at h4
      exact absurd h4.2 Bool.false_ne_true
  have at_i : (ρ.set i (some (.sh r d)))[i]? = some (some (.sh r d)) := List.getElem?_set_self hi
  have at_j : ∀ j, j ≠ i → (ρ.set i (some (.sh r d)))[j]? = ρ[j]? := fun j hj => List.getElem?_set_ne (Ne.symm hj)
  have ownI : ∀ j b, OwnAt σ (ρ.set i (some (.sh r d))) j b → j ≠ i ∧ OwnAt σ ρ j b := fun j b => by
    rintro ⟨rj, dj, h5, h6⟩
    have hj : j ≠ i := fun z => by
      subst z
      rw [at_i] at h5
      cases h5
    rw [at_j j hj] at h5
    exact ⟨hj, rj, dj, h5, h6⟩
  have own : ∀ b, OwnA σ (ρ.set i (some (.sh r d))) b → OwnA σ ρ b ∧ b ≠ a := fun b ⟨j, h5⟩ => by
    obtain ⟨hj, h5⟩ := ownI j b h5
    refine ⟨⟨j, h5⟩, fun z => ?_⟩
    subst z
    exact hj (E.inj j i b h5 ⟨_, _, h, .inl hs⟩)
  have st : Stp (OwnA σ ρ) H (OwnA σ (ρ.set i (some (.sh r d)))) H := ⟨fun b o hb nb => ⟨hb, fun z => nb (own b z).1⟩, fun _ h => h⟩
  have up : ∀ r', Same (F.RH (OwnA σ ρ) H r') (F.RH (OwnA σ (ρ.set i (some (.sh r d)))) H r') := fun r' => E.rh st
  have rep : Rep F.K (F.RH (OwnA σ (ρ.set i (some (.sh r d)))) H r) (.ref a) d := by
    refine h2.rep hd (up r) fun o ho => cut_of ho fun z => ?_
    rcases z with z | z | ⟨_, z⟩
    · exact h3 z
    · exact (own a z).2 rfl
    · exact z h0
  have of_i : ∀ {j : Nat} {r1 : Bool} {d1 : D}, (ρ.set i (some (.sh r d)))[j]? = some (some (.ow r1 d1)) → ρ[j]? = some (some (.ow r1 d1)) := fun {j r1 d1} hj => by
    have hji : j ≠ i := fun z => by
      subst z
      rw [at_i] at hj
      cases hj
    rw [at_j j hji] at hj
    exact hj
  refine ⟨⟨?_, E.keep, fun j rj dj hj => ?_, fun j rj dj hj => ?_, fun j k b hj hk => E.inj j k b (ownI j b hj).2 (ownI k b hk).2, fun b hb => ?_, E.hidIn, fun j rj dj hj => E.xo j rj dj (of_i hj), fun j rj dj b hj hb => E.xt j rj dj b (of_i hj) hb, E.pxIn, E.tp, E.hc, E.tc, E.sc, fun j v hj => ?_⟩, st, rep⟩
  · rw [List.length_set]
    exact E.len
  · by_cases hji : j = i
    · subst hji
      rw [at_i] at hj
      cases hj
      exact ⟨_, hs, rep⟩
    · rw [at_j j hji] at hj
      obtain ⟨v, h5, h6⟩ := E.sh j rj dj hj
      exact ⟨v, h5, h6.mono (up rj)⟩
  · have hji : j ≠ i := fun z => by
      subst z
      rw [at_i] at hj
      cases hj
    rw [at_j j hji] at hj
    obtain ⟨b, h5, h6, h7, h8⟩ := E.ow j rj dj hj
    exact ⟨b, h5, h6.mono (up rj), h7, h8⟩
  · obtain ⟨r0, d0, h5, hd0, h6⟩ := E.pt b hb
    have : (0 : Nat) ≠ i := fun z => by
      subst z
      rw [h] at h5
      cases h5
      rw [hd] at hd0
      cases hd0
    exact ⟨r0, d0, by rw [at_j 0 this]; exact h5, hd0, h6⟩
  · by_cases hji : j = i
    · subst hji
      rw [at_i] at hj
      cases hj
      trivial
    · rw [at_j j hji] at hj
      exact (E.raw j v hj).mono up
end
/-! ### values -/
inductive DV where
  | v (r : Bool) (d : D) | al (i : Nat) | fr (r : Bool) (d : D)
def RepV (F : Fr) (Hs : Hp) (σ : L2.St) (ρ : DEnv) (H : Hp) (v : V) : DV → Prop
  | .v r d => Rep F.K (F.RH (OwnA σ ρ) H r) v d
  | .al i => σ[i]? = some (some v)
  | .fr r d => ∃ a, v = .ref a ∧ Hs a = none ∧ ¬ F.hid a ∧ F.H0 a = none ∧ d.isPot = false ∧ Env (F.hide a) σ ρ H ∧ RepO F.K ((F.hide a).RH (OwnA σ ρ) H r) (H a) d
def DV.tmp : DV → DV
  | .fr r d => .v r d
  | x => x
def owRd (r : Bool) (d : D) : Option (Bool × D) := match d.isWlk with
  | true => none
  | false => some (r, d)
theorem owRd_of {r r' : Bool} {d d' : D} (h : owRd r d = some (r', d')) : r = r' ∧ d = d' ∧ d.isWlk = false := by
  unfold owRd at h
  split at h
  · cases h
  · rename_i z
    cases h
    exact ⟨rfl, rfl, z⟩
def rd (ρ : DEnv) : DV → Option (Bool × D)
  | .v r d => some (r, d)
  | .fr r d => some (r, d)
  | .al i => match ρ[i]? with
    | some (some (.sh r d)) => some (r, d)
    | some (some (.ow r d)) => owRd r d
    | _ => none
def st (ρ : DEnv) : DV → Option (Bool × D × DEnv)
  | .v r d => some (r || d.imm, d, ρ)
  | .fr r d => some (r, d, ρ)
  | .al i => match ρ[i]? with
    | some (some (.sh r d)) => some (r || d.imm, d, ρ)
    | some (some (.ow r d)) => if d.isPot = true then none else some (r, d, ρ.set i (some (.sh r d)))
    | _ => none
/-- the thing itself by the heap, its parts by Hr -/
def TopD (K : PySem.W.Frag) (H Hr : Hp) (v : V) : D → Prop
  | .lst ds => ∃ a vs, v = .ref a ∧ H a = some (.lst vs) ∧ RepL K Hr vs ds
  | .tup ds => ∃ a vs, v = .ref a ∧ H a = some (.tup vs) ∧ RepL K Hr vs ds
  | .dK es => ∃ a kvs, v = .ref a ∧ Rd H a (.dK kvs) ∧ kvs.map (·.1) = es.map (·.1) ∧ RepL K Hr (kvs.map (·.2)) (es.map (·.2))
  | .dT es => ∃ a kvs, v = .ref a ∧ Rd H a (.dT kvs) ∧ kvs.map (·.1) = es.map (·.1) ∧ RepL K Hr (kvs.map (·.2)) (es.map (·.2))
  | .ins c es => ∃ a dx fs, v = .ref a ∧ H a = some (.ins (He.ga K c) dx fs) ∧ fs.map (·.1) = es.map (·.1) ∧ RepL K Hr (fs.map (·.2)) (es.map (·.2))
  | .pot => ∃ p, v = .ref p ∧ Pot H p
  | .wlk _ _ _ _ => False
  | .non => v = .non
  | .bl b => v = .bl b
  | .int i => v = .int i
  | .str s => v = .str s
  | .ty n => v = .ty n
theorem Rep.top {K : PySem.W.Frag} {H Hr : Hp} {v : V} {d : D} (h : Rep K Hr v d) (e : Same Hr H) : TopD K H Hr v d := by
  cases h with
  | non => rfl
  | bl b => rfl
  | int i => rfl
  | str s => rfl
  | ty n => rfl
  | lst h g => exact ⟨_, _, rfl, e _ _ h, g⟩
  | tup h g => exact ⟨_, _, rfl, e _ _ h, g⟩
  | dK h k g => exact ⟨_, _, rfl, Rd.same e h, k, g⟩
  | dT h k g => exact ⟨_, _, rfl, Rd.same e h, k, g⟩
  | ins h k g => exact ⟨_, _, _, rfl, e _ _ h, k, g⟩
theorem TopD.rep {K : PySem.W.Frag} {H Hr : Hp} {v : V} {d : D} (h : TopD K H Hr v d) (e : Same Hr H) (hd : d ≠ .pot) : Rep K H v d := by
  cases d with
  | non => cases h; exact .non
  | bl b => cases h; exact .bl b
  | int i => cases h; exact .int i
  | str s => cases h; exact .str s
  | ty n => cases h; exact .ty n
  | lst ds => obtain ⟨a, vs, rfl, h, g⟩ := h; exact .lst h (g.mono e)
  | tup ds => obtain ⟨a, vs, rfl, h, g⟩ := h; exact .tup h (g.mono e)
  | dK es => obtain ⟨a, vs, rfl, h, k, g⟩ := h; exact .dK h k (g.mono e)
  | dT es => obtain ⟨a, vs, rfl, h, k, g⟩ := h; exact .dT h k (g.mono e)
  | ins c es => obtain ⟨a, dx, vs, rfl, h, k, g⟩ := h; exact .ins h k (g.mono e)
  | wlk => exact h.elim
  | pot => exact absurd rfl hd
theorem RepO.top {K : PySem.W.Frag} {H Hr : Hp} {a : Addr} {d : D} (h : RepO K Hr (H a) d) (hw : d.isWlk = false) : TopD K H Hr (.ref a) d := by
  cases d with
  | lst ds => obtain ⟨vs, h1, h2⟩ := h; exact ⟨a, vs, rfl, h1, h2⟩
  | dK es => obtain ⟨kvs, h1, h2, h3⟩ := h; exact ⟨a, kvs, rfl, .inl h1, h2, h3⟩
  | dT es => obtain ⟨kvs, h1, h2, h3⟩ := h; exact ⟨a, kvs, rfl, .inl h1, h2, h3⟩
  | ins c es => obtain ⟨dx, kvs, h1, h2, h3⟩ := h; exact ⟨a, dx, kvs, rfl, h1, h2, h3⟩
  | pot => obtain ⟨x, y, h1, h2, h3⟩ := h; exact ⟨a, rfl, x, y, h1, h2, h3⟩
  | wlk => cases hw
  | _ => exact h.elim
theorem TopD.mono {K : PySem.W.Frag} {H Hr Hr' : Hp} {v : V} {d : D} (h : TopD K H Hr v d) (e : Same Hr Hr') : TopD K H Hr' v d := by
  cases d with
  | lst ds => obtain ⟨a, vs, h0, h, g⟩ := h; exact ⟨a, vs, h0, h, g.mono e⟩
  | tup ds => obtain ⟨a, vs, h0, h, g⟩ := h; exact ⟨a, vs, h0, h, g.mono e⟩
  | dK es => obtain ⟨a, vs, h0, h, k, g⟩ := h; exact ⟨a, vs, h0, h, k, g.mono e⟩
  | dT es => obtain ⟨a, vs, h0, h, k, g⟩ := h; exact ⟨a, vs, h0, h, k, g.mono e⟩
  | ins c es => obtain ⟨a, dx, vs, h0, h, k, g⟩ := h; exact ⟨a, dx, vs, h0, h, k, g.mono e⟩
  | _ => exact h
section
variable {F : Fr} {Hs : Hp} {σ : L2.St} {ρ ρ' : DEnv} {H H' : Hp} {i : Nat} {r : Bool} {d : D} {v : V} {dv : DV}
theorem RepV.fr_rep (h : RepV F Hs σ ρ H v (.fr r d)) : Rep F.K (F.RH (OwnA σ ρ) H r) v d := by
  obtain ⟨a, rfl, h1, h2, h3, h4, h5, h6⟩ := h
  refine h6.rep h4 unhide_rh fun o ho => cut_of ho fun z => ?_
  rcases z with z | z | ⟨_, z⟩
  · exact h2 z
  · obtain ⟨j, r, d, g1, g2⟩ := z
    rcases g2 with g2 | g2
    · obtain ⟨b, g3, _, g5, _⟩ := h5.ow j r d g1
      rw [g2] at g3
      cases g3
      exact g5 (.inl rfl)
    · exact (h5.xt j r d a g1 g2).1 (.inl rfl)
  · exact z h3
theorem RepV.stp (E : Env F σ ρ H) (h : RepV F Hs σ ρ H v dv) (s : Stp (OwnA σ ρ) H (OwnA σ ρ') H') {Hs' : Hp} : RepV F Hs' σ ρ' H' v dv.tmp := by
  cases dv with
  | v r d => exact Rep.mono (E.rh s) h
  | al i => exact h
  | fr r d => exact Rep.mono (E.rh s) h.fr_rep
theorem rh_le {O : Addr → Prop} : Same (F.RH O H r) H := cut_le
theorem RepV.top (E : Env F σ ρ H) (h : RepV F Hs σ ρ H v dv) (e : rd ρ dv = some (r, d)) : TopD F.K H (F.RH (OwnA σ ρ) H r) v d := by
  cases dv with
  | v r d =>
    cases e
    exact Rep.top h rh_le
  | fr r d =>
    cases e
    exact Rep.top h.fr_rep rh_le
  | al i =>
    simp only [rd] at e
    split at e
    · rename_i r' d' hi
      cases e
      obtain ⟨w, h1, h2⟩ := E.sh i _ _ hi
      rw [show σ[i]? = some (some v) from h] at h1
      cases h1
      exact h2.top rh_le
    · rename_i r' d' hi
      obtain ⟨rfl, rfl, hw⟩ := owRd_of e
      obtain ⟨a, h1, h2, _⟩ := E.ow i _ _ hi
      rw [show σ[i]? = some (some v) from h] at h1
      cases h1
      exact h2.top hw
    · cases e
theorem Rep.up (h : Rep F.K (F.RH (OwnA σ ρ) H r) v d) : Rep F.K (F.RH (OwnA σ ρ) H (r || d.imm)) v d := by
  by_cases e : d.imm = true
  · exact (h.mono rh_le).imm e
  · rw [Bool.eq_false_iff.mpr e, Bool.or_false]
    exact h
theorem RepV.st (E : Env F σ ρ H) (h : RepV F Hs σ ρ H v dv) (e : st ρ dv = some (r, d, ρ')) : Env F σ ρ' H ∧ Stp (OwnA σ ρ) H (OwnA σ ρ') H ∧ Rep F.K (F.RH (OwnA σ ρ') H r) v d := by
  cases dv with
  | v r d =>
    cases e
    exact ⟨E, .refl _ _, Rep.up h⟩
  | fr r d =>
    cases e
    exact ⟨E, .refl _ _, h.fr_rep⟩
  | al i =>
    simp only [PW.st] at e
    split at e
    · rename_i r' d' hi
      cases e
      obtain ⟨w, h1, h2⟩ := E.sh i _ _ hi
      rw [show σ[i]? = some (some v) from h] at h1
      cases h1
      exact ⟨E, .refl _ _, h2.up⟩
    · rename_i r' d' hi
      split at e
      · cases e
      · rename_i np
        cases e
        exact E.freeze hi (Bool.eq_false_iff.mpr np) h
    · cases e
end
end PW

namespace PW
open PySem PySem.Spec PyProof.Rows L2
/-! ## readings by data -/
abbrev XC := Exn → DEnv → Prop
abbrev DW := XC → DEnv → (DV → DEnv → Prop) → Prop
abbrev DTW := XC → DEnv → (Bool → DEnv → Prop) → Prop
abbrev DAW := XC → DEnv → (List DV → DEnv → Prop) → Prop
abbrev DR2W := Bool × D → Bool × D → (DV → Prop) → Prop
abbrev DR1W := List (Bool × D) → (DV → Prop) → Prop
structure DEnds where
  nx : DEnv → Prop
  rt : D → DEnv → Prop
  bk : DEnv → Prop
  ct : DEnv → Prop
abbrev DSW := XC → DEnds → DEnv → Prop
abbrev Items := List (Bool × D)
abbrev DIW := XC → DEnv → (Items → DEnv → Prop) → Prop
abbrev DGW := Bool × D → DEnv → (DEnv → Prop) → Prop
abbrev WXT := Value → Option Addr → L2.St → Hp → Prop
def XLink (F : Fr) (W : WXT) (X : XC) (σ : L2.St) (ρ : DEnv) (H : Hp) : Prop :=
  ∀ x ρ' σ' dd H', X x ρ' → Env F σ' ρ' H' → Stp (OwnA σ ρ) H (OwnA σ' ρ') H' → XRep F.K (F.RH (OwnA σ' ρ') H' true) dd x → W (.ref (He.ga F.K x.c)) dd σ' H'
theorem XLink.stp {F : Fr} {W : WXT} {X : XC} {σ σ' : L2.St} {ρ ρ' : DEnv} {H H' : Hp} (h : XLink F W X σ ρ H) (s : Stp (OwnA σ ρ) H (OwnA σ' ρ') H') : XLink F W X σ' ρ' H' :=
  fun x ρ'' σ'' dd H'' a b c => h x ρ'' σ'' dd H'' a b (s.trans c)
def noX : XC := fun _ _ => False
theorem XLink.no {F : Fr} {W : WXT} {σ : L2.St} {ρ : DEnv} {H : Hp} : XLink F W noX σ ρ H := fun _ _ _ _ _ a => a.elim
class DE (K : PySem.W.Frag) (W : WXT) (t : TE) (w : outParam DW) : Prop where
  ok : ∀ {F : Fr} {σ : L2.St} {H : Hp} {ρ : DEnv} {X : XC} {R : DV → DEnv → Prop} {Q : VK}, F.K = K → Env F σ ρ H → XLink F W X σ ρ H → w X ρ R →
    (∀ dv ρ' v H', R dv ρ' → Env F σ ρ' H' → Stp (OwnA σ ρ) H (OwnA σ ρ') H' → RepV F H σ ρ' H' v dv → Q v H') → t σ H Q
class DT (K : PySem.W.Frag) (W : WXT) (t : TT) (w : outParam DTW) : Prop where
  ok : ∀ {F : Fr} {σ : L2.St} {H : Hp} {ρ : DEnv} {X : XC} {R : Bool → DEnv → Prop} {Q : Bool → Hp → Prop}, F.K = K → Env F σ ρ H → XLink F W X σ ρ H → w X ρ R →
    (∀ b ρ' H', R b ρ' → Env F σ ρ' H' → Stp (OwnA σ ρ) H (OwnA σ ρ') H' → Q b H') → t σ H Q
class DA (K : PySem.W.Frag) (W : WXT) (t : TA) (w : outParam DAW) : Prop where
  ok : ∀ {F : Fr} {σ : L2.St} {H : Hp} {ρ : DEnv} {X : XC} {R : List DV → DEnv → Prop} {Q : List V → Hp → Prop}, F.K = K → Env F σ ρ H → XLink F W X σ ρ H → w X ρ R →
    (∀ dvs ρ' vs H', R dvs ρ' → Env F σ ρ' H' → Stp (OwnA σ ρ) H (OwnA σ ρ') H' → Paired (fun v dv => RepV F H σ ρ' H' v dv) vs dvs → Q vs H') → t σ H Q
class DR2 (K : PySem.W.Frag) (r : R2) (w : outParam DR2W) : Prop where
  ok : ∀ {F : Fr} {σ : L2.St} {H : Hp} {ρ : DEnv} {p q : Bool × D} {x y : V} {R : DV → Prop} {Q : VK}, F.K = K → Env F σ ρ H → TopD K H (F.RH (OwnA σ ρ) H p.1) x p.2 → TopD K H (F.RH (OwnA σ ρ) H q.1) y q.2 → w p q R →
    (∀ dv v H', R dv → Same H H' → RepV F H σ ρ H' v dv → Q v H') → r x y H Q
/-- things as they are read -/
def Tops (K : PySem.W.Frag) (F : Fr) (O : Addr → Prop) (H : Hp) : List V → List (Bool × D) → Prop := Paired fun v p => TopD K H (F.RH O H p.1) v p.2
class DR1 (K : PySem.W.Frag) (r : List V → Hp → VK → Prop) (w : outParam DR1W) : Prop where
  ok : ∀ {F : Fr} {σ : L2.St} {H : Hp} {ρ : DEnv} {ps : List (Bool × D)} {xs : List V} {R : DV → Prop} {Q : VK}, F.K = K → Env F σ ρ H → Tops K F (OwnA σ ρ) H xs ps → w ps R →
    (∀ dv v H', R dv → Same H H' → RepV F H σ ρ H' v dv → Q v H') → r xs H Q
class DS (K : PySem.W.Frag) (W : WXT) (t : TS) (w : outParam DSW) : Prop where
  ok : ∀ {F : Fr} {σ : L2.St} {H : Hp} {ρ : DEnv} {X : XC} {E : DEnds} {Dn : Ends}, F.K = K → Env F σ ρ H → XLink F W X σ ρ H → w X E ρ →
    (∀ ρ' σ' H', E.nx ρ' → Env F σ' ρ' H' → Stp (OwnA σ ρ) H (OwnA σ' ρ') H' → Dn.nx σ' H') →
    (∀ ρ' σ' H', E.bk ρ' → Env F σ' ρ' H' → Stp (OwnA σ ρ) H (OwnA σ' ρ') H' → Dn.bk σ' H') →
    (∀ ρ' σ' H', E.ct ρ' → Env F σ' ρ' H' → Stp (OwnA σ ρ) H (OwnA σ' ρ') H' → Dn.ct σ' H') →
    (∀ d ρ' σ' v H', E.rt d ρ' → Env F σ' ρ' H' → Stp (OwnA σ ρ) H (OwnA σ' ρ') H' → Rep F.K (F.RH (OwnA σ' ρ') H' true) v d → Dn.rt v H') → t Dn σ H
/-! ### where a reading waits -/
@[irreducible] def ifC (b : Bool) (p q : Prop) : Prop := if b = true then p else q
theorem ifC_t (p q : Prop) : ifC true p q = p := by
  unfold ifC
  exact if_pos rfl
theorem ifC_f (p q : Prop) : ifC false p q = q := by
  unfold ifC
  exact if_neg Bool.false_ne_true
theorem ifC.t {p q : Prop} (h : ifC true p q) : p := (ifC_t p q).mp h
theorem ifC.f {p q : Prop} (h : ifC false p q) : q := (ifC_f p q).mp h
theorem ifC_of {b : Bool} {p q : Prop} (h1 : b = true → p) (h2 : b = false → q) : ifC b p q := by
  cases b with
  | true => exact (ifC_t p q).mpr (h1 rfl)
  | false => exact (ifC_f p q).mpr (h2 rfl)
theorem ifC_then {b : Bool} {p q : Prop} (e : b = true) (h : p) : ifC b p q := ifC_of (fun _ => h) fun z => by rw [e] at z; cases z
theorem ifC_else {b : Bool} {p q : Prop} (e : b = false) (h : q) : ifC b p q := ifC_of (fun z => by rw [e] at z; cases z) fun _ => h
/-! ### names, constants, operators -/
def flatD : V → Option D
  | .non => some .non
  | .bl b => some (.bl b)
  | .int i => some (.int i)
  | .str s => some (.str s)
  | .ty n => some (.ty n)
  | _ => none
theorem flatD_rep {K : PySem.W.Frag} {H : Hp} {v : V} {d : D} (h : flatD v = some d) : Rep K H v d := by
  cases v with
  | non => cases h; exact .non
  | bl b => cases h; exact .bl b
  | int b => cases h; exact .int b
  | str b => cases h; exact .str b
  | ty b => cases h; exact .ty b
  | _ => cases h
theorem flatD_top {K : PySem.W.Frag} {H Hr : Hp} {v : V} {d : D} (h : flatD v = some d) : TopD K H Hr v d := by
  cases v with
  | non => cases h; rfl
  | bl b => cases h; rfl
  | int b => cases h; rfl
  | str b => cases h; rfl
  | ty b => cases h; rfl
  | _ => cases h
def dVar (i : Nat) : DW := fun _ ρ R => match ρ[i]? with
  | some (some (.sh r d)) => R (.v r d) ρ
  | some (some (.ow _ _)) => R (.al i) ρ
  | some (some (.lk r d)) => R (.v r d) ρ
  | some (some (.pa _ d)) => R (.v false d) ρ
  | some (some (.po d)) => R (.v false d) ρ
  | _ => False
def dC (v : V) : DW := fun _ ρ R => match flatD v with
  | some d => R (.v true d) ρ
  | none => False
section
variable {K : PySem.W.Frag} {W : WXT}
instance {i : Nat} : DE K W (tVar i) (dVar i) where
  ok := fun {F σ H ρ X R Q} hK E L h q => by
    unfold dVar at h
    split at h
    · rename_i r d hi
      obtain ⟨v, h1, h2⟩ := E.sh i r d hi
      exact ⟨v, h1, q _ ρ v H h E (.refl _ _) h2⟩
    · rename_i r d hi
      obtain ⟨a, h1, _⟩ := E.ow i r d hi
      exact ⟨.ref a, h1, q _ ρ _ H h E (.refl _ _) h1⟩
    · rename_i r d hi
      obtain ⟨a, h1, h2⟩ := E.raw i _ hi
      exact ⟨.ref a, h1, q _ ρ _ H h E (.refl _ _) h2.rep⟩
    · rename_i r d hi
      obtain ⟨v, h1, h2⟩ := E.raw i _ hi
      exact ⟨v, h1, q _ ρ _ H h E (.refl _ _) (PaAt.rep E h2)⟩
    · rename_i d hi
      obtain ⟨v, h1, h2⟩ := E.raw i _ hi
      exact ⟨v, h1, q _ ρ _ H h E (.refl _ _) (PaAt.rep E (PaAt.old E h2))⟩
    · exact h.elim
instance {v : V} : DE K W (tC v) (dC v) where
  ok := fun {F σ H ρ X R Q} hK E L h q => by
    unfold dC at h
    split at h
    · rename_i d hd
      exact q _ ρ v H h E (.refl _ _) (flatD_rep (K := F.K) hd)
    · exact h.elim
def dOp (w : DR2W) (wa wb : DW) : DW := fun X ρ R => wa X ρ fun x ρ1 => wb X ρ1 fun y ρ2 => match rd ρ2 x, rd ρ2 y with
  | some p, some q => w p q fun z => R z ρ2
  | _, _ => False
theorem rd_tmp {ρ : DEnv} {x : DV} : rd ρ x.tmp = rd ρ x := by
  cases x <;> rfl
/-- a fresh thing of a later step is fresh for the whole -/
theorem RepV.early {F : Fr} {H1 H : Hp} {σ : L2.St} {ρ : DEnv} {H' : Hp} {v : V} {dv : DV} {O O1 : Addr → Prop} (h : RepV F H1 σ ρ H' v dv) (s : Stp O H O1 H1) : RepV F H σ ρ H' v dv := by
  cases dv with
  | v r d => exact h
  | al i => exact h
  | fr r d =>
    obtain ⟨a, h1, h2, h3⟩ := h
    exact ⟨a, h1, s.dom a h2, h3⟩
instance {r : R2} {w : DR2W} {ta tb : TE} {wa wb : DW} [A : DE K W ta wa] [B : DE K W tb wb] [C : DR2 K r w] : DE K W (tOp r ta tb) (dOp w wa wb) where
  ok := fun {F σ H ρ X R Q} hK E L h q => by
    refine A.ok hK E L h fun x ρ1 v H1 h1 E1 s1 r1 => ?_
    refine B.ok hK E1 (L.stp s1) h1 fun y ρ2 u H2 h2 E2 s2 r2 => ?_
    have r1' : RepV F H σ ρ2 H2 v x.tmp := r1.stp E1 s2
    split at h2
    · rename_i p q' hp hq
      subst hK
      refine C.ok rfl E2 (r1'.top E2 (by rw [rd_tmp]; exact hp)) (r2.top E2 hq) h2 fun dv z H3 h3 s3 r3 => ?_
      exact q dv ρ2 z H3 h3 (E2.grow s3) ((s1.trans s2).trans (.same s3)) (r3.early (s1.trans s2))
    · exact h2.elim
/-- two flat things -/
def dI0 (g : Int → Int → V) : DR2W := fun p q R => match p.2, q.2 with
  | .int i, .int j => match flatD (g i j) with
    | some d => R (.v true d)
    | none => False
  | _, _ => False
instance {g : Int → Int → V} : DR2 K (rI0 g) (dI0 g) where
  ok := fun {F σ H ρ p q x y R Q} hK E hx hy h k => by
    unfold dI0 at h
    split at h
    · rename_i i j hp hq
      rw [hp] at hx
      rw [hq] at hy
      split at h
      · rename_i d hd
        exact ⟨i, j, hx, hy, k _ _ H h (.refl _) (flatD_rep (K := F.K) hd)⟩
      · exact h.elim
    · exact h.elim
def dIc (C : Int → Int → Prop) (g : Int → Int → V) : DR2W := fun p q R => match p.2, q.2 with
  | .int i, .int j => C i j ∧ match flatD (g i j) with
    | some d => R (.v true d)
    | none => False
  | _, _ => False
instance {C : Int → Int → Prop} {g : Int → Int → V} : DR2 K (rI C g) (dIc C g) where
  ok := fun {F σ H ρ p q x y R Q} hK E hx hy h k => by
    unfold dIc at h
    split at h
    · rename_i i j hp hq
      rw [hp] at hx
      rw [hq] at hy
      obtain ⟨hc, h⟩ := h
      split at h
      · rename_i d hd
        exact ⟨i, j, hx, hy, hc, k _ _ H h (.refl _) (flatD_rep (K := F.K) hd)⟩
      · exact h.elim
    · exact h.elim
end
end PW

namespace PW
open PySem PySem.Spec PyProof.Rows L2
section
variable {K : PySem.W.Frag} {W : WXT}
/-! ### tests -/
def dB (w : DW) : DTW := fun X ρ R => w X ρ fun x ρ1 => match rd ρ1 x with
  | some (_, .bl c) => R c ρ1
  | _ => False
theorem rd_bl {F : Fr} {Hs : Hp} {σ : L2.St} {ρ : DEnv} {H : Hp} {v : V} {dv : DV} {r : Bool} {c : Bool} (E : Env F σ ρ H) (h : RepV F Hs σ ρ H v dv) (e : rd ρ dv = some (r, .bl c)) : v = .bl c := h.top E e
instance {t : TE} {w : DW} [A : DE K W t w] : DT K W (tB t) (dB w) where
  ok := fun {F σ H ρ X R Q} hK E L h q => by
    refine A.ok hK E L h fun x ρ1 v H1 h1 E1 s1 r1 => ?_
    split at h1
    · rename_i r c e
      exact ⟨c, rd_bl E1 r1 e, q c ρ1 H1 h1 E1 s1⟩
    · exact h1.elim
instance {t : TE} {w : DW} [A : DE K W t w] : DT K W (tTest t) (dB w) where
  ok := fun {F σ H ρ X R Q} hK E L h q => by
    refine A.ok hK E L h fun x ρ1 v H1 h1 E1 s1 r1 => ?_
    split at h1
    · rename_i r c e
      exact ⟨c, rd_bl E1 r1 e, q c ρ1 H1 h1 E1 s1⟩
    · exact h1.elim
def dAnd (w u : DTW) : DTW := fun X ρ R => w X ρ fun c ρ1 => ifC c (u X ρ1 R) (R false ρ1)
def dOr (w u : DTW) : DTW := fun X ρ R => w X ρ fun c ρ1 => ifC c (R true ρ1) (u X ρ1 R)
def dNot (w : DTW) : DTW := fun X ρ R => w X ρ fun c ρ1 => R (!c) ρ1
def dYes : DTW := fun _ ρ R => R true ρ
instance {t u : TT} {w y : DTW} [A : DT K W t w] [B : DT K W u y] : DT K W (tAnd t u) (dAnd w y) where
  ok := fun {F σ H ρ X R Q} hK E L h q => by
    refine A.ok hK E L h fun c ρ1 H1 h1 E1 s1 => ?_
    cases c with
    | true => exact B.ok hK E1 (L.stp s1) h1.t fun b ρ2 H2 h2 E2 s2 => q b ρ2 H2 h2 E2 (s1.trans s2)
    | false => exact q false ρ1 H1 h1.f E1 s1
instance {t u : TT} {w y : DTW} [A : DT K W t w] [B : DT K W u y] : DT K W (tOr t u) (dOr w y) where
  ok := fun {F σ H ρ X R Q} hK E L h q => by
    refine A.ok hK E L h fun c ρ1 H1 h1 E1 s1 => ?_
    cases c with
    | false => exact B.ok hK E1 (L.stp s1) h1.f fun b ρ2 H2 h2 E2 s2 => q b ρ2 H2 h2 E2 (s1.trans s2)
    | true => exact q true ρ1 H1 h1.t E1 s1
instance {t : TT} {w : DTW} [A : DT K W t w] : DT K W (tNot t) (dNot w) where
  ok := fun {F σ H ρ X R Q} hK E L h q => A.ok hK E L h fun c ρ1 H1 h1 E1 s1 => q (!c) ρ1 H1 h1 E1 s1
instance : DT K W tYes dYes where
  ok := fun {F σ H ρ X R Q} hK E L h q => q true ρ H h E (.refl _ _)
/-! ### and, or, not, if as values -/
def dAndV (w u : DW) : DW := fun X ρ R => w X ρ fun x ρ1 => match rd ρ1 x with
  | some (_, .bl c) => ifC c (u X ρ1 R) (R (.v true (.bl false)) ρ1)
  | _ => False
def dOrV (w u : DW) : DW := fun X ρ R => w X ρ fun x ρ1 => match rd ρ1 x with
  | some (_, .bl c) => ifC c (R (.v true (.bl true)) ρ1) (u X ρ1 R)
  | _ => False
def dNotV (w : DW) : DW := fun X ρ R => w X ρ fun x ρ1 => match rd ρ1 x with
  | some (_, .bl c) => R (.v true (.bl (!c))) ρ1
  | _ => False
def dIf (c : DTW) (w u : DW) : DW := fun X ρ R => c X ρ fun b ρ1 => ifC b (w X ρ1 R) (u X ρ1 R)
instance {t u : TE} {w y : DW} [A : DE K W t w] [B : DE K W u y] : DE K W (tAndV t u) (dAndV w y) where
  ok := fun {F σ H ρ X R Q} hK E L h q => by
    refine A.ok hK E L h fun x ρ1 v H1 h1 E1 s1 r1 => ?_
    split at h1
    · rename_i r c e
      refine ⟨c, rd_bl E1 r1 e, ?_⟩
      cases c with
      | true => exact B.ok hK E1 (L.stp s1) h1.t fun b ρ2 v2 H2 h2 E2 s2 r2 => q b ρ2 v2 H2 h2 E2 (s1.trans s2) (r2.early s1)
      | false => exact q _ ρ1 _ H1 h1.f E1 s1 (.bl false)
    · exact h1.elim
instance {t u : TE} {w y : DW} [A : DE K W t w] [B : DE K W u y] : DE K W (tOrV t u) (dOrV w y) where
  ok := fun {F σ H ρ X R Q} hK E L h q => by
    refine A.ok hK E L h fun x ρ1 v H1 h1 E1 s1 r1 => ?_
    split at h1
    · rename_i r c e
      refine ⟨c, rd_bl E1 r1 e, ?_⟩
      cases c with
      | false => exact B.ok hK E1 (L.stp s1) h1.f fun b ρ2 v2 H2 h2 E2 s2 r2 => q b ρ2 v2 H2 h2 E2 (s1.trans s2) (r2.early s1)
      | true => exact q _ ρ1 _ H1 h1.t E1 s1 (.bl true)
    · exact h1.elim
instance {t : TE} {w : DW} [A : DE K W t w] : DE K W (tNotV t) (dNotV w) where
  ok := fun {F σ H ρ X R Q} hK E L h q => by
    refine A.ok hK E L h fun x ρ1 v H1 h1 E1 s1 r1 => ?_
    split at h1
    · rename_i r c e
      exact ⟨c, rd_bl E1 r1 e, q _ ρ1 _ H1 h1 E1 s1 (.bl (!c))⟩
    · exact h1.elim
instance {c : TT} {t u : TE} {wc : DTW} {w y : DW} [C : DT K W c wc] [A : DE K W t w] [B : DE K W u y] : DE K W (tIf c t u) (dIf wc w y) where
  ok := fun {F σ H ρ X R Q} hK E L h q => by
    refine C.ok hK E L h fun b ρ1 H1 h1 E1 s1 => ?_
    cases b with
    | true => exact A.ok hK E1 (L.stp s1) h1.t fun b ρ2 v2 H2 h2 E2 s2 r2 => q b ρ2 v2 H2 h2 E2 (s1.trans s2) (r2.early s1)
    | false => exact B.ok hK E1 (L.stp s1) h1.f fun b ρ2 v2 H2 h2 E2 s2 r2 => q b ρ2 v2 H2 h2 E2 (s1.trans s2) (r2.early s1)
def dChain (w w' : DR2W) (wa wb wc : DW) : DW := fun X ρ R => wa X ρ fun x ρ1 => wb X ρ1 fun y ρ2 => match rd ρ2 x, rd ρ2 y with
  | some p, some q => w p q fun z => match z with
    | .v _ (.bl k) => ifC k (wc X ρ2 fun u ρ3 => match rd ρ3 y, rd ρ3 u with
        | some q, some s => w' q s fun z => R z ρ3
        | _, _ => False) (R (.v true (.bl false)) ρ2)
    | _ => False
  | _, _ => False
instance {r r' : R2} {w w' : DR2W} {ta tb tc : TE} {wa wb wc : DW} [A : DE K W ta wa] [B : DE K W tb wb] [C : DE K W tc wc] [S : DR2 K r w] [S' : DR2 K r' w'] : DE K W (tChain r r' ta tb tc) (dChain w w' wa wb wc) where
  ok := fun {F σ H ρ X R Q} hK E L h q => by
    refine A.ok hK E L h fun x ρ1 v H1 h1 E1 s1 r1 => ?_
    refine B.ok hK E1 (L.stp s1) h1 fun y ρ2 u H2 h2 E2 s2 r2 => ?_
    have r1' : RepV F H σ ρ2 H2 v x.tmp := r1.stp E1 s2
    split at h2
    · rename_i p q' hp hq
      subst hK
      refine S.ok rfl E2 (r1'.top E2 (by rw [rd_tmp]; exact hp)) (r2.top E2 hq) h2 fun dv z H3 h3 s3 r3 => ?_
      have E3 := E2.grow s3
      have s3' : Stp (OwnA σ ρ2) H2 (OwnA σ ρ2) H3 := .same s3
      split at h3
      · rename_i rz k
        refine ⟨k, rd_bl E3 r3 (r := rz) rfl, ?_⟩
        cases k with
        | true =>
          refine C.ok rfl E3 (L.stp ((s1.trans s2).trans s3')) h3.t fun u2 ρ4 v4 H4 h4 E4 s4 r4 => ?_
          have r2' : RepV F H σ ρ4 H4 u y.tmp := r2.stp E2 (s3'.trans s4)
          split at h4
          · rename_i q2 s2' hq2 hs2
            refine S'.ok rfl E4 (r2'.top E4 (by rw [rd_tmp]; exact hq2)) (r4.top E4 hs2) h4 fun dv5 z5 H5 h5 s5 r5 => ?_
            exact q dv5 ρ4 z5 H5 h5 (E4.grow s5) ((((s1.trans s2).trans s3').trans s4).trans (.same s5)) (r5.early (((s1.trans s2).trans s3').trans s4))
          · exact h4.elim
        | false => exact q _ ρ2 _ H3 h3.f E3 ((s1.trans s2).trans s3') (.bl false)
      · exact h3.elim
    · exact h2.elim
/-! ### argument lists, lists, tuples, calls of built-ins -/
def dNil : DAW := fun _ ρ R => R [] ρ
def dCons (w : DW) (u : DAW) : DAW := fun X ρ R => w X ρ fun x ρ1 => u X ρ1 fun xs ρ2 => R (x.tmp :: xs) ρ2
instance : DA K W tNil dNil where
  ok := fun {F σ H ρ X R Q} hK E L h q => q [] ρ [] H h E (.refl _ _) .nil
theorem paired_imp {α β : Type} {P Q : α → β → Prop} (h : ∀ a b, P a b → Q a b) : ∀ {xs : List α} {ys : List β}, Paired P xs ys → Paired Q xs ys
  | _, _, .nil => .nil
  | _, _, .cons a b => .cons (h _ _ a) (paired_imp h b)
instance {t : TE} {u : TA} {w : DW} {y : DAW} [A : DE K W t w] [B : DA K W u y] : DA K W (tCons t u) (dCons w y) where
  ok := fun {F σ H ρ X R Q} hK E L h q => by
    refine A.ok hK E L h fun x ρ1 v H1 h1 E1 s1 r1 => ?_
    refine B.ok hK E1 (L.stp s1) h1 fun xs ρ2 vs H2 h2 E2 s2 r2 => ?_
    exact q _ ρ2 _ H2 h2 E2 (s1.trans s2) (.cons (r1.stp E1 s2) (paired_imp (fun _ _ z => z.early s1) r2))
def rds (ρ : DEnv) : List DV → Option (List (Bool × D))
  | [] => some []
  | x :: xs => match rd ρ x, rds ρ xs with
    | some p, some ps => some (p :: ps)
    | _, _ => none
theorem tops_of {F : Fr} {Hs : Hp} {σ : L2.St} {ρ : DEnv} {H : Hp} (E : Env F σ ρ H) : ∀ {vs : List V} {dvs : List DV} {ps : List (Bool × D)}, Paired (fun v dv => RepV F Hs σ ρ H v dv) vs dvs → rds ρ dvs = some ps → Tops F.K F (OwnA σ ρ) H vs ps
  | _, _, _, .nil, e => by
    cases e
    exact .nil
  | _, _, _, .cons (b := x) h g, e => by
    simp only [rds] at e
    split at e
    · rename_i p ps hp hps
      cases e
      exact .cons (h.top E hp) (tops_of E g hps)
    · cases e
def dCB (w : DR1W) (u : DAW) : DW := fun X ρ R => u X ρ fun xs ρ1 => match rds ρ1 xs with
  | some ps => w ps fun z => R z ρ1
  | none => False
instance {r : List V → Hp → VK → Prop} {w : DR1W} {t : TA} {u : DAW} [A : DA K W t u] [C : DR1 K r w] : DE K W (tCB r t) (dCB w u) where
  ok := fun {F σ H ρ X R Q} hK E L h q => by
    refine A.ok hK E L h fun xs ρ1 vs H1 h1 E1 s1 r1 => ?_
    split at h1
    · rename_i ps hps
      subst hK
      refine C.ok rfl E1 (tops_of E1 r1 hps) h1 fun dv v H2 h2 s2 r2 => ?_
      exact q dv ρ1 v H2 h2 (E1.grow s2) (s1.trans (.same s2)) (r2.early s1)
    · exact h1.elim
/-- things as they are stored: each is handed on -/
def sts (ρ : DEnv) : List DV → Option (Bool × List D × DEnv)
  | [] => some (true, [], ρ)
  | x :: xs => match st ρ x with
    | some (r, d, ρ1) => match sts ρ1 xs with
      | some (r', ds, ρ2) => some (r && r', d :: ds, ρ2)
      | none => none
    | none => none
theorem Rep.weak {F : Fr} {O : Addr → Prop} {H : Hp} {v : V} {d : D} {r r' : Bool} (h : Rep F.K (F.RH O H r) v d) (e : r' = true → r = true) : Rep F.K (F.RH O H r') v d :=
  h.mono (cut_mono (fun a o h1 h2 => ⟨h1, fun z => h2 (by
    rcases z with z | z | ⟨z1, z2⟩
    · exact .inl z
    · exact .inr (.inl z)
    · exact .inr (.inr ⟨e z1, z2⟩))⟩) fun _ _ h _ => h)
theorem RepL.weak {F : Fr} {O : Addr → Prop} {H : Hp} {v : List V} {d : List D} {r r' : Bool} (h : RepL F.K (F.RH O H r) v d) (e : r' = true → r = true) : RepL F.K (F.RH O H r') v d :=
  h.mono (cut_mono (fun a o h1 h2 => ⟨h1, fun z => h2 (by
    rcases z with z | z | ⟨z1, z2⟩
    · exact .inl z
    · exact .inr (.inl z)
    · exact .inr (.inr ⟨e z1, z2⟩))⟩) fun _ _ h _ => h)
theorem RepV.stp0 {F : Fr} {Hs : Hp} {σ : L2.St} {ρ ρ' : DEnv} {H : Hp} {v : V} {dv : DV} (E : Env F σ ρ H) (h : RepV F Hs σ ρ H v dv) (s : Stp (OwnA σ ρ) H (OwnA σ ρ') H) (hd : dv.tmp = dv) : RepV F Hs σ ρ' H v dv := by
  rw [← hd]
  exact h.stp E s
theorem sts_rep {F : Fr} {Hs : Hp} {σ : L2.St} {H : Hp} : ∀ {vs : List V} {dvs : List DV} {ρ : DEnv} {r : Bool} {ds : List D} {ρ' : DEnv}, Env F σ ρ H → Paired (fun v dv => RepV F Hs σ ρ H v dv ∧ dv.tmp = dv) vs dvs → sts ρ dvs = some (r, ds, ρ') →
    Env F σ ρ' H ∧ Stp (OwnA σ ρ) H (OwnA σ ρ') H ∧ RepL F.K (F.RH (OwnA σ ρ') H r) vs ds
  | _, _, ρ, _, _, _, E, .nil, e => by
    cases e
    exact ⟨E, .refl _ _, .nil⟩
  | _, _, ρ, _, _, _, E, .cons (b := x) h g, e => by
    simp only [sts] at e
    split at e
    · rename_i r d ρ1 h1
      split at e
      · rename_i r' ds ρ2 h2
        cases e
        obtain ⟨E1, s1, p1⟩ := h.1.st E h1
        obtain ⟨E2, s2, p2⟩ := sts_rep E1 (paired_imp (fun v dv z => ⟨RepV.stp0 E z.1 s1 z.2, z.2⟩) g) h2
        refine ⟨E2, s1.trans s2, .cons ((p1.mono (E1.rh s2)).weak fun z => ?_) (p2.weak fun z => ?_)⟩
        · rw [Bool.and_eq_true] at z
          exact z.1
        · rw [Bool.and_eq_true] at z
          exact z.2
      · cases e
    · cases e
theorem dCons_tmp {F : Fr} {Hs : Hp} {σ : L2.St} {ρ : DEnv} {H : Hp} : ∀ {vs : List V} {dvs : List DV}, Paired (fun v dv => RepV F Hs σ ρ H v dv) vs dvs → Paired (fun v dv => RepV F Hs σ ρ H v dv ∧ dv.tmp = dv) vs (dvs.map DV.tmp)
  | _, _, .nil => .nil
  | _, _, .cons (b := x) h g => by
    refine .cons ⟨?_, ?_⟩ (dCons_tmp g)
    · cases x with
      | v r d => exact h
      | al i => exact h
      | fr r d => exact h.fr_rep
    · cases x <;> rfl
/-- a new list of some things -/
def dLst (u : DAW) : DW := fun X ρ R => u X ρ fun xs ρ1 => match sts ρ1 (xs.map DV.tmp) with
  | some (r, ds, ρ2) => ds.length ≤ sizeLine ∧ R (.fr r (.lst ds)) ρ2
  | none => False
def dTup (u : DAW) : DW := fun X ρ R => u X ρ fun xs ρ1 => match sts ρ1 (xs.map DV.tmp) with
  | some (r, ds, ρ2) => ds.length ≤ sizeLine ∧ R (.v r (.tup ds)) ρ2
  | none => False
theorem fresh_of {F : Fr} {σ : L2.St} {ρ : DEnv} {H : Hp} {a : Addr} {o : HO} {r : Bool} {d : D} (E : Env F σ ρ H) (h : H a = none) (hd : d.isPot = false) (ho : RepO F.K (F.RH (OwnA σ ρ) H r) (some o) d) : RepV F H σ ρ (upd H a o) (.ref a) (.fr r d) := by
  obtain ⟨h0, nh, no, _⟩ := E.new h
  have E' : Env (F.hide a) σ ρ (upd H a o) := E.hideNew h (same_new h) ⟨_, upd_same⟩
  refine ⟨a, rfl, h, nh, h0, hd, E', ?_⟩
  rw [upd_same]
  refine ho.mono (cut_mono (fun b u hb nb => ?_) fun b xs hb _ => ?_)
  · have hba : b ≠ a := ne_of_none hb h
    refine ⟨by rw [upd_ne hba]; exact hb, fun z => ?_⟩
    rcases z with (z | z) | z | z
    · exact hba z
    · exact nb (.inl z)
    · exact nb (.inr (.inl z))
    · exact nb (.inr (.inr z))
  · rw [upd_ne (ne_of_none hb h)]
    exact hb
instance {t : TA} {u : DAW} [A : DA K W t u] : DE K W (tLst t) (dLst u) where
  ok := fun {F σ H ρ X R Q} hK E L h q => by
    refine A.ok hK E L h fun xs ρ1 vs H1 h1 E1 s1 r1 => ?_
    split at h1
    · rename_i r ds ρ2 e
      obtain ⟨E2, s2, p2⟩ := sts_rep E1 (dCons_tmp r1) e
      refine ⟨by rw [p2.len]; exact h1.1, fun a ha => ?_⟩
      exact q _ ρ2 _ _ h1.2 (E2.grow (same_new ha)) ((s1.trans s2).trans (.same (same_new ha))) (RepV.early (fresh_of E2 ha rfl ⟨vs, rfl, p2⟩) (s1.trans s2))
    · exact h1.elim
instance {t : TA} {u : DAW} [A : DA K W t u] : DE K W (tTup t) (dTup u) where
  ok := fun {F σ H ρ X R Q} hK E L h q => by
    refine A.ok hK E L h fun xs ρ1 vs H1 h1 E1 s1 r1 => ?_
    split at h1
    · rename_i r ds ρ2 e
      obtain ⟨E2, s2, p2⟩ := sts_rep E1 (dCons_tmp r1) e
      refine ⟨by rw [p2.len]; exact h1.1, fun a ha => ?_⟩
      have s3 := same_new (o := .tup vs) ha
      exact q _ ρ2 _ _ h1.2 (E2.grow s3) ((s1.trans s2).trans (.same s3)) (Rep.tup (cut_tup upd_same) (p2.mono (E2.rh (.same s3))))
    · exact h1.elim
end
end PW

namespace PW
open PySem PySem.Spec PyProof.Rows L2
/-! ### operators that look at what they are given -/
section
variable {X : Cx} {K : PySem.W.Frag}
def rAddG (K : PySem.W.Frag) : R2 := fun x y H Q => (∃ i j, x = .int i ∧ y = .int j ∧ Q (.int (i + j)) H) ∨ (∃ i k, x = .int i ∧ y = .bl k ∧ Q (.int (i + b2i k)) H) ∨
  (∃ i j, x = .str i ∧ y = .str j ∧ i.length + j.length ≤ sizeLine ∧ Q (.str (i ++ j)) H) ∨ rCat x y H Q ∨ rCatT K x y H Q
theorem gAdd (h : X.K = K := by rfl) : OpR X (binaryOp .Add) (rAddG K) := by
  subst h
  intro pins s σ H x y v u Q I rx ry h
  rcases h with h | h | h | h | h
  · exact op_add pins s σ H x y v u Q I rx ry h
  · exact op_add_ib pins s σ H x y v u Q I rx ry h
  · exact op_add_str pins s σ H x y v u Q I rx ry h
  · exact op_cat pins s σ H x y v u Q I rx ry h
  · exact op_catT pins s σ H x y v u Q I rx ry h
def rMulG : R2 := fun x y H Q => rI CMul (fun i j => .int (i * j)) x y H Q ∨ rRep x y H Q
theorem gMul : OpR X (binaryOp .Mult) rMulG := by
  intro pins s σ H x y v u Q I rx ry h
  rcases h with h | h
  · exact op_mul pins s σ H x y v u Q I rx ry h
  · exact op_rep pins s σ H x y v u Q I rx ry h
def rEqG (K : PySem.W.Frag) : R2 := fun x y H Q => rEq x y H Q ∨ rEqD K x y H Q
def rNeG (K : PySem.W.Frag) : R2 := fun x y H Q => rNe x y H Q ∨ rNeD K x y H Q
theorem gEq (hu : X.A.units + 64 < cLine) (h : X.K = K := by rfl) : OpR X (compareOp .Eq) (rEqG K) := by
  subst h
  intro pins s σ H x y v u Q I rx ry h
  rcases h with h | h
  · exact op_eq pins s σ H x y v u Q I rx ry h
  · exact op_eqD hu pins s σ H x y v u Q I rx ry h
theorem gNe (hu : X.A.units + 64 < cLine) (h : X.K = K := by rfl) : OpR X (compareOp .NotEq) (rNeG K) := by
  subst h
  intro pins s σ H x y v u Q I rx ry h
  rcases h with h | h
  · exact op_ne pins s σ H x y v u Q I rx ry h
  · exact op_neD hu pins s σ H x y v u Q I rx ry h
def rInS (n : Bool) : R2 := fun x y H Q => ∃ i j, x = .str i ∧ y = .str j ∧ Q (.bl (if n then !(!(Builtin.Str.occurrences j i 0 j.length 1).isEmpty) else !(Builtin.Str.occurrences j i 0 j.length 1).isEmpty)) H
def rInSg (n : Bool) : R2 := fun x y H Q => ∃ (c : Nat) (z : Str), x = .str ⟨#[c]⟩ ∧ y = .str z ∧ Q (.bl (if n then !decide (c ∈ z.cps.toList) else decide (c ∈ z.cps.toList))) H
def rInG (K : PySem.W.Frag) : R2 := fun x y H Q => rIn K false x y H Q ∨ rInSg false x y H Q ∨ rInS false x y H Q ∨ rInD K x y H Q
def rNotInG (K : PySem.W.Frag) : R2 := fun x y H Q => rIn K true x y H Q ∨ rInSg true x y H Q ∨ rInS true x y H Q ∨ rNotInD K x y H Q
theorem gIn (hu : X.A.units + 65 < cLine) (h : X.K = K := by rfl) : OpR X (compareOp .In) (rInG K) := by
  subst h
  intro pins s σ H x y v u Q I rx ry h
  rcases h with h | h | h | h
  · exact op_in_seq pins s σ H x y v u Q I rx ry h
  · exact op_in_sign pins s σ H x y v u Q I rx ry h
  · exact op_in_str pins s σ H x y v u Q I rx ry h
  · exact op_inD hu pins s σ H x y v u Q I rx ry h
theorem gNotIn (hu : X.A.units + 65 < cLine) (h : X.K = K := by rfl) : OpR X (compareOp .NotIn) (rNotInG K) := by
  subst h
  intro pins s σ H x y v u Q I rx ry h
  rcases h with h | h | h | h
  · exact op_notIn_seq pins s σ H x y v u Q I rx ry h
  · exact op_notIn_sign pins s σ H x y v u Q I rx ry h
  · exact op_notIn_str pins s σ H x y v u Q I rx ry h
  · exact op_notInD hu pins s σ H x y v u Q I rx ry h
def rIsG : R2 := fun x y H Q => y = .non ∧ Q (.bl (decide (x = .non))) H
def rNotG : R2 := fun x y H Q => y = .non ∧ Q (.bl (!decide (x = .non))) H
theorem gIs : OpR X (compareOp .Is) rIsG := op_isN
theorem gNot : OpR X (compareOp .IsNot) rNotG := op_notN
def rIxG (K : PySem.W.Frag) : R2 := fun x y H Q => rIxL K x y H Q ∨ rIxT K x y H Q ∨ rIxS x y H Q
theorem gIx (h : X.K = K := by rfl) : IxR X (rIxG K) := by
  subst h
  exact ix_seq
def rLenG (K : PySem.W.Frag) : List V → Hp → VK → Prop := fun xs H Q => (∃ x n, xs = [x] ∧ LenV K x H n ∧ Q (.int n) H) ∨ ∃ a kvs, xs = [V.ref a] ∧ Rd H a (.dK kvs) ∧ Q (.int kvs.length) H
theorem gLen (h : X.K = K := by rfl) : CallR X (.builtin "len") (rLenG K) := by
  subst h
  intro pins s σ H xs us Q I r h
  rcases h with h | h
  · exact call_len pins s σ H xs us Q I r h
  · obtain ⟨a, kvs, rfl, ha, q⟩ := h
    obtain ⟨u, rfl, ru⟩ := vals1 r
    cases ru
    exact d_len I ha fun t s' I' => ⟨.int kvs.length, H, I', ⟨t, rfl⟩, q⟩
def rMax2 : List V → Hp → VK → Prop := fun xs H Q => ∃ i j, xs = [.int i, .int j] ∧ Q (.int (if j > i then j else i)) H
def rMin2 : List V → Hp → VK → Prop := fun xs H Q => ∃ i j, xs = [.int i, .int j] ∧ Q (.int (if j < i then j else i)) H
def rInt1 : List V → Hp → VK → Prop := fun xs H Q => (∃ i, xs = [.int i] ∧ Q (.int i) H) ∨ ∃ k, xs = [.bl k] ∧ Q (.int (if k then 1 else 0)) H
theorem gMax2 (hc : X.calm = true) : CallR X (.builtin "max") rMax2 := call_max2 hc
theorem gMin2 (hc : X.calm = true) : CallR X (.builtin "min") rMin2 := call_min2 hc
theorem gInt1 : CallR X (.type "int") rInt1 := call_int1
def rListG (K : PySem.W.Frag) : List V → Hp → VK → Prop := fun xs H Q => rListK K xs H Q ∨ ∃ a kvs, xs = [V.ref a] ∧ Rd H a (.dK kvs) ∧ ∀ p, H p = none → Q (.ref p) (upd H p (.lst (kvs.map fun kv => kV kv.1)))
theorem gList (hc : X.calm = true) (h : X.K = K := by rfl) : CallR X (.type "list") (rListG K) := by
  intro pins s σ H xs us Q I r z
  rcases z with z | z
  · exact listK h pins s σ H xs us Q I r z
  · exact call_listD hc pins s σ H xs us Q I r z
end
/-! ### the same by data -/
def D.pim : D → Bool
  | .lst xs => D.immL xs
  | .tup xs => D.immL xs
  | .dK kvs => D.immL (kvs.map (·.2))
  | .dT kvs => D.immL (kvs.map (·.2))
  | _ => false
/-- whether the parts of a thing are none that stood at the entry -/
def reg (p : Bool × D) : Bool := p.1 || p.2.pim
section
variable {K : PySem.W.Frag} {F : Fr} {O : Addr → Prop} {H : Hp} {r : Bool} {v : V}
theorem RepL.up {vs : List V} {ds : List D} (h : RepL F.K (F.RH O H r) vs ds) {b : Bool} (hb : b = true → D.immL ds = true) : RepL F.K (F.RH O H (r || b)) vs ds := by
  cases b with
  | true => exact (h.mono cut_le).imm (hb rfl)
  | false =>
    rw [Bool.or_false]
    exact h
theorem TopD.lst {p : Bool × D} {ds : List D} (h : TopD F.K H (F.RH O H p.1) v p.2) (e : p.2 = .lst ds) : ∃ a vs, v = .ref a ∧ H a = some (.lst vs) ∧ RepL F.K (F.RH O H (reg p)) vs ds := by
  obtain ⟨r, d⟩ := p
  cases e
  obtain ⟨a, vs, h1, h2, h3⟩ := h
  exact ⟨a, vs, h1, h2, h3.up fun z => z⟩
theorem TopD.tup {p : Bool × D} {ds : List D} (h : TopD F.K H (F.RH O H p.1) v p.2) (e : p.2 = .tup ds) : ∃ a vs, v = .ref a ∧ H a = some (.tup vs) ∧ RepL F.K (F.RH O H (reg p)) vs ds := by
  obtain ⟨r, d⟩ := p
  cases e
  obtain ⟨a, vs, h1, h2, h3⟩ := h
  exact ⟨a, vs, h1, h2, h3.up fun z => z⟩
end
def dAddG : DR2W := fun p q R => match p.2, q.2 with
  | .int i, .int j => R (.v true (.int (i + j)))
  | .int i, .bl k => R (.v true (.int (i + b2i k)))
  | .str i, .str j => i.length + j.length ≤ sizeLine ∧ R (.v true (.str (i ++ j)))
  | .lst xs, .lst ys => xs.length + ys.length ≤ sizeLine ∧ R (.fr (reg p && reg q) (.lst (xs ++ ys)))
  | .tup xs, .tup ys => xs ≠ [] ∧ xs.length + ys.length ≤ sizeLine ∧ R (.v (reg p && reg q) (.tup (xs ++ ys)))
  | _, _ => False
theorem RepL.both {F : Fr} {O : Addr → Prop} {H : Hp} {vs ws : List V} {ds es : List D} {r r' : Bool} (h : RepL F.K (F.RH O H r) vs ds) (g : RepL F.K (F.RH O H r') ws es) : RepL F.K (F.RH O H (r && r')) (vs ++ ws) (ds ++ es) :=
  (h.weak fun z => by rw [Bool.and_eq_true] at z; exact z.1).app (g.weak fun z => by rw [Bool.and_eq_true] at z; exact z.2)
instance {K : PySem.W.Frag} : DR2 K (rAddG K) dAddG where
  ok := fun {F σ H ρ p q x y R Q} hK E hx hy h k => by
    subst hK
    unfold dAddG at h
    split at h
    · rename_i i j hp hq
      rw [hp] at hx
      rw [hq] at hy
      exact .inl ⟨i, j, hx, hy, k _ _ H h (.refl _) (.int _)⟩
    · rename_i i j hp hq
      rw [hp] at hx
      rw [hq] at hy
      exact .inr (.inl ⟨i, j, hx, hy, k _ _ H h (.refl _) (.int _)⟩)
    · rename_i i j hp hq
      rw [hp] at hx
      rw [hq] at hy
      exact .inr (.inr (.inl ⟨i, j, hx, hy, h.1, k _ _ H h.2 (.refl _) (.str _)⟩))
    · rename_i i j hp hq
      obtain ⟨a, vs, rfl, h1, h2⟩ := hx.lst hp
      obtain ⟨b, ws, rfl, h3, h4⟩ := hy.lst hq
      refine .inr (.inr (.inr (.inl ⟨a, b, vs, ws, rfl, rfl, h1, h3, by rw [h2.len, h4.len]; exact h.1, fun c hc => ?_⟩)))
      exact k _ _ _ h.2 (same_new hc) (fresh_of E hc rfl ⟨_, rfl, h2.both h4⟩)
    · rename_i i j hp hq
      obtain ⟨a, vs, rfl, h1, h2⟩ := hx.tup hp
      obtain ⟨b, ws, rfl, h3, h4⟩ := hy.tup hq
      refine .inr (.inr (.inr (.inr ⟨a, b, vs, ws, rfl, rfl, SqT.of h1, SqT.of h3, fun z => h.1 ?_, by rw [h2.len, h4.len]; exact h.2.1, fun z => ?_, fun z c hc => ?_⟩)))
      · subst z
        cases h2
        rfl
      · subst z
        cases h4
        refine k _ _ H h.2.2 (.refl _) ?_
        have := h2.weak (r' := reg p && reg q) fun z => by rw [Bool.and_eq_true] at z; exact z.1
        rw [List.append_nil]
        exact .tup (cut_tup h1) this
      · have s3 := same_new (o := .tup (vs ++ ws)) hc
        exact k _ _ _ h.2.2 s3 (.tup (cut_tup upd_same) ((h2.both h4).mono (E.rh (.same s3))))
    · exact h.elim
def dMulG : DR2W := fun p q R => match p.2, q.2 with
  | .int i, .int j => CMul i j ∧ R (.v true (.int (i * j)))
  | .lst xs, .int k => -(2 ^ 63) ≤ k ∧ k < 2 ^ 63 ∧ xs.length * k.toNat ≤ sizeLine ∧ R (.fr (reg p) (.lst (List.replicate k.toNat xs).flatten))
  | _, _ => False
theorem RepL.rep {K : PySem.W.Frag} {H : Hp} {vs : List V} {ds : List D} (h : RepL K H vs ds) : ∀ n : Nat, RepL K H (List.replicate n vs).flatten (List.replicate n ds).flatten
  | 0 => .nil
  | n + 1 => by
    rw [List.replicate_succ, List.replicate_succ, List.flatten_cons, List.flatten_cons]
    exact h.app (h.rep n)
instance {K : PySem.W.Frag} : DR2 K rMulG dMulG where
  ok := fun {F σ H ρ p q x y R Q} hK E hx hy h k => by
    subst hK
    unfold dMulG at h
    split at h
    · rename_i i j hp hq
      rw [hp] at hx
      rw [hq] at hy
      exact .inl ⟨i, j, hx, hy, h.1, k _ _ H h.2 (.refl _) (.int _)⟩
    · rename_i i j hp hq
      rw [hq] at hy
      obtain ⟨a, vs, rfl, h1, h2⟩ := hx.lst hp
      refine .inr ⟨a, j, vs, rfl, hy, h1, h.1, h.2.1, by rw [h2.len]; exact h.2.2.1, fun c hc => ?_⟩
      exact k _ _ _ h.2.2.2 (same_new hc) (fresh_of E hc rfl ⟨_, rfl, h2.rep _⟩)
    · exact h.elim
/-! ### == and in -/
def D.flat : D → Bool
  | .non => true
  | .bl _ => true
  | .int _ => true
  | .str _ => true
  | _ => false
def toV : D → V
  | .bl b => .bl b
  | .int i => .int i
  | .str s => .str s
  | _ => .non
theorem flat_v {K : PySem.W.Frag} {H Hr : Hp} {v : V} {d : D} (h : TopD K H Hr v d) (f : d.flat = true) : v = toV d := by
  cases d with
  | non => exact h
  | bl b => exact h
  | int i => exact h
  | str s => exact h
  | _ => cases f
theorem flat_r {K : PySem.W.Frag} {H : Hp} {v : V} {d : D} (h : Rep K H v d) (f : d.flat = true) : v = toV d := flat_v (h.top (fun _ _ z => z)) f
theorem flat_all {K : PySem.W.Frag} {H : Hp} : ∀ {vs : List V} {ds : List D}, RepL K H vs ds → ds.all D.flat = true → vs = ds.map toV
  | _, _, .nil, _ => rfl
  | _, _, .cons h g, f => by
    rw [List.all_cons, Bool.and_eq_true] at f
    rw [List.map_cons, ← flat_all g f.2, flat_r h f.1]
theorem flat_toV {d : D} (f : d.flat = true) : flatV (toV d) = true := by
  cases d with
  | non => rfl
  | bl b => rfl
  | int i => rfl
  | str s => rfl
  | _ => cases f
theorem flat_toVs {ds : List D} (f : ds.all D.flat = true) : (ds.map toV).all flatV = true := by
  rw [List.all_map]
  exact List.all_eq_true.mpr fun d hd => flat_toV (List.all_eq_true.mp f d hd)
mutual
def D.py : D → PyData
  | .bl b => .bool b
  | .int i => .int i
  | .str s => .str s
  | .lst xs => .list (D.pyL xs)
  | .tup xs => .tuple (D.pyL xs)
  | .non => .none
  | .ty _ => .none
  | .dK _ => .none
  | .dT _ => .none
  | .ins _ _ => .none
  | .pot => .none
  | .wlk _ _ _ _ => .none
def D.pyL : List D → List PyData
  | [] => []
  | d :: ds => d.py :: D.pyL ds
end
theorem pyL_eq : ∀ ds : List D, D.pyL ds = ds.map D.py
  | [] => rfl
  | d :: ds => by rw [D.pyL, List.map_cons, pyL_eq ds]
/-! only lists, tuples and flat things -/
mutual
def D.pl : D → Bool
  | .bl _ => true
  | .int _ => true
  | .str _ => true
  | .lst xs => D.plL xs
  | .tup xs => D.plL xs
  | .non => true
  | .ty _ => false
  | .dK _ => false
  | .dT _ => false
  | .ins _ _ => false
  | .pot => false
  | .wlk _ _ _ _ => false
def D.plL : List D → Bool
  | [] => true
  | d :: ds => d.pl && D.plL ds
end
section
variable {K : PySem.W.Frag} {H : Hp}
mutual
theorem Rep.dp : ∀ {v : V} {d : D}, Rep K H v d → d.pl = true → Dp K H v d.py
  | _, _, .non, _ => .non
  | _, _, .bl b, _ => .bl b
  | _, _, .int i, _ => .int i
  | _, _, .str s, _ => .str s
  | _, _, .ty n, e => by simp [D.pl] at e
  | _, _, .lst h g, e => by
    rw [D.py]
    exact .lst (SqL.of h) (RepL.dp g (by rw [D.pl] at e; exact e))
  | _, _, .tup h g, e => by
    rw [D.py]
    exact .tup (SqT.of h) (RepL.dp g (by rw [D.pl] at e; exact e))
  | _, _, .dK _ _ _, e => by simp [D.pl] at e
  | _, _, .dT _ _ _, e => by simp [D.pl] at e
  | _, _, .ins _ _ _, e => by simp [D.pl] at e
theorem RepL.dp : ∀ {vs : List V} {ds : List D}, RepL K H vs ds → D.plL ds = true → DpAll K H vs (D.pyL ds)
  | _, _, .nil, _ => by
    rw [D.pyL]
    exact .nil
  | _, _, .cons h g, e => by
    rw [D.pyL]
    rw [D.plL, Bool.and_eq_true] at e
    exact .cons (Rep.dp h e.1) (RepL.dp g e.2)
end
end
/-- data that == may be asked of -/
def D.okD (d : D) : Prop := d.pl = true ∧ SeqAt.shaped d.py = true
def negB (neg b : Bool) : Bool := match neg with
  | true => !b
  | false => b
@[irreducible] def eqC (d e : D) (k : Bool → Prop) : Prop :=
  (d.flat = true ∧ e.flat = true ∧ scal (toV d) (toV e) = true ∧ k (decide (toV d = toV e))) ∨ (d.okD ∧ e.okD ∧ k (PyData.eqv d.py e.py))
def dEqG (neg : Bool) : DR2W := fun p q R => eqC p.2 q.2 fun b => R (.v true (.bl (negB neg b)))
theorem okD_pot {d : D} (h : d.okD) : d ≠ .pot := fun z => by
  subst z
  have := h.1
  simp [D.pl] at this
instance {K : PySem.W.Frag} : DR2 K (rEqG K) (dEqG false) where
  ok := fun {F σ H ρ p q x y R Q} hK E hx hy h k => by
    subst hK
    unfold dEqG eqC at h
    rcases h with ⟨f1, f2, f3, h⟩ | ⟨f1, f2, h⟩
    · rw [flat_v hx f1, flat_v hy f2]
      exact .inl ⟨f3, k _ _ H h (.refl _) (.bl _)⟩
    · exact .inr ⟨_, _, (hx.rep rh_le (okD_pot f1)).dp f1.1, (hy.rep rh_le (okD_pot f2)).dp f2.1, f1.2, f2.2, k _ _ H h (.refl _) (.bl _)⟩
instance {K : PySem.W.Frag} : DR2 K (rNeG K) (dEqG true) where
  ok := fun {F σ H ρ p q x y R Q} hK E hx hy h k => by
    subst hK
    unfold dEqG eqC at h
    rcases h with ⟨f1, f2, f3, h⟩ | ⟨f1, f2, h⟩
    · rw [flat_v hx f1, flat_v hy f2]
      exact .inl ⟨f3, k _ _ H h (.refl _) (.bl _)⟩
    · exact .inr ⟨_, _, (hx.rep rh_le (okD_pot f1)).dp f1.1, (hy.rep rh_le (okD_pot f2)).dp f2.1, f1.2, f2.2, k _ _ H h (.refl _) (.bl _)⟩
/-- the parts of a list or a tuple -/
def D.seq : D → Option (List D)
  | .lst xs => some xs
  | .tup xs => some xs
  | _ => none
theorem TopD.seq {K : PySem.W.Frag} {H Hr : Hp} {v : V} {d : D} {ds : List D} (h : TopD K H Hr v d) (e : d.seq = some ds) : ∃ a vs, v = .ref a ∧ (SqL K H a vs ∨ SqT K H a vs) ∧ RepL K Hr vs ds := by
  cases d with
  | lst xs =>
    cases e
    obtain ⟨a, vs, h1, h2, h3⟩ := h
    exact ⟨a, vs, h1, .inl (SqL.of h2), h3⟩
  | tup xs =>
    cases e
    obtain ⟨a, vs, h1, h2, h3⟩ := h
    exact ⟨a, vs, h1, .inr (SqT.of h2), h3⟩
  | _ => cases e
def inF (d : D) (ds : List D) : Bool := inV (toV d) (ds.map toV)
@[irreducible] def inC (d e : D) (k : Bool → Prop) : Prop :=
  (∃ ds, e.seq = some ds ∧ d.flat = true ∧ ds.all D.flat = true ∧ k (inF d ds)) ∨
  (∃ c z, d = .str ⟨#[c]⟩ ∧ e = .str z ∧ k (decide (c ∈ z.cps.toList))) ∨
  (∃ i j, d = .str i ∧ e = .str j ∧ k (!(Builtin.Str.occurrences j i 0 j.length 1).isEmpty)) ∨
  (∃ ds, e = .lst ds ∧ d.okD ∧ e.okD ∧ k (ds.any fun z => PyData.eqv z.py d.py))
def dInG (neg : Bool) : DR2W := fun p q R => inC p.2 q.2 fun b => R (.v true (.bl (negB neg b)))
instance {K : PySem.W.Frag} : DR2 K (rInG K) (dInG false) where
  ok := fun {F σ H ρ p q x y R Q} hK E hx hy h k => by
    subst hK
    unfold dInG inC at h
    rcases h with ⟨ds, e, f1, f2, h⟩ | ⟨c, z, e1, e2, h⟩ | ⟨c, z, e1, e2, h⟩ | ⟨ds, e, f1, f2, h⟩
    · obtain ⟨a, vs, rfl, h1, h2⟩ := hy.seq e
      rw [flat_all h2 f2] at h1
      rw [flat_v hx f1]
      exact .inl ⟨a, _, rfl, h1, flat_toV f1, flat_toVs f2, k _ _ H h (.refl _) (.bl _)⟩
    · rw [e1] at hx
      rw [e2] at hy
      exact .inr (.inl ⟨c, z, hx, hy, k _ _ H h (.refl _) (.bl _)⟩)
    · rw [e1] at hx
      rw [e2] at hy
      exact .inr (.inr (.inl ⟨c, z, hx, hy, k _ _ H h (.refl _) (.bl _)⟩))
    · have hy' := (hy.rep rh_le (okD_pot f2)).dp f2.1
      have f3 := f2.2
      rw [e, D.py] at hy' f3
      refine .inr (.inr (.inr ⟨_, _, (hx.rep rh_le (okD_pot f1)).dp f1.1, hy', f1.2, f3, ?_⟩))
      rw [pyL_eq, List.any_map]
      exact k _ _ H h (.refl _) (.bl _)
instance {K : PySem.W.Frag} : DR2 K (rNotInG K) (dInG true) where
  ok := fun {F σ H ρ p q x y R Q} hK E hx hy h k => by
    subst hK
    unfold dInG inC at h
    rcases h with ⟨ds, e, f1, f2, h⟩ | ⟨c, z, e1, e2, h⟩ | ⟨c, z, e1, e2, h⟩ | ⟨ds, e, f1, f2, h⟩
    · obtain ⟨a, vs, rfl, h1, h2⟩ := hy.seq e
      rw [flat_all h2 f2] at h1
      rw [flat_v hx f1]
      exact .inl ⟨a, _, rfl, h1, flat_toV f1, flat_toVs f2, k _ _ H h (.refl _) (.bl _)⟩
    · rw [e1] at hx
      rw [e2] at hy
      exact .inr (.inl ⟨c, z, hx, hy, k _ _ H h (.refl _) (.bl _)⟩)
    · rw [e1] at hx
      rw [e2] at hy
      exact .inr (.inr (.inl ⟨c, z, hx, hy, k _ _ H h (.refl _) (.bl _)⟩))
    · have hy' := (hy.rep rh_le (okD_pot f2)).dp f2.1
      have f3 := f2.2
      rw [e, D.py] at hy' f3
      refine .inr (.inr (.inr ⟨_, _, (hx.rep rh_le (okD_pot f1)).dp f1.1, hy', f1.2, f3, ?_⟩))
      rw [pyL_eq, List.any_map]
      exact k _ _ H h (.refl _) (.bl _)
/-! ### is None -/
def isNon : D → Bool
  | .non => true
  | _ => false
theorem isNon_v {K : PySem.W.Frag} {H Hr : Hp} {v : V} {d : D} (h : TopD K H Hr v d) : decide (v = .non) = isNon d := by
  cases d with
  | non => cases h; rfl
  | bl b => cases h; rfl
  | int i => cases h; rfl
  | str s => cases h; rfl
  | ty n => cases h; rfl
  | lst ds => obtain ⟨a, vs, rfl, _⟩ := h; rfl
  | tup ds => obtain ⟨a, vs, rfl, _⟩ := h; rfl
  | dK ds => obtain ⟨a, vs, rfl, _⟩ := h; rfl
  | dT ds => obtain ⟨a, vs, rfl, _⟩ := h; rfl
  | ins c ds => obtain ⟨a, dx, vs, rfl, _⟩ := h; rfl
  | pot => obtain ⟨p, rfl, _⟩ := h; rfl
  | wlk => exact h.elim
def dIsG (neg : Bool) : DR2W := fun p q R => match q.2 with
  | .non => R (.v true (.bl (if neg then !isNon p.2 else isNon p.2)))
  | _ => False
instance {K : PySem.W.Frag} : DR2 K rIsG (dIsG false) where
  ok := fun {F σ H ρ p q x y R Q} hK E hx hy h k => by
    unfold dIsG at h
    split at h
    · rename_i e
      rw [e] at hy
      refine ⟨hy, ?_⟩
      rw [isNon_v hx]
      exact k _ _ H h (.refl _) (.bl _)
    · exact h.elim
instance {K : PySem.W.Frag} : DR2 K rNotG (dIsG true) where
  ok := fun {F σ H ρ p q x y R Q} hK E hx hy h k => by
    unfold dIsG at h
    split at h
    · rename_i e
      rw [e] at hy
      refine ⟨hy, ?_⟩
      rw [isNon_v hx]
      exact k _ _ H h (.refl _) (.bl _)
    · exact h.elim
/-! ### x[i] -/
def dIxG : DR2W := fun p q R => match p.2, q.2 with
  | .lst xs, .int i => match atI xs i with
    | some d => R (.v p.1 d)
    | none => False
  | .tup xs, .int i => match atI xs i with
    | some d => R (.v p.1 d)
    | none => False
  | .str z, .int i => z.length ≤ sizeLine ∧ match atI z.cps.toList i with
    | some c => R (.v true (.str ⟨#[c]⟩))
    | none => False
  | _, _ => False
theorem RepL.atI {K : PySem.W.Frag} {H : Hp} {vs : List V} {ds : List D} {i : Int} {d : D} (h : RepL K H vs ds) (e : atI ds i = some d) : ∃ v, L2.atI vs i = some v ∧ Rep K H v d := by
  unfold L2.atI at e ⊢
  rw [h.len]
  cases q : ixN ds.length i with
  | none =>
    rw [q] at e
    cases e
  | some j =>
    rw [q] at e
    exact h.get e
instance {K : PySem.W.Frag} : DR2 K (rIxG K) dIxG where
  ok := fun {F σ H ρ p q x y R Q} hK E hx hy h k => by
    subst hK
    unfold dIxG at h
    split at h
    · rename_i xs i hp hq
      rw [hp] at hx
      rw [hq] at hy
      obtain ⟨a, vs, rfl, h1, h2⟩ := hx
      split at h
      · rename_i d hd
        obtain ⟨v, h3, h4⟩ := h2.atI hd
        exact .inl ⟨a, vs, i, v, rfl, hy, SqL.of h1, h3, k _ _ H h (.refl _) h4⟩
      · exact h.elim
    · rename_i xs i hp hq
      rw [hp] at hx
      rw [hq] at hy
      obtain ⟨a, vs, rfl, h1, h2⟩ := hx
      split at h
      · rename_i d hd
        obtain ⟨v, h3, h4⟩ := h2.atI hd
        exact .inr (.inl ⟨a, vs, i, v, rfl, hy, SqT.of h1, h3, k _ _ H h (.refl _) h4⟩)
      · exact h.elim
    · rename_i z i hp hq
      rw [hp] at hx
      rw [hq] at hy
      obtain ⟨hz, h⟩ := h
      split at h
      · rename_i c hc
        exact .inr (.inr ⟨z, i, c, hx, hy, hz, hc, k _ _ H h (.refl _) (.str _)⟩)
      · exact h.elim
    · exact h.elim
end PW

namespace PW
open PySem PySem.Spec PyProof.Rows L2
theorem tops1 {K : PySem.W.Frag} {F : Fr} {O : Addr → Prop} {H : Hp} {xs : List V} {p : Bool × D} (h : Tops K F O H xs [p]) : ∃ v, xs = [v] ∧ TopD K H (F.RH O H p.1) v p.2 := by
  cases h with
  | cons h g =>
    cases g
    exact ⟨_, rfl, h⟩
theorem tops2 {K : PySem.W.Frag} {F : Fr} {O : Addr → Prop} {H : Hp} {xs : List V} {p q : Bool × D} (h : Tops K F O H xs [p, q]) : ∃ v u, xs = [v, u] ∧ TopD K H (F.RH O H p.1) v p.2 ∧ TopD K H (F.RH O H q.1) u q.2 := by
  cases h with
  | cons h g =>
    obtain ⟨u, rfl, h2⟩ := tops1 g
    exact ⟨_, u, rfl, h, h2⟩
/-! ### calls of built-ins -/
def dLenG : DR1W := fun ps R => match ps with
  | [(_, .lst xs)] => R (.v true (.int (xs.length : Nat)))
  | [(_, .tup xs)] => R (.v true (.int (xs.length : Nat)))
  | [(_, .str z)] => z.length ≤ sizeLine ∧ R (.v true (.int (z.length : Nat)))
  | [(_, .dK es)] => R (.v true (.int (es.length : Nat)))
  | _ => False
instance {K : PySem.W.Frag} : DR1 K (rLenG K) dLenG where
  ok := fun {F σ H ρ ps xs R Q} hK E ht h k => by
    unfold dLenG at h
    split at h
    · obtain ⟨v, rfl, a, vs, rfl, h1, h2⟩ := tops1 ht
      exact .inl ⟨_, _, rfl, .inl ⟨vs, SqL.of h1, rfl⟩, by rw [h2.len]; exact k _ _ H h (.refl _) (.int _)⟩
    · obtain ⟨v, rfl, a, vs, rfl, h1, h2⟩ := tops1 ht
      exact .inl ⟨_, _, rfl, .inr ⟨vs, SqT.of h1, rfl⟩, by rw [h2.len]; exact k _ _ H h (.refl _) (.int _)⟩
    · obtain ⟨v, rfl, h1⟩ := tops1 ht
      have h1 : v = .str _ := h1
      subst h1
      exact .inl ⟨_, _, rfl, ⟨h.1, rfl⟩, k _ _ H h.2 (.refl _) (.int _)⟩
    · obtain ⟨v, rfl, a, kvs, rfl, h1, h2, h3⟩ := tops1 ht
      have hl := congrArg List.length h2
      rw [List.length_map, List.length_map] at hl
      exact .inr ⟨a, kvs, rfl, h1, by rw [hl]; exact k _ _ H h (.refl _) (.int _)⟩
    · exact h.elim
def dMax2 : DR1W := fun ps R => match ps with
  | [(_, .int i), (_, .int j)] => R (.v true (.int (if j > i then j else i)))
  | _ => False
def dMin2 : DR1W := fun ps R => match ps with
  | [(_, .int i), (_, .int j)] => R (.v true (.int (if j < i then j else i)))
  | _ => False
def dInt1 : DR1W := fun ps R => match ps with
  | [(_, .int i)] => R (.v true (.int i))
  | [(_, .bl b)] => R (.v true (.int (if b then 1 else 0)))
  | _ => False
instance {K : PySem.W.Frag} : DR1 K rMax2 dMax2 where
  ok := fun {F σ H ρ ps xs R Q} hK E ht h k => by
    unfold dMax2 at h
    split at h
    · obtain ⟨v, u, rfl, h1, h2⟩ := tops2 ht
      cases (show v = .int _ from h1)
      cases (show u = .int _ from h2)
      exact ⟨_, _, rfl, k _ _ H h (.refl _) (.int _)⟩
    · exact h.elim
instance {K : PySem.W.Frag} : DR1 K rMin2 dMin2 where
  ok := fun {F σ H ρ ps xs R Q} hK E ht h k => by
    unfold dMin2 at h
    split at h
    · obtain ⟨v, u, rfl, h1, h2⟩ := tops2 ht
      cases (show v = .int _ from h1)
      cases (show u = .int _ from h2)
      exact ⟨_, _, rfl, k _ _ H h (.refl _) (.int _)⟩
    · exact h.elim
instance {K : PySem.W.Frag} : DR1 K rInt1 dInt1 where
  ok := fun {F σ H ρ ps xs R Q} hK E ht h k => by
    unfold dInt1 at h
    split at h
    · obtain ⟨v, rfl, h1⟩ := tops1 ht
      cases (show v = .int _ from h1)
      exact .inl ⟨_, rfl, k _ _ H h (.refl _) (.int _)⟩
    · obtain ⟨v, rfl, h1⟩ := tops1 ht
      cases (show v = .bl _ from h1)
      exact .inr ⟨_, rfl, k _ _ H h (.refl _) (.int _)⟩
    · exact h.elim
/-! list(x), tuple(x) -/
def keyD : Key → D
  | .inl i => .int i
  | .inr s => .str s
theorem keys_rep {K : PySem.W.Frag} {H : Hp} {α β : Type} : ∀ {kvs : List (Key × α)} {es : List (Key × β)}, kvs.map (·.1) = es.map (·.1) → RepL K H (kvs.map fun kv => kV kv.1) (es.map fun kv => keyD kv.1)
  | [], [], _ => .nil
  | [], _ :: _, h => by cases h
  | _ :: _, [], h => by cases h
  | (k, _) :: kvs, (k', _) :: es, h => by
    simp only [List.map_cons, List.cons.injEq] at h ⊢
    obtain ⟨rfl, h⟩ := h
    refine .cons ?_ (keys_rep h)
    cases k with
    | inl i => exact .int i
    | inr s => exact .str s
def dListG : DR1W := fun ps R => match ps with
  | [(r, .lst xs)] => R (.fr (reg (r, .lst xs)) (.lst xs))
  | [(r, .tup xs)] => R (.fr (reg (r, .tup xs)) (.lst xs))
  | [(_, .dK es)] => R (.fr true (.lst (es.map fun kv => keyD kv.1)))
  | _ => False
instance {K : PySem.W.Frag} : DR1 K (rListG K) dListG where
  ok := fun {F σ H ρ ps xs R Q} hK E ht h k => by
    subst hK
    unfold dListG at h
    split at h
    · obtain ⟨v, rfl, h0⟩ := tops1 ht
      obtain ⟨a, vs, rfl, h1, h2⟩ := h0.lst rfl
      exact .inl ⟨a, vs, rfl, .inl (SqL.of h1), fun c hc => k _ _ _ h (same_new hc) (fresh_of E hc rfl ⟨_, rfl, h2⟩)⟩
    · obtain ⟨v, rfl, h0⟩ := tops1 ht
      obtain ⟨a, vs, rfl, h1, h2⟩ := h0.tup rfl
      exact .inl ⟨a, vs, rfl, .inr (SqT.of h1), fun c hc => k _ _ _ h (same_new hc) (fresh_of E hc rfl ⟨_, rfl, h2⟩)⟩
    · obtain ⟨v, rfl, a, kvs, rfl, h1, h2, h3⟩ := tops1 ht
      exact .inr ⟨a, kvs, rfl, h1, fun c hc => k _ _ _ h (same_new hc) (fresh_of E hc rfl ⟨_, rfl, keys_rep h2⟩)⟩
    · exact h.elim
def dTupG : DR1W := fun ps R => match ps with
  | [(r, .lst xs)] => R (.v (reg (r, .lst xs)) (.tup xs))
  | [(r, .tup xs)] => R (.v (reg (r, .tup xs)) (.tup xs))
  | _ => False
instance {K : PySem.W.Frag} : DR1 K (rTupK K) dTupG where
  ok := fun {F σ H ρ ps xs R Q} hK E ht h k => by
    subst hK
    unfold dTupG at h
    split at h
    · obtain ⟨v, rfl, h0⟩ := tops1 ht
      obtain ⟨a, vs, rfl, h1, h2⟩ := h0.lst rfl
      refine ⟨a, vs, rfl, .inl ⟨SqL.of h1, fun c hc => k _ _ _ h (same_new hc) (.tup (cut_tup upd_same) (h2.mono (E.rh (.same (same_new hc)))))⟩⟩
    · obtain ⟨v, rfl, h0⟩ := tops1 ht
      obtain ⟨a, vs, rfl, h1, h2⟩ := h0.tup rfl
      exact ⟨a, vs, rfl, .inr ⟨SqT.of h1, k _ _ H h (.refl _) (.tup (cut_tup h1) h2)⟩⟩
    · exact h.elim
/-! all, any, sum, max, min of lists -/
def boolsD : List D → Option (List Bool)
  | [] => some []
  | .bl b :: ds => (boolsD ds).map (b :: ·)
  | _ => none
def intsD : List D → Option (List Int)
  | [] => some []
  | .int b :: ds => (intsD ds).map (b :: ·)
  | _ => none
theorem bools_v {K : PySem.W.Frag} {H : Hp} : ∀ {vs : List V} {ds : List D} {bs : List Bool}, RepL K H vs ds → boolsD ds = some bs → vs = bs.map V.bl
  | _, _, _, .nil, e => by cases e; rfl
  | _, _, _, .cons (d := d) h g, e => by
    cases d with
    | bl b =>
      simp only [boolsD, Option.map_eq_some_iff] at e
      obtain ⟨bs, e, rfl⟩ := e
      rw [bools_v g e]
      cases h
      rfl
    | _ => cases e
theorem ints_v {K : PySem.W.Frag} {H : Hp} : ∀ {vs : List V} {ds : List D} {bs : List Int}, RepL K H vs ds → intsD ds = some bs → vs = bs.map V.int
  | _, _, _, .nil, e => by cases e; rfl
  | _, _, _, .cons (d := d) h g, e => by
    cases d with
    | int b =>
      simp only [intsD, Option.map_eq_some_iff] at e
      obtain ⟨bs, e, rfl⟩ := e
      rw [ints_v g e]
      cases h
      rfl
    | _ => cases e
def dAll : DR1W := fun ps R => match ps with
  | [(_, .lst ds)] => ∃ bs, boolsD ds = some bs ∧ R (.v true (.bl (bs.all id)))
  | _ => False
def dAny : DR1W := fun ps R => match ps with
  | [(_, .lst ds)] => ∃ bs, boolsD ds = some bs ∧ R (.v true (.bl (bs.any id)))
  | _ => False
def dSum : DR1W := fun ps R => match ps with
  | [(_, .lst ds)] => ∃ bs, intsD ds = some bs ∧ R (.v true (.int bs.sum))
  | _ => False
def dMaxL : DR1W := fun ps R => match ps with
  | [(_, .lst ds)] => ∃ bs, intsD ds = some bs ∧ 0 < bs.length ∧ ∀ m, m ∈ bs → (∀ y, y ∈ bs → y ≤ m) → R (.v true (.int m))
  | _ => False
def dMinL : DR1W := fun ps R => match ps with
  | [(_, .lst ds)] => ∃ bs, intsD ds = some bs ∧ 0 < bs.length ∧ ∀ m, m ∈ bs → (∀ y, y ∈ bs → m ≤ y) → R (.v true (.int m))
  | _ => False
instance {K : PySem.W.Frag} : DR1 K (rAll K) dAll where
  ok := fun {F σ H ρ ps xs R Q} hK E ht h k => by
    unfold dAll at h
    split at h
    · obtain ⟨bs, hb, h⟩ := h
      obtain ⟨v, rfl, a, vs, rfl, h1, h2⟩ := tops1 ht
      rw [bools_v h2 hb] at h1
      exact ⟨a, bs, rfl, SqL.of h1, k _ _ H h (.refl _) (.bl _)⟩
    · exact h.elim
instance {K : PySem.W.Frag} : DR1 K (rAny K) dAny where
  ok := fun {F σ H ρ ps xs R Q} hK E ht h k => by
    unfold dAny at h
    split at h
    · obtain ⟨bs, hb, h⟩ := h
      obtain ⟨v, rfl, a, vs, rfl, h1, h2⟩ := tops1 ht
      rw [bools_v h2 hb] at h1
      exact ⟨a, bs, rfl, SqL.of h1, k _ _ H h (.refl _) (.bl _)⟩
    · exact h.elim
instance {K : PySem.W.Frag} : DR1 K (rSum K) dSum where
  ok := fun {F σ H ρ ps xs R Q} hK E ht h k => by
    unfold dSum at h
    split at h
    · obtain ⟨bs, hb, h⟩ := h
      obtain ⟨v, rfl, a, vs, rfl, h1, h2⟩ := tops1 ht
      rw [ints_v h2 hb] at h1
      exact ⟨a, bs, rfl, SqL.of h1, k _ _ H h (.refl _) (.int _)⟩
    · exact h.elim
instance {K : PySem.W.Frag} : DR1 K (rMax K) dMaxL where
  ok := fun {F σ H ρ ps xs R Q} hK E ht h k => by
    unfold dMaxL at h
    split at h
    · obtain ⟨bs, hb, hl, h⟩ := h
      obtain ⟨v, rfl, a, vs, rfl, h1, h2⟩ := tops1 ht
      rw [ints_v h2 hb] at h1
      exact ⟨a, bs, rfl, SqL.of h1, hl, fun m g1 g2 => k _ _ H (h m g1 g2) (.refl _) (.int _)⟩
    · exact h.elim
instance {K : PySem.W.Frag} : DR1 K (rMin K) dMinL where
  ok := fun {F σ H ρ ps xs R Q} hK E ht h k => by
    unfold dMinL at h
    split at h
    · obtain ⟨bs, hb, hl, h⟩ := h
      obtain ⟨v, rfl, a, vs, rfl, h1, h2⟩ := tops1 ht
      rw [ints_v h2 hb] at h1
      exact ⟨a, bs, rfl, SqL.of h1, hl, fun m g1 g2 => k _ _ H (h m g1 g2) (.refl _) (.int _)⟩
    · exact h.elim
/-! isinstance -/
def tyN : D → Option String
  | .non => some "NoneType"
  | .bl _ => some "bool"
  | .int _ => some "int"
  | .str _ => some "str"
  | .lst _ => some "list"
  | .tup _ => some "tuple"
  | .dK _ => some "dict"
  | .dT _ => some "dict"
  | _ => none
theorem tyN_ty {K : PySem.W.Frag} {H Hr : Hp} {v : V} {d : D} {n : String} (h : TopD K H Hr v d) (e : tyN d = some n) (nf : ∀ es, d ≠ .dT es) : TyX K H v (.type n) := by
  cases d with
  | non => cases h; cases e; exact .base .non
  | bl b => cases h; cases e; exact .base (.bl _)
  | int i => cases h; cases e; exact .base (.int _)
  | str s => cases h; cases e; exact .base (.str _)
  | lst ds => obtain ⟨a, vs, rfl, h1, _⟩ := h; cases e; exact .base (.lst h1)
  | tup ds => obtain ⟨a, vs, rfl, h1, _⟩ := h; cases e; exact .base (.tup h1)
  | dK ds =>
    obtain ⟨a, vs, rfl, h1, _⟩ := h
    cases e
    rcases h1 with h1 | ⟨o, h1⟩
    · exact .base (.dK h1)
    · exact .fDict h1
  | dT ds => exact absurd rfl (nf ds)
  | _ => cases e
def isiN (a b : String) : Bool := a == b || (a == "bool" && b == "int")
def known (b : String) : Bool := b == "int" || b == "bool" || b == "str" || b == "list" || b == "tuple" || b == "dict"
theorem isiN_ok {d : D} {a b : String} (h : tyN d = some a) (k : known b = true) : kitB a b = some (isiN a b) := by
  have hb : b = "int" ∨ b = "bool" ∨ b = "str" ∨ b = "list" ∨ b = "tuple" ∨ b = "dict" := by
    simpa [known, or_assoc] using k
  have ha : a = "NoneType" ∨ a = "bool" ∨ a = "int" ∨ a = "str" ∨ a = "list" ∨ a = "tuple" ∨ a = "dict" := by
    cases d <;> simp [tyN] at h <;> subst h <;> simp
  rcases ha with rfl | rfl | rfl | rfl | rfl | rfl | rfl <;> rcases hb with rfl | rfl | rfl | rfl | rfl | rfl <;> decide +kernel
def tysD : List D → Option (List String)
  | [] => some []
  | .ty b :: ds => (tysD ds).map (b :: ·)
  | _ => none
def notT : D → Bool
  | .dT _ => false
  | _ => true
def dIsi : DR1W := fun ps R => match ps with
  | [(_, d), (_, .ty n)] => ∃ a, tyN d = some a ∧ notT d = true ∧ known n = true ∧ R (.v true (.bl (isiN a n)))
  | _ => False
def dIsiT : DR1W := fun ps R => match ps with
  | [(_, d), (_, .tup ts)] => ∃ a ns, tyN d = some a ∧ notT d = true ∧ tysD ts = some ns ∧ ns.all known = true ∧ R (.v true (.bl (ns.any (isiN a))))
  | _ => False
theorem notT_ne {d : D} (h : notT d = true) : ∀ es, d ≠ .dT es := fun es z => by
  subst z
  cases h
instance {K : PySem.W.Frag} : DR1 K (rIsi K) dIsi where
  ok := fun {F σ H ρ ps xs R Q} hK E ht h k => by
    unfold dIsi at h
    split at h
    · obtain ⟨a, h1, h2, h3, h⟩ := h
      obtain ⟨v, u, rfl, g1, g2⟩ := tops2 ht
      cases (show u = .ty _ from g2)
      exact ⟨v, _, _, _, _, rfl, .ty _, tyN_ty g1 h1 (notT_ne h2), kit_ty (isiN_ok h1 h3), k _ _ H h (.refl _) (.bl _)⟩
    · exact h.elim
theorem tys_v {K : PySem.W.Frag} {H : Hp} : ∀ {vs : List V} {ds : List D} {bs : List String}, RepL K H vs ds → tysD ds = some bs → Paired ClsV vs (bs.map Value.type)
  | _, _, _, .nil, e => by cases e; exact .nil
  | _, _, _, .cons (d := d) h g, e => by
    cases d with
    | ty b =>
      simp only [tysD, Option.map_eq_some_iff] at e
      obtain ⟨bs, e, rfl⟩ := e
      cases h
      exact .cons (.ty _) (tys_v g e)
    | _ => cases e
theorem kitAny_of {K : PySem.W.Frag} {d : D} {a : String} (h : tyN d = some a) : ∀ {ns : List String}, ns.all known = true → PySem.W.kitAny K (.type a) (ns.map Value.type) = some (ns.any (isiN a))
  | [], _ => rfl
  | n :: ns, e => by
    rw [List.all_cons, Bool.and_eq_true] at e
    rw [List.map_cons, List.any_cons]
    refine kitAny_cons (b := isiN a n) (kit_ty (isiN_ok h e.1)) (fun z => ?_) fun z => ?_
    · rw [z, Bool.false_or]
      exact kitAny_of h e.2
    · rw [z, Bool.true_or]
instance {K : PySem.W.Frag} : DR1 K (rIsiT K) dIsiT where
  ok := fun {F σ H ρ ps xs R Q} hK E ht h k => by
    unfold dIsiT at h
    split at h
    · obtain ⟨a, ns, h1, h2, h3, h4, h⟩ := h
      obtain ⟨v, u, rfl, g1, b, cs, rfl, g2, g3⟩ := tops2 ht
      exact ⟨v, b, cs, _, _, _, rfl, g2, tys_v g3 h3, tyN_ty g1 h1 (notT_ne h2), kitAny_of h1 h4, k _ _ H h (.refl _) (.bl _)⟩
    · exact h.elim
/-! ### one thing: -x, o.f, slices -/
section
variable {K : PySem.W.Frag} {W : WXT}
def dUn (g : Int → V) (w : DW) : DW := fun X ρ R => w X ρ fun x ρ1 => match rd ρ1 x with
  | some (_, .int i) => match flatD (g i) with
    | some d => R (.v true d) ρ1
    | none => False
  | _ => False
instance {g : Int → V} {t : TE} {w : DW} [A : DE K W t w] : DE K W (tUn (rU g) t) (dUn g w) where
  ok := fun {F σ H ρ X R Q} hK E L h q => by
    refine A.ok hK E L h fun x ρ1 v H1 h1 E1 s1 r1 => ?_
    split at h1
    · rename_i r i e
      have : v = .int i := r1.top E1 e
      split at h1
      · rename_i d hd
        exact ⟨i, this, q _ ρ1 _ H1 h1 E1 s1 (flatD_rep (K := F.K) hd)⟩
      · exact h1.elim
    · exact h1.elim
def lookF (f : Str) : List (Str × D) → Option D := fun fs => fs.lookup f
theorem look_rep {K : PySem.W.Frag} {H : Hp} {f : Str} {d : D} : ∀ {fs : List (Str × V)} {es : List (Str × D)}, fs.map (·.1) = es.map (·.1) → RepL K H (fs.map (·.2)) (es.map (·.2)) → es.lookup f = some d → ∃ v, fs.lookup f = some v ∧ Rep K H v d
  | [], [], _, _, e => by cases e
  | [], _ :: _, h, _, _ => by cases h
  | _ :: _, [], h, _, _ => by cases h
  | (k, v) :: fs, (k', d') :: es, h, g, e => by
    simp only [List.map_cons, List.cons.injEq] at h g
    obtain ⟨rfl, h⟩ := h
    cases g with
    | cons g1 g2 =>
      rw [List.lookup_cons] at e ⊢
      by_cases z : (f == k) = true
      · rw [z] at e ⊢
        cases e
        exact ⟨v, rfl, g1⟩
      · rw [Bool.eq_false_iff.mpr z] at e ⊢
        exact look_rep h g2 e
/-- what an own class gives of itself -/
structure ClsOk (K : PySem.W.Frag) (c f : Str) : Prop where
  cl : Cls K (He.ga K c)
  na : NoAttr K (He.ga K c) f
def dFld (K : PySem.W.Frag) (f : Str) (w : DW) : DW := fun X ρ R => w X ρ fun x ρ1 => match rd ρ1 x with
  | some (r, .ins c fs) => ClsOk K c f ∧ match fs.lookup f with
    | some d => R (.v r d) ρ1
    | none => False
  | _ => False
instance {f : Str} {t : TE} {w : DW} [A : DE K W t w] : DE K W (tFld K t f) (dFld K f w) where
  ok := fun {F σ H ρ X R Q} hK E L h q => by
    subst hK
    refine A.ok rfl E L h fun x ρ1 v H1 h1 E1 s1 r1 => ?_
    split at h1
    · rename_i r c fs e
      obtain ⟨a, dx, fvs, rfl, g1, g2, g3⟩ := r1.top E1 e
      obtain ⟨hc, h1⟩ := h1
      split at h1
      · rename_i d hd
        obtain ⟨u, g4, g5⟩ := look_rep g2 g3 hd
        exact ⟨a, _, dx, fvs, u, rfl, g1, hc.cl, hc.na, g4, q _ ρ1 _ H1 h1 E1 s1 g5⟩
      · exact h1.elim
    · exact h1.elim
end
class DO (K : PySem.W.Frag) (W : WXT) (t : TO) (w : outParam (XC → DEnv → (Option Int → DEnv → Prop) → Prop)) : Prop where
  ok : ∀ {F : Fr} {σ : L2.St} {H : Hp} {ρ : DEnv} {X : XC} {R : Option Int → DEnv → Prop} {Q : Option Int → Hp → Prop}, F.K = K → Env F σ ρ H → XLink F W X σ ρ H → w X ρ R →
    (∀ b ρ' H', R b ρ' → Env F σ ρ' H' → Stp (OwnA σ ρ) H (OwnA σ ρ') H' → Q b H') → t σ H Q
def dNoPart : XC → DEnv → (Option Int → DEnv → Prop) → Prop := fun _ ρ R => R none ρ
def dPart (w : DW) : XC → DEnv → (Option Int → DEnv → Prop) → Prop := fun X ρ R => w X ρ fun x ρ1 => match rd ρ1 x with
  | some (_, .int i) => R (some i) ρ1
  | _ => False
abbrev DSlW := Bool × D → Option Int → Option Int → (DV → Prop) → Prop
class DSl (K : PySem.W.Frag) (r : V → Option Int → Option Int → Hp → VK → Prop) (w : outParam DSlW) : Prop where
  ok : ∀ {F : Fr} {σ : L2.St} {H : Hp} {ρ : DEnv} {p : Bool × D} {x : V} {lo hi : Option Int} {R : DV → Prop} {Q : VK}, F.K = K → Env F σ ρ H → TopD K H (F.RH (OwnA σ ρ) H p.1) x p.2 → w p lo hi R →
    (∀ dv v H', R dv → Same H H' → RepV F H σ ρ H' v dv → Q v H') → r x lo hi H Q
def cutD {α : Type} (xs : List α) (lo hi : Option Int) : List α := (xs.drop (HT.sIx xs.length 0 lo)).take (HT.sIx xs.length xs.length hi - HT.sIx xs.length 0 lo)
section
variable {K : PySem.W.Frag} {W : WXT}
instance : DO K W tNoPart dNoPart where
  ok := fun {F σ H ρ X R Q} hK E L h q => q none ρ H h E (.refl _ _)
instance {t : TE} {w : DW} [A : DE K W t w] : DO K W (tPart t) (dPart w) where
  ok := fun {F σ H ρ X R Q} hK E L h q => by
    refine A.ok hK E L h fun x ρ1 v H1 h1 E1 s1 r1 => ?_
    split at h1
    · rename_i r i e
      have : v = .int i := r1.top E1 e
      exact ⟨i, this, q _ ρ1 H1 h1 E1 s1⟩
    · exact h1.elim
def dSl (w : DSlW) (wo : DW) (wl wh : XC → DEnv → (Option Int → DEnv → Prop) → Prop) : DW := fun X ρ R => wo X ρ fun x ρ1 => wl X ρ1 fun l ρ2 => wh X ρ2 fun u ρ3 => match rd ρ3 x with
  | some p => w p l u fun z => R z ρ3
  | none => False
instance {r : V → Option Int → Option Int → Hp → VK → Prop} {w : DSlW} {t : TE} {tl th : TO} {wo : DW} {wl wh : XC → DEnv → (Option Int → DEnv → Prop) → Prop} [A : DE K W t wo] [B : DO K W tl wl] [C : DO K W th wh] [S : DSl K r w] : DE K W (tSl r t tl th) (dSl w wo wl wh) where
  ok := fun {F σ H ρ X R Q} hK E L h q => by
    refine A.ok hK E L h fun x ρ1 v H1 h1 E1 s1 r1 => ?_
    refine B.ok hK E1 (L.stp s1) h1 fun l ρ2 H2 h2 E2 s2 => ?_
    refine C.ok hK E2 (L.stp (s1.trans s2)) h2 fun u ρ3 H3 h3 E3 s3 => ?_
    have r1' : RepV F H σ ρ3 H3 v x.tmp := r1.stp E1 (s2.trans s3)
    split at h3
    · rename_i p hp
      subst hK
      refine S.ok rfl E3 (r1'.top E3 (by rw [rd_tmp]; exact hp)) h3 fun dv z H4 h4 s4 r4 => ?_
      exact q dv ρ3 z H4 h4 (E3.grow s4) (((s1.trans s2).trans s3).trans (.same s4)) (r4.early ((s1.trans s2).trans s3))
    · exact h3.elim
def dSlL : DSlW := fun p lo hi R => match p.2 with
  | .lst xs => R (.fr (reg p) (.lst (cutD xs lo hi)))
  | _ => False
theorem RepL.cutD {K : PySem.W.Frag} {H : Hp} {vs : List V} {ds : List D} (h : RepL K H vs ds) (lo hi : Option Int) : RepL K H (cutV vs lo hi) (PW.cutD ds lo hi) := by
  unfold cutV PW.cutD
  rw [h.len]
  exact (h.drop _).take _
instance : DSl K (rSlL K) dSlL where
  ok := fun {F σ H ρ p x lo hi R Q} hK E hx h k => by
    subst hK
    unfold dSlL at h
    split at h
    · rename_i xs hp
      obtain ⟨a, vs, rfl, h1, h2⟩ := hx.lst hp
      exact ⟨a, vs, rfl, SqL.of h1, fun c hc => k _ _ _ h (same_new hc) (fresh_of E hc rfl ⟨_, rfl, h2.cutD lo hi⟩)⟩
    · exact h.elim
def dSlS : DSlW := fun p lo hi R => match p.2 with
  | .str z => z.length ≤ sizeLine ∧ R (.v true (.str (cutS z lo hi)))
  | _ => False
instance : DSl K rSlS dSlS where
  ok := fun {F σ H ρ p x lo hi R Q} hK E hx h k => by
    unfold dSlS at h
    split at h
    · rename_i z hp
      rw [hp] at hx
      exact ⟨z, hx, h.1, k _ _ H h.2 (.refl _) (.str _)⟩
    · exact h.elim
def dRev (w : DW) : DW := fun X ρ R => w X ρ fun x ρ1 => match rd ρ1 x with
  | some (r, .lst xs) => R (.fr (reg (r, .lst xs)) (.lst xs.reverse)) ρ1
  | _ => False
instance {t : TE} {w : DW} [A : DE K W t w] : DE K W (tRevL K t) (dRev w) where
  ok := fun {F σ H ρ X R Q} hK E L h q => by
    subst hK
    refine A.ok rfl E L h fun x ρ1 v H1 h1 E1 s1 r1 => ?_
    split at h1
    · rename_i r xs e
      obtain ⟨a, vs, rfl, g1, g2⟩ := (r1.top E1 e).lst (p := (r, .lst xs)) rfl
      refine ⟨a, vs, rfl, SqL.of g1, fun c hc => ?_⟩
      exact q _ ρ1 _ _ h1 (E1.grow (same_new hc)) (s1.trans (.same (same_new hc))) (RepV.early (fresh_of (d := .lst xs.reverse) E1 hc rfl ⟨_, rfl, g2.rev⟩) s1)
    · exact h1.elim
end
end PW

namespace PW
open PySem PySem.Spec PyProof.Rows L2
/-! ### methods of lists -/
abbrev DMW := DV → List DV → DEnv → (DV → DEnv → Prop) → Prop
class DM (K : PySem.W.Frag) (r : V → List V → Hp → VK → Prop) (w : outParam DMW) : Prop where
  ok : ∀ {F : Fr} {Hs : Hp} {σ : L2.St} {H : Hp} {ρ : DEnv} {x : V} {ys : List V} {dx : DV} {dys : List DV} {R : DV → DEnv → Prop} {Q : VK}, F.K = K → Env F σ ρ H → RepV F Hs σ ρ H x dx → Paired (fun v dv => RepV F Hs σ ρ H v dv ∧ dv.tmp = dv) ys dys → w dx dys ρ R →
    (∀ dv ρ' v H', R dv ρ' → Env F σ ρ' H' → Stp (OwnA σ ρ) H (OwnA σ ρ') H' → RepV F H σ ρ' H' v dv → Q v H') → r x ys H Q
def tyD (T : String) : Option (Bool × D) → Prop
  | some (_, .lst _) => T = "list"
  | some (_, .str _) => T = "str"
  | some (_, .dK _) => T = "dict"
  | _ => False
def exactD : DEnv → DV → Bool
  | _, .v _ (.dK _) => false
  | _, _ => true
def dBM (T : String) (wm : DMW) (wo : DW) (u : DAW) : DW := fun X ρ R => wo X ρ fun x ρ1 => T = "list" ∧ tyD T (rd ρ1 x) ∧ u X ρ1 fun ys ρ2 => wm x.tmp (ys.map DV.tmp) ρ2 R
def dBM0 (T : String) (wm : DMW) (wo : DW) : DW := fun X ρ R => wo X ρ fun x ρ1 => T = "list" ∧ tyD T (rd ρ1 x) ∧ wm x.tmp [] ρ1 R
section
variable {K : PySem.W.Frag} {W : WXT}
theorem tyD_v {F : Fr} {Hs : Hp} {σ : L2.St} {ρ : DEnv} {H : Hp} {v : V} {dv : DV} (E : Env F σ ρ H) (h : RepV F Hs σ ρ H v dv) (e : tyD "list" (rd ρ dv)) : tyV F.K "list" v H := by
  unfold tyD at e
  split at e
  · rename_i r ds q
    obtain ⟨a, vs, rfl, h1, _⟩ := h.top E q
    exact .inl ⟨rfl, vs, SqL.of h1⟩
  · exact absurd e (by decide)
  · exact absurd e (by decide)
  · exact e.elim
instance {T : String} {r : V → List V → Hp → VK → Prop} {wm : DMW} {to : TE} {wo : DW} {t : TA} {u : DAW} [A : DE K W to wo] [B : DA K W t u] [C : DM K r wm] : DE K W (tBM K T r to t) (dBM T wm wo u) where
  ok := fun {F σ H ρ X R Q} hK E L h q => by
    subst hK
    refine A.ok rfl E L h fun x ρ1 v H1 h1 E1 s1 r1 => ?_
    obtain ⟨rfl, h1, h2⟩ := h1
    refine ⟨tyD_v E1 r1 h1, ?_⟩
    refine B.ok rfl E1 (L.stp s1) h2 fun ys ρ2 vs H2 h3 E2 s2 r2 => ?_
    exact C.ok rfl E2 (r1.stp E1 s2) (dCons_tmp r2) h3 fun dv ρ3 z H3 h4 E3 s3 r3 => q dv ρ3 z H3 h4 E3 ((s1.trans s2).trans s3) (r3.early (s1.trans s2))
instance {T : String} {r : V → List V → Hp → VK → Prop} {wm : DMW} {to : TE} {wo : DW} [A : DE K W to wo] [C : DM K r wm] : DE K W (tBM0 K T r to) (dBM0 T wm wo) where
  ok := fun {F σ H ρ X R Q} hK E L h q => by
    subst hK
    refine A.ok rfl E L h fun x ρ1 v H1 h1 E1 s1 r1 => ?_
    obtain ⟨rfl, h1, h2⟩ := h1
    refine ⟨tyD_v E1 r1 h1, ?_⟩
    exact C.ok (Hs := H) rfl E1 (r1.stp E1 (.refl _ _)) .nil h2 fun dv ρ3 z H3 h4 E3 s3 r3 => q dv ρ3 z H3 h4 E3 (s1.trans s3) (r3.early s1)
/-- the list of a slot's own, changed -/
def onList (x : DV) (ρ : DEnv) (k : Nat → Bool → List D → Prop) : Prop := match x with
  | .al i => match ρ[i]? with
    | some (some (.ow r (.lst ds))) => k i r ds
    | _ => False
  | _ => False
theorem onList_at {F : Fr} {Hs : Hp} {σ : L2.St} {ρ : DEnv} {H : Hp} {v : V} {dv : DV} {k : Nat → Bool → List D → Prop} (E : Env F σ ρ H) (h : RepV F Hs σ ρ H v dv) (e : onList dv ρ k) :
    ∃ i r ds a vs, k i r ds ∧ ρ[i]? = some (some (.ow r (.lst ds))) ∧ v = .ref a ∧ σ[i]? = some (some (.ref a)) ∧ H a = some (.lst vs) ∧ RepL F.K (F.RH (OwnA σ ρ) H r) vs ds := by
  unfold onList at e
  split at e
  · rename_i i
    split at e
    · rename_i r ds hi
      obtain ⟨a, h1, ⟨vs, h2, h3⟩, _⟩ := E.ow i r _ hi
      rw [show σ[i]? = some (some v) from h] at h1
      cases h1
      exact ⟨i, r, ds, a, vs, e, hi, rfl, h, h2, h3⟩
    · exact e.elim
  · exact e.elim
def dAppend : DMW := fun x ys ρ R => match ys with
  | [y] => match st ρ y with
    | some (r, d, ρ1) => onList x ρ1 fun i r0 ds => ds.length < sizeLine ∧ R (.v true .non) (ρ1.set i (some (.ow (r0 && r) (.lst (ds ++ [d])))))
    | none => False
  | _ => False
theorem paired1 {α β : Type} {P : α → β → Prop} {xs : List α} {b : β} (h : Paired P xs [b]) : ∃ a, xs = [a] ∧ P a b := by
  cases h with
  | cons h g =>
    cases g
    exact ⟨_, rfl, h⟩
theorem paired2 {α β : Type} {P : α → β → Prop} {xs : List α} {b c : β} (h : Paired P xs [b, c]) : ∃ a a', xs = [a, a'] ∧ P a b ∧ P a' c := by
  cases h with
  | cons h g =>
    obtain ⟨a', rfl, h2⟩ := paired1 g
    exact ⟨_, a', rfl, h, h2⟩
theorem RepV.tmp0 {F : Fr} {Hs : Hp} {σ : L2.St} {ρ ρ' : DEnv} {H : Hp} {v : V} {dv : DV} (E : Env F σ ρ H) (h : RepV F Hs σ ρ H v dv) (s : Stp (OwnA σ ρ) H (OwnA σ ρ') H) {k : Nat → Bool → List D → Prop} (e : onList dv ρ' k) : RepV F Hs σ ρ' H v dv := by
  cases dv with
  | al i => exact h
  | _ => exact e.elim
instance : DM K rAppend dAppend where
  ok := fun {F Hs σ H ρ x ys dx dys R Q} hK E hx hy h q => by
    subst hK
    unfold dAppend at h
    split at h
    · rename_i y
      obtain ⟨u, rfl, hu, _⟩ := paired1 hy
      split at h
      · rename_i r d ρ1 e
        obtain ⟨E1, s1, p1⟩ := hu.st E e
        obtain ⟨i, r0, ds, a, vs, ⟨hl, hR⟩, hi, rfl, hs, ha, hv⟩ := onList_at E1 (hx.tmp0 E s1 h) h
        obtain ⟨E2, s2⟩ := E1.put (r' := r0 && r) (d' := .lst (ds ++ [d])) (o := .lst (vs ++ [u])) hi hs (fun z => by cases z) ⟨_, rfl, RepL.both hv (.one p1)⟩
        exact ⟨a, vs, u, rfl, rfl, ha, by rw [hv.len]; exact hl, q _ _ _ _ hR E2 (s1.trans s2) .non⟩
      · exact h.elim
    · exact h.elim
def dExtend : DMW := fun x ys ρ R => match ys with
  | [y] => match rd ρ y with
    | some (r, .lst es) => onList x ρ fun i r0 ds => ds.length + es.length ≤ sizeLine ∧ R (.v true .non) (ρ.set i (some (.ow (r0 && reg (r, .lst es)) (.lst (ds ++ es)))))
    | _ => False
  | _ => False
instance : DM K rExtend dExtend where
  ok := fun {F Hs σ H ρ x ys dx dys R Q} hK E hx hy h q => by
    subst hK
    unfold dExtend at h
    split at h
    · rename_i y
      obtain ⟨u, rfl, hu, _⟩ := paired1 hy
      split at h
      · rename_i r es e
        obtain ⟨b, ws, rfl, g1, g2⟩ := (hu.top E e).lst (p := (r, .lst es)) rfl
        obtain ⟨i, r0, ds, a, vs, ⟨hl, hR⟩, hi, rfl, hs, ha, hv⟩ := onList_at E hx h
        obtain ⟨E2, s2⟩ := E.put (r' := r0 && reg (r, .lst es)) (d' := .lst (ds ++ es)) (o := .lst (vs ++ ws)) hi hs (fun z => by cases z) ⟨_, rfl, RepL.both hv g2⟩
        exact ⟨a, b, vs, ws, rfl, rfl, ha, g1, by rw [hv.len, g2.len]; exact hl, q _ _ _ _ hR E2 s2 .non⟩
      · exact h.elim
    · exact h.elim
def rInsG : V → List V → Hp → VK → Prop := fun x vs H Q => ∃ (l : Addr) (xs : List V) (i : Int) (y : V), x = .ref l ∧ vs = [.int i, y] ∧ H l = some (.lst xs) ∧ xs.length < sizeLine ∧ 0 ≤ i ∧ i < 2 ^ 63 ∧
    Q .non (upd H l (.lst (xs.take i.toNat ++ [y] ++ xs.drop i.toNat)))
theorem gInsert {X : Cx} : MtR X "list.insert" rInsG := mt_insert
def dInsert : DMW := fun x ys ρ R => match ys with
  | [n, y] => match rd ρ n with
    | some (_, .int j) => match st ρ y with
      | some (r, d, ρ1) => onList x ρ1 fun i r0 ds => ds.length < sizeLine ∧ 0 ≤ j ∧ j < 2 ^ 63 ∧ R (.v true .non) (ρ1.set i (some (.ow (r0 && r) (.lst (ds.take j.toNat ++ [d] ++ ds.drop j.toNat)))))
      | none => False
    | _ => False
  | _ => False
instance : DM K rInsG dInsert where
  ok := fun {F Hs σ H ρ x ys dx dys R Q} hK E hx hy h q => by
    subst hK
    unfold dInsert at h
    split at h
    · rename_i n y
      obtain ⟨w, u, rfl, ⟨hw, _⟩, ⟨hu, _⟩⟩ := paired2 hy
      split at h
      · rename_i rn j en
        cases (show w = .int j from hw.top E en)
        split at h
        · rename_i r d ρ1 e
          obtain ⟨E1, s1, p1⟩ := hu.st E e
          obtain ⟨i, r0, ds, a, vs, ⟨hl, j0, j1, hR⟩, hi, rfl, hs, ha, hv⟩ := onList_at E1 (hx.tmp0 E s1 h) h
          have hv1 : RepL F.K (F.RH (OwnA σ ρ1) H (r0 && r)) vs ds := hv.weak fun z => by rw [Bool.and_eq_true] at z; exact z.1
          have hp1 : Rep F.K (F.RH (OwnA σ ρ1) H (r0 && r)) u d := p1.weak fun z => by rw [Bool.and_eq_true] at z; exact z.2
          obtain ⟨E2, s2⟩ := E1.put (r' := r0 && r) (d' := .lst (ds.take j.toNat ++ [d] ++ ds.drop j.toNat)) (o := .lst (vs.take j.toNat ++ [u] ++ vs.drop j.toNat)) hi hs (fun z => by cases z) ⟨_, rfl, ((hv1.take _).app (.one hp1)).app (hv1.drop _)⟩
          exact ⟨a, vs, j, u, rfl, rfl, ha, by rw [hv.len]; exact hl, j0, j1, q _ _ _ _ hR E2 (s1.trans s2) .non⟩
        · exact h.elim
      · exact h.elim
    · exact h.elim
def dPop : DMW := fun x ys ρ R => match ys with
  | [] => onList x ρ fun i r ds => match ds[ds.length - 1]? with
    | some d => R (.v r d) (ρ.set i (some (.ow r (.lst ds.dropLast))))
    | none => False
  | _ => False
theorem RepL.dropLast {K : PySem.W.Frag} {H : Hp} {vs : List V} {ds : List D} (h : RepL K H vs ds) : RepL K H vs.dropLast ds.dropLast := by
  rw [List.dropLast_eq_take, List.dropLast_eq_take, h.len]
  exact h.take _
instance : DM K rPop dPop where
  ok := fun {F Hs σ H ρ x ys dx dys R Q} hK E hx hy h q => by
    subst hK
    unfold dPop at h
    split at h
    · cases hy
      obtain ⟨i, r0, ds, a, vs, h, hi, rfl, hs, ha, hv⟩ := onList_at E hx h
      split at h
      · rename_i d hd
        obtain ⟨u, hu, pu⟩ := hv.get hd
        obtain ⟨E2, s2⟩ := E.put (r' := r0) (d' := .lst ds.dropLast) (o := .lst vs.dropLast) hi hs (fun z => by cases z) ⟨_, rfl, hv.dropLast⟩
        exact ⟨a, vs, u, rfl, rfl, ha, by rw [hv.len]; exact hu, q _ _ _ _ h E2 s2 (pu.mono (E.rh s2))⟩
      · exact h.elim
    · exact h.elim
def dPopAt : DMW := fun x ys ρ R => match ys with
  | [n] => match rd ρ n with
    | some (_, .int j) => onList x ρ fun i r ds => -(2 ^ 63) ≤ j ∧ j < 2 ^ 63 ∧ match seqIndex? j ds.length with
      | some k => match ds[k]? with
        | some d => R (.v r d) (ρ.set i (some (.ow r (.lst (ds.eraseIdx k)))))
        | none => False
      | none => False
    | _ => False
  | _ => False
instance : DM K rPopAt dPopAt where
  ok := fun {F Hs σ H ρ x ys dx dys R Q} hK E hx hy h q => by
    subst hK
    unfold dPopAt at h
    split at h
    · rename_i n
      obtain ⟨w, rfl, hw, _⟩ := paired1 hy
      split at h
      · rename_i rn j en
        cases (show w = .int j from hw.top E en)
        obtain ⟨i, r0, ds, a, vs, ⟨j0, j1, h⟩, hi, rfl, hs, ha, hv⟩ := onList_at E hx h
        split at h
        · rename_i k hk
          split at h
          · rename_i d hd
            obtain ⟨u, hu, pu⟩ := hv.get hd
            obtain ⟨E2, s2⟩ := E.put (r' := r0) (d' := .lst (ds.eraseIdx k)) (o := .lst (vs.eraseIdx k)) hi hs (fun z => by cases z) ⟨_, rfl, hv.erase k⟩
            exact ⟨a, vs, j, k, u, rfl, rfl, ha, j0, j1, by rw [hv.len]; exact hk, hu, q _ _ _ _ h E2 s2 (pu.mono (E.rh s2))⟩
          · exact h.elim
        · exact h.elim
      · exact h.elim
    · exact h.elim
def dClear : DMW := fun x ys ρ R => match ys with
  | [] => onList x ρ fun i r ds => R (.v true .non) (ρ.set i (some (.ow true (.lst []))))
  | _ => False
def dReverse : DMW := fun x ys ρ R => match ys with
  | [] => onList x ρ fun i r ds => R (.v true .non) (ρ.set i (some (.ow r (.lst ds.reverse))))
  | _ => False
instance : DM K rClear dClear where
  ok := fun {F Hs σ H ρ x ys dx dys R Q} hK E hx hy h q => by
    subst hK
    unfold dClear at h
    split at h
    · cases hy
      obtain ⟨i, r0, ds, a, vs, h, hi, rfl, hs, ha, hv⟩ := onList_at E hx h
      obtain ⟨E2, s2⟩ := E.put (r' := true) (d' := .lst []) (o := .lst []) hi hs (fun z => by cases z) ⟨_, rfl, .nil⟩
      exact ⟨a, vs, rfl, rfl, ha, q _ _ _ _ h E2 s2 .non⟩
    · exact h.elim
instance : DM K rReverse dReverse where
  ok := fun {F Hs σ H ρ x ys dx dys R Q} hK E hx hy h q => by
    subst hK
    unfold dReverse at h
    split at h
    · cases hy
      obtain ⟨i, r0, ds, a, vs, h, hi, rfl, hs, ha, hv⟩ := onList_at E hx h
      obtain ⟨E2, s2⟩ := E.put (r' := r0) (d' := .lst ds.reverse) (o := .lst vs.reverse) hi hs (fun z => by cases z) ⟨_, rfl, hv.rev⟩
      exact ⟨a, vs, rfl, rfl, ha, q _ _ _ _ h E2 s2 .non⟩
    · exact h.elim
/-- xs.index(y): the first place -/
def dIndex : DMW := fun x ys ρ R => match ys with
  | [y] => match rd ρ x, rd ρ y with
    | some (_, .lst ds), some (_, d) => ds.all D.flat = true ∧ d.flat = true ∧ ∃ (j : Nat) (z : D), ds[j]? = some z ∧ eqV (toV z) (toV d) = true ∧ (∀ (m : Nat) (z' : D), m < j → ds[m]? = some z' → eqV (toV z') (toV d) = false) ∧ R (.v true (.int (j : Nat))) ρ
    | _, _ => False
  | _ => False
instance : DM K (rIndex K) dIndex where
  ok := fun {F Hs σ H ρ x ys dx dys R Q} hK E hx hy h q => by
    subst hK
    unfold dIndex at h
    split at h
    · rename_i y
      obtain ⟨u, rfl, hu, _⟩ := paired1 hy
      split at h
      · rename_i r ds r' d e e'
        obtain ⟨f1, f2, j, z, h1, h2, h3, hR⟩ := h
        obtain ⟨a, vs, rfl, g1, g2⟩ := hx.top E e
        rw [flat_all g2 f1] at g1
        rw [flat_v (hu.top E e') f2]
        refine ⟨a, _, _, j, toV z, rfl, rfl, SqL.of g1, flat_toV f2, flat_toVs f1, by rw [List.getElem?_map, h1]; rfl, h2, fun m z' hm hz => ?_, q _ ρ _ H hR E (.refl _ _) (.int _)⟩
        rw [List.getElem?_map] at hz
        cases e9 : ds[m]? with
        | none =>
          rw [e9] at hz
          cases hz
        | some z9 =>
          rw [e9] at hz
          cases hz
          exact h3 m z9 hm e9
      · exact h.elim
    · exact h.elim
end
/-! ### dicts -/
def valD {κ : Type} [DecidableEq κ] (es : List (κ × D)) (k : κ) : Option D := (es.find? fun kv => decide (kv.1 = k)).map (·.2)
def putD {κ : Type} [DecidableEq κ] (es : List (κ × D)) (k : κ) (d : D) : List (κ × D) :=
  if (es.any fun kv => decide (kv.1 = k)) = true then es.map (fun kv => if kv.1 = k then (kv.1, d) else kv) else es ++ [(k, d)]
@[irreducible] def valC {κ : Type} [DecidableEq κ] (es : List (κ × D)) (k : κ) : Option D := valD es k
theorem valC_eq {κ : Type} [DecidableEq κ] (es : List (κ × D)) (k : κ) : valC es k = valD es k := by unfold valC; rfl
@[irreducible] def putC {κ : Type} [DecidableEq κ] (es : List (κ × D)) (k : κ) (d : D) : List (κ × D) := putD es k d
theorem putC_eq {κ : Type} [DecidableEq κ] (es : List (κ × D)) (k : κ) (d : D) : putC es k d = putD es k d := by unfold putC; rfl
def dropD {κ : Type} [DecidableEq κ] (es : List (κ × D)) (k : κ) : List (κ × D) := es.filter fun kv => decide (kv.1 ≠ k)
/-- entries stand for entries -/
def KRep {κ : Type} (K : PySem.W.Frag) (H : Hp) (kvs : List (κ × V)) (es : List (κ × D)) : Prop := kvs.map (·.1) = es.map (·.1) ∧ RepL K H (kvs.map (·.2)) (es.map (·.2))
section
variable {κ : Type} {K : PySem.W.Frag} {H : Hp}
theorem KRep.nil : KRep K H ([] : List (κ × V)) [] := ⟨rfl, .nil⟩
theorem KRep.cons {k : κ} {v : V} {d : D} {kvs : List (κ × V)} {es : List (κ × D)} (h : Rep K H v d) (g : KRep K H kvs es) : KRep K H ((k, v) :: kvs) ((k, d) :: es) :=
  ⟨by rw [List.map_cons, List.map_cons, g.1], .cons h g.2⟩
theorem KRep.app {kvs kvs' : List (κ × V)} {es es' : List (κ × D)} (h : KRep K H kvs es) (g : KRep K H kvs' es') : KRep K H (kvs ++ kvs') (es ++ es') :=
  ⟨by rw [List.map_append, List.map_append, h.1, g.1], by rw [List.map_append, List.map_append]; exact h.2.app g.2⟩
theorem KRep.inv {kv : κ × V} {kvs : List (κ × V)} {e : κ × D} {es : List (κ × D)} (h : KRep K H (kv :: kvs) (e :: es)) : kv.1 = e.1 ∧ Rep K H kv.2 e.2 ∧ KRep K H kvs es := by
  obtain ⟨h1, h2⟩ := h
  simp only [List.map_cons, List.cons.injEq] at h1 h2
  cases h2 with
  | cons h2 h3 => exact ⟨h1.1, h2, h1.2, h3⟩
theorem KRep.ind {P : List (κ × V) → List (κ × D) → Prop} (h0 : P [] []) (hc : ∀ k v d kvs es, Rep K H v d → KRep K H kvs es → P kvs es → P ((k, v) :: kvs) ((k, d) :: es)) : ∀ {kvs : List (κ × V)} {es : List (κ × D)}, KRep K H kvs es → P kvs es
  | [], [], _ => h0
  | [], _ :: _, h => by cases h.1
  | _ :: _, [], h => by cases h.1
  | (k, v) :: kvs, (k', d) :: es, h => by
    obtain ⟨h1, h2, h3⟩ := h.inv
    have h1 : k = k' := h1
    subst h1
    exact hc k v d kvs es h2 h3 (KRep.ind h0 hc h3)
theorem KRep.len {kvs : List (κ × V)} {es : List (κ × D)} (h : KRep K H kvs es) : kvs.length = es.length := by
  have := congrArg List.length h.1
  rw [List.length_map, List.length_map] at this
  exact this
theorem KRep.mono {H' : Hp} {kvs : List (κ × V)} {es : List (κ × D)} (h : KRep K H kvs es) (e : Same H H') : KRep K H' kvs es := ⟨h.1, h.2.mono e⟩
variable [DecidableEq κ]
theorem KRep.val {kvs : List (κ × V)} {es : List (κ × D)} (h : KRep K H kvs es) (k : κ) : (valD es k = none → valV kvs k = none) ∧ ∀ d, valD es k = some d → ∃ v, valV kvs k = some v ∧ Rep K H v d := by
  refine h.ind (P := fun kvs es => (valD es k = none → valV kvs k = none) ∧ ∀ d, valD es k = some d → ∃ v, valV kvs k = some v ∧ Rep K H v d) ⟨fun _ => rfl, fun d z => by cases z⟩ fun k' v d kvs es hv _ ih => ?_
  by_cases e : k' = k
  · subst e
    refine ⟨fun z => ?_, fun d' z => ?_⟩
    · simp [valD] at z
    · simp [valD] at z
      subst z
      exact ⟨v, valV_pos (p := (k', v)) rfl, hv⟩
  · have e1 : valD ((k', d) :: es) k = valD es k := by simp [valD, List.find?_cons, e]
    rw [e1, valV_neg (p := (k', v)) e]
    exact ih
theorem KRep.any {kvs : List (κ × V)} {es : List (κ × D)} (h : KRep K H kvs es) (k : κ) : (kvs.any fun kv => decide (kv.1 = k)) = es.any fun kv => decide (kv.1 = k) := by
  refine h.ind (P := fun kvs es => (kvs.any fun kv => decide (kv.1 = k)) = es.any fun kv => decide (kv.1 = k)) rfl fun k' v d kvs es _ _ ih => ?_
  rw [List.any_cons, List.any_cons, ih]
theorem KRep.put {kvs : List (κ × V)} {es : List (κ × D)} {v : V} {d : D} (h : KRep K H kvs es) (k : κ) (hv : Rep K H v d) : KRep K H (putK kvs k v) (putD es k d) := by
  unfold putK putD
  rw [h.any k]
  split
  · refine h.ind (P := fun kvs es => KRep K H (kvs.map fun kv => if kv.1 = k then (kv.1, v) else kv) (es.map fun kv => if kv.1 = k then (kv.1, d) else kv)) .nil fun k' v' d' kvs es hv' _ ih => ?_
    rw [List.map_cons, List.map_cons]
    by_cases e : k' = k
    · rw [if_pos e, if_pos e]
      exact .cons hv ih
    · rw [if_neg e, if_neg e]
      exact .cons hv' ih
  · exact h.app (.cons hv .nil)
theorem KRep.drop {kvs : List (κ × V)} {es : List (κ × D)} (h : KRep K H kvs es) (k : κ) : KRep K H (dropK kvs k) (dropD es k) := by
  unfold dropK dropD
  refine h.ind (P := fun kvs es => KRep K H (kvs.filter fun kv => decide (kv.1 ≠ k)) (es.filter fun kv => decide (kv.1 ≠ k))) .nil fun k' v' d' kvs es hv' _ ih => ?_
  by_cases e : k' = k
  · rw [List.filter_cons_of_neg (by simp [e]), List.filter_cons_of_neg (by simp [e])]
    exact ih
  · rw [List.filter_cons_of_pos (by simp [e]), List.filter_cons_of_pos (by simp [e])]
    exact .cons hv' ih
end
def keyOf : D → Option Key
  | .int i => some (.inl i)
  | .str s => some (.inr s)
  | _ => none
def keysOf : List D → Option (List Key)
  | [] => some []
  | d :: ds => match keyOf d, keysOf ds with
    | some k, some ks => some (k :: ks)
    | _, _ => none
theorem keyOf_v {K : PySem.W.Frag} {H Hr : Hp} {v : V} {d : D} {k : Key} (h : TopD K H Hr v d) (e : keyOf d = some k) : v = kV k := by
  cases d with
  | int i => cases e; exact h
  | str s => cases e; exact h
  | _ => cases e
theorem keysOf_v {K : PySem.W.Frag} {H : Hp} : ∀ {vs : List V} {ds : List D} {ks : List Key}, RepL K H vs ds → keysOf ds = some ks → vs = ks.map kV
  | _, _, _, .nil, e => by cases e; rfl
  | _, _, _, .cons (d := d) h g, e => by
    simp only [keysOf] at e
    split at e
    · rename_i k ks e1 e2
      cases e
      rw [List.map_cons, ← keysOf_v g e2, keyOf_v (h.top fun _ _ z => z) e1]
    · cases e
/-- d[y] as data -/
def getD (p q : Bool × D) : Option (Option D) := match p.2, q.2 with
  | .dK es, y => match keyOf y with
    | some k => some (valC es k)
    | none => none
  | .dT es, .tup ys => match keysOf ys with
    | some ks => some (valC es ks)
    | none => none
  | _, _ => none
def GotD (K : PySem.W.Frag) (H Hr : Hp) (a : Addr) (y : V) : Option D → Prop
  | some d => ∃ v, DGet H a y (some v) ∧ Rep K Hr v d
  | none => DGet H a y none
theorem getD_at {F : Fr} {O : Addr → Prop} {H : Hp} {p q : Bool × D} {x y : V} {o : Option D} (hx : TopD F.K H (F.RH O H p.1) x p.2) (hy : TopD F.K H (F.RH O H q.1) y q.2) (e : getD p q = some o) :
    ∃ a, x = .ref a ∧ IsD H a ∧ GotD F.K H (F.RH O H p.1) a y o := by
  unfold getD at e
  split at e
  · rename_i y' es hp
    rw [hp] at hx
    obtain ⟨a, kvs, rfl, h1, h2, h3⟩ := hx
    split at e
    · rename_i k hk
      cases e
      have ey := keyOf_v hy hk
      subst ey
      refine ⟨a, rfl, .inl ⟨kvs, h1⟩, ?_⟩
      obtain ⟨g1, g2⟩ := KRep.val (K := F.K) (H := F.RH O H p.1) ⟨h2, h3⟩ k
      rw [valC_eq]
      cases e9 : valD es k with
      | none => exact .inl ⟨kvs, k, h1, rfl, (g1 e9).symm⟩
      | some d =>
        obtain ⟨v, g3, g4⟩ := g2 d e9
        exact ⟨v, .inl ⟨kvs, k, h1, rfl, g3.symm⟩, g4⟩
    · cases e
  · rename_i es ys hp hq
    rw [hp] at hx
    rw [hq] at hy
    obtain ⟨a, kvs, rfl, h1, h2, h3⟩ := hx
    obtain ⟨b, ws, rfl, h4, h5⟩ := hy
    split at e
    · rename_i k hk
      cases e
      have ey := keysOf_v h5 hk
      subst ey
      refine ⟨a, rfl, .inr ⟨kvs, h1⟩, ?_⟩
      obtain ⟨g1, g2⟩ := KRep.val (K := F.K) (H := F.RH O H p.1) ⟨h2, h3⟩ k
      rw [valC_eq]
      cases e9 : valD es k with
      | none => exact .inr ⟨kvs, k, b, h1, rfl, h4, (g1 e9).symm⟩
      | some d =>
        obtain ⟨v, g3, g4⟩ := g2 d e9
        exact ⟨v, .inr ⟨kvs, k, b, h1, rfl, h4, g3.symm⟩, g4⟩
    · cases e
  · cases e
section
variable {K : PySem.W.Frag} {W : WXT}
/-- two things, then what is asked of them -/
def dTwo (wa wb : DW) (k : Bool × D → Bool × D → DEnv → Prop) : XC → DEnv → Prop := fun X ρ => wa X ρ fun x ρ1 => wb X ρ1 fun y ρ2 => match rd ρ2 x, rd ρ2 y with
  | some p, some q => k p q ρ2
  | _, _ => False
theorem dTwo_ok {ta tb : TE} {wa wb : DW} [A : DE K W ta wa] [B : DE K W tb wb] {F : Fr} {σ : L2.St} {H : Hp} {ρ : DEnv} {X : XC} {k : Bool × D → Bool × D → DEnv → Prop} {Q : V → V → Hp → Prop} (hK : F.K = K) (E : Env F σ ρ H) (L : XLink F W X σ ρ H) (h : dTwo wa wb k X ρ)
    (q : ∀ p r ρ' x y H', k p r ρ' → Env F σ ρ' H' → Stp (OwnA σ ρ) H (OwnA σ ρ') H' → TopD F.K H' (F.RH (OwnA σ ρ') H' p.1) x p.2 → TopD F.K H' (F.RH (OwnA σ ρ') H' r.1) y r.2 → Q x y H') :
    ta σ H fun x H1 => tb σ H1 fun y H2 => Q x y H2 := by
  refine A.ok hK E L h fun x ρ1 v H1 h1 E1 s1 r1 => ?_
  refine B.ok hK E1 (L.stp s1) h1 fun y ρ2 u H2 h2 E2 s2 r2 => ?_
  have r1' : RepV F H σ ρ2 H2 v x.tmp := r1.stp E1 s2
  split at h2
  · rename_i p q' hp hq
    exact q p q' ρ2 v u H2 h2 E2 (s1.trans s2) (r1'.top E2 (by rw [rd_tmp]; exact hp)) (r2.top E2 hq)
  · exact h2.elim
def dDGet (wd wy : DW) : DW := fun X ρ R => dTwo wd wy (fun p q ρ2 => match getD p q with
  | some (some d) => R (.v p.1 d) ρ2
  | _ => False) X ρ
instance {td ty : TE} {wd wy : DW} [A : DE K W td wd] [B : DE K W ty wy] : DE K W (tDGet td ty) (dDGet wd wy) where
  ok := fun {F σ H ρ X R Q} hK E L h q => by
    refine dTwo_ok hK E L h (Q := fun x y H2 => ∃ a v, x = .ref a ∧ DGet H2 a y (some v) ∧ Q v H2) fun p r ρ' x y H' h1 E1 s1 hx hy => ?_
    split at h1
    · rename_i d e
      obtain ⟨a, rfl, _, v, g1, g2⟩ := getD_at hx hy e
      exact ⟨a, v, rfl, g1, q _ ρ' v H' h1 E1 s1 g2⟩
    · exact h1.elim
def dDIn (neg : Bool) (wy wd : DW) : DW := fun X ρ R => dTwo wy wd (fun q p ρ2 => match getD p q with
  | some o => R (.v true (.bl (if neg then !o.isSome else o.isSome))) ρ2
  | none => False) X ρ
theorem getD_in {F : Fr} {O : Addr → Prop} {H : Hp} {p q : Bool × D} {x y : V} {o : Option D} (hx : TopD F.K H (F.RH O H p.1) x p.2) (hy : TopD F.K H (F.RH O H q.1) y q.2) (e : getD p q = some o) :
    ∃ a u, x = .ref a ∧ IsD H a ∧ DGet H a y u ∧ u.isSome = o.isSome := by
  obtain ⟨a, rfl, hd, g⟩ := getD_at hx hy e
  cases o with
  | none => exact ⟨a, none, rfl, hd, g, rfl⟩
  | some d =>
    obtain ⟨v, g, _⟩ := g
    exact ⟨a, some v, rfl, hd, g, rfl⟩
instance {td ty : TE} {wd wy : DW} [A : DE K W td wd] [B : DE K W ty wy] : DE K W (tDIn ty td) (dDIn false wy wd) where
  ok := fun {F σ H ρ X R Q} hK E L h q => by
    refine dTwo_ok hK E L h (Q := fun y x H2 => ∃ a o, x = .ref a ∧ DGet H2 a y o ∧ Q (.bl o.isSome) H2) fun p r ρ' x y H' h1 E1 s1 hx hy => ?_
    split at h1
    · rename_i o e
      obtain ⟨a, u, rfl, _, g1, g2⟩ := getD_in hy hx e
      exact ⟨a, u, rfl, g1, by rw [g2]; exact q _ ρ' _ H' h1 E1 s1 (.bl _)⟩
    · exact h1.elim
instance {td ty : TE} {wd wy : DW} [A : DE K W td wd] [B : DE K W ty wy] : DE K W (tDNotIn ty td) (dDIn true wy wd) where
  ok := fun {F σ H ρ X R Q} hK E L h q => by
    refine dTwo_ok hK E L h (Q := fun y x H2 => ∃ a o, x = .ref a ∧ DGet H2 a y o ∧ Q (.bl (!o.isSome)) H2) fun p r ρ' x y H' h1 E1 s1 hx hy => ?_
    split at h1
    · rename_i o e
      obtain ⟨a, u, rfl, _, g1, g2⟩ := getD_in hy hx e
      exact ⟨a, u, rfl, g1, by rw [g2]; exact q _ ρ' _ H' h1 E1 s1 (.bl _)⟩
    · exact h1.elim
def isDict : Option (Bool × D) → Prop
  | some (_, .dK _) => True
  | some (_, .dT _) => True
  | _ => False
def dDGet1 (wd wy : DW) : DW := fun X ρ R => wd X ρ fun x ρ1 => isDict (rd ρ1 x) ∧ wy X ρ1 fun y ρ2 => match rd ρ2 x, rd ρ2 y with
  | some p, some q => match getD p q with
    | some (some d) => R (.v p.1 d) ρ2
    | some none => R (.v true .non) ρ2
    | none => False
  | _, _ => False
theorem isDict_v {F : Fr} {Hs : Hp} {σ : L2.St} {ρ : DEnv} {H : Hp} {v : V} {dv : DV} (E : Env F σ ρ H) (h : RepV F Hs σ ρ H v dv) (e : isDict (rd ρ dv)) : ∃ a, v = .ref a ∧ IsD H a := by
  unfold isDict at e
  split at e
  · rename_i r ds q
    obtain ⟨a, vs, rfl, h1, _⟩ := h.top E q
    exact ⟨a, rfl, .inl ⟨vs, h1⟩⟩
  · rename_i r ds q
    obtain ⟨a, vs, rfl, h1, _⟩ := h.top E q
    exact ⟨a, rfl, .inr ⟨vs, h1⟩⟩
  · exact e.elim
instance {td ty : TE} {wd wy : DW} [A : DE K W td wd] [B : DE K W ty wy] : DE K W (tDGet1 td ty) (dDGet1 wd wy) where
  ok := fun {F σ H ρ X R Q} hK E L h q => by
    refine A.ok hK E L h fun x ρ1 v H1 h1 E1 s1 r1 => ?_
    obtain ⟨hd, h1⟩ := h1
    obtain ⟨a, rfl, hd⟩ := isDict_v E1 r1 hd
    refine ⟨a, rfl, hd, B.ok hK E1 (L.stp s1) h1 fun y ρ2 u H2 h2 E2 s2 r2 => ?_⟩
    have r1' : RepV F H σ ρ2 H2 (.ref a) x.tmp := r1.stp E1 s2
    split at h2
    · rename_i p q' hp hq
      have hx := r1'.top E2 (by rw [rd_tmp]; exact hp)
      have hy := r2.top E2 hq
      split at h2
      · rename_i d e
        obtain ⟨b, eb, _, z, g1, g2⟩ := getD_at hx hy e
        cases eb
        exact ⟨some z, g1, q _ ρ2 z H2 h2 E2 (s1.trans s2) g2⟩
      · rename_i e
        obtain ⟨b, eb, _, g1⟩ := getD_at hx hy e
        cases eb
        exact ⟨none, g1, q _ ρ2 _ H2 h2 E2 (s1.trans s2) .non⟩
      · exact h2.elim
    · exact h2.elim
def dDGet2 (wd wy wz : DW) : DW := fun X ρ R => wd X ρ fun x ρ1 => isDict (rd ρ1 x) ∧ wy X ρ1 fun y ρ2 => wz X ρ2 fun z ρ3 => match rd ρ3 x, rd ρ3 y with
  | some p, some q => match getD p q with
    | some (some d) => R (.v p.1 d) ρ3
    | some none => R z.tmp ρ3
    | none => False
  | _, _ => False
instance {td ty tz : TE} {wd wy wz : DW} [A : DE K W td wd] [B : DE K W ty wy] [C : DE K W tz wz] : DE K W (tDGet2 td ty tz) (dDGet2 wd wy wz) where
  ok := fun {F σ H ρ X R Q} hK E L h q => by
    refine A.ok hK E L h fun x ρ1 v H1 h1 E1 s1 r1 => ?_
    obtain ⟨hd, h1⟩ := h1
    obtain ⟨a, rfl, hd⟩ := isDict_v E1 r1 hd
    refine ⟨a, rfl, hd, B.ok hK E1 (L.stp s1) h1 fun y ρ2 u H2 h2 E2 s2 r2 => C.ok hK E2 (L.stp (s1.trans s2)) h2 fun z ρ3 w H3 h3 E3 s3 r3 => ?_⟩
    have r1' : RepV F H σ ρ3 H3 (.ref a) x.tmp := r1.stp E1 (s2.trans s3)
    have r2' : RepV F H σ ρ3 H3 u y.tmp := r2.stp E2 s3
    split at h3
    · rename_i p q' hp hq
      have hx := r1'.top E3 (by rw [rd_tmp]; exact hp)
      have hy := r2'.top E3 (by rw [rd_tmp]; exact hq)
      split at h3
      · rename_i d e
        obtain ⟨b, eb, _, z', g1, g2⟩ := getD_at hx hy e
        cases eb
        exact ⟨some z', g1, q _ ρ3 z' H3 h3 E3 ((s1.trans s2).trans s3) g2⟩
      · rename_i e
        obtain ⟨b, eb, _, g1⟩ := getD_at hx hy e
        cases eb
        exact ⟨none, g1, q _ ρ3 _ H3 h3 E3 ((s1.trans s2).trans s3) (r3.stp E3 (.refl _ _))⟩
      · exact h3.elim
    · exact h3.elim
def dDNew : DW := fun _ ρ R => R (.fr true (.dK [])) ρ
def dDNewT : DW := fun _ ρ R => R (.fr true (.dT [])) ρ
instance : DE K W tDNewK dDNew where
  ok := fun {F σ H ρ X R Q} hK E L h q => fun a ha =>
    q _ ρ _ _ h (E.grow (same_new ha)) (.same (same_new ha)) (fresh_of E ha rfl ⟨_, rfl, rfl, .nil⟩)
instance : DE K W tDNewT dDNewT where
  ok := fun {F σ H ρ X R Q} hK E L h q => fun a ha =>
    q _ ρ _ _ h (E.grow (same_new ha)) (.same (same_new ha)) (fresh_of E ha rfl ⟨_, rfl, rfl, .nil⟩)
end
end PW

namespace PW
open PySem PySem.Spec PyProof.Rows L2
/-! ### targets -/
def noPotB (ρ : DEnv) (i : Nat) : Bool := match i, ρ[i]? with
  | 0, some (some (.ow _ d)) => !d.isPot
  | _, _ => true
theorem noPot_of {ρ : DEnv} {i : Nat} (h : noPotB ρ i = true) : noPot ρ i := fun r d z e => by
  subst z
  unfold noPotB at h
  rw [e] at h
  simpa using h
class DG (K : PySem.W.Frag) (g : TG) (w : outParam DGW) (sl : outParam (List Nat)) : Prop where
  ok : ∀ {F : Fr} {σ : L2.St} {H : Hp} {ρ : DEnv} {v : V} {p : Bool × D} {R : DEnv → Prop} {Q : L2.St → Hp → Prop}, F.K = K → Env F σ ρ H → Rep F.K (F.RH (OwnA σ ρ) H p.1) v p.2 → w p ρ R →
    (∀ ρ' σ', R ρ' → Env F σ' ρ' H → Stp (OwnA σ ρ) H (OwnA σ' ρ') H → (∀ j, j ∉ sl → σ'[j]? = σ[j]?) → σ'.length = σ.length → Q σ' H) → g v σ H Q
abbrev DGsW := List (Bool × D) → DEnv → (DEnv → Prop) → Prop
class DGs (K : PySem.W.Frag) (g : TGs) (w : outParam DGsW) (sl : outParam (List Nat)) : Prop where
  ok : ∀ {F : Fr} {σ : L2.St} {H : Hp} {ρ : DEnv} {vs : List V} {r : Bool} {ds : List D} {R : DEnv → Prop} {Q : L2.St → Hp → Prop}, F.K = K → Env F σ ρ H → RepL F.K (F.RH (OwnA σ ρ) H r) vs ds → w (ds.map fun d => (r, d)) ρ R →
    (∀ ρ' σ', R ρ' → Env F σ' ρ' H → Stp (OwnA σ ρ) H (OwnA σ' ρ') H → (∀ j, j ∉ sl → σ'[j]? = σ[j]?) → σ'.length = σ.length → Q σ' H) → g vs σ H Q
def dgName (i : Nat) : DGW := fun p ρ R => noPotB ρ i = true ∧ R (ρ.set i (some (.sh (p.1 || p.2.imm) p.2)))
def dgNil : DGsW := fun ps ρ R => match ps with
  | [] => R ρ
  | _ => False
def dgCons (g : DGW) (gs : DGsW) : DGsW := fun ps ρ R => match ps with
  | p :: ps => g p ρ fun ρ1 => gs ps ρ1 R
  | _ => False
def dgTup (n : Nat) (gs : DGsW) : DGW := fun p ρ R => match p.2 with
  | .tup ds => ds.length = n ∧ gs (ds.map fun d => (p.1, d)) ρ R
  | _ => False
section
variable {K : PySem.W.Frag} {W : WXT}
instance {i : Nat} : DG K (gName i) (dgName i) [i] where
  ok := fun {F σ H ρ v p R Q} hK E hv h q => by
    obtain ⟨E1, s1⟩ := E.setSh (i := i) (noPot_of h.1) hv.up
    refine q _ _ h.2 E1 s1 (fun j hj => ?_) (by rw [List.length_set])
    rw [List.getElem?_set_ne fun z => hj (by rw [z]; exact List.mem_singleton.mpr rfl)]
instance : DGs K gNil dgNil [] where
  ok := fun {F σ H ρ vs r ds R Q} hK E hv h q => by
    cases hv with
    | nil => exact ⟨rfl, q _ _ h E (.refl _ _) (fun _ _ => rfl) rfl⟩
    | cons _ _ => exact h.elim
instance {g : TG} {w : DGW} {sl : List Nat} {gs : TGs} {ws : DGsW} {sls : List Nat} [A : DG K g w sl] [B : DGs K gs ws sls] : DGs K (gCons g gs) (dgCons w ws) (sl ++ sls) where
  ok := fun {F σ H ρ vs r ds R Q} hK E hv h q => by
    cases hv with
    | nil => exact h.elim
    | cons h1 h2 =>
      refine ⟨_, _, rfl, A.ok hK E h1 h fun ρ1 σ1 g1 E1 s1 n1 l1 => ?_⟩
      refine B.ok hK E1 (h2.mono (E.rh s1)) g1 fun ρ2 σ2 g2 E2 s2 n2 l2 => ?_
      refine q ρ2 σ2 g2 E2 (s1.trans s2) (fun j hj => ?_) (l2.trans l1)
      rw [n2 j fun z => hj (List.mem_append_right _ z), n1 j fun z => hj (List.mem_append_left _ z)]
instance {n : Nat} {gs : TGs} {ws : DGsW} {sls : List Nat} [B : DGs K gs ws sls] : DG K (gTup K n gs) (dgTup n ws) sls where
  ok := fun {F σ H ρ v p R Q} hK E hv h q => by
    unfold dgTup at h
    split at h
    · rename_i ds e
      obtain ⟨r, d⟩ := p
      cases e
      subst hK
      obtain ⟨a, vs, rfl, h1, h2⟩ := hv.top rh_le
      exact ⟨a, vs, rfl, SqT.of h1, by rw [h2.len]; exact h.1, B.ok rfl E h2 h.2 q⟩
    · exact h.elim
/-! ### statements -/
def dNext : DSW := fun _ E ρ => E.nx ρ
def dSeq (w u : DSW) : DSW := fun X E ρ => w X { E with nx := u X E } ρ
def dBreak : DSW := fun _ E ρ => E.bk ρ
def dCont : DSW := fun _ E ρ => E.ct ρ
def dDrop (w : DW) : DSW := fun X E ρ => w X ρ fun _ ρ1 => E.nx ρ1
def dRet (w : DW) : DSW := fun X E ρ => w X ρ fun x ρ1 => match st ρ1 x with
  | some (r, d, ρ2) => r = true ∧ E.rt d ρ2
  | none => False
def dRetN : DSW := fun _ E ρ => E.rt .non ρ
def dIfS (c : DTW) (w u : DSW) : DSW := fun X E ρ => c X ρ fun b ρ1 => ifC b (w X E ρ1) (u X E ρ1)
def dNever : DSW := fun _ _ _ => False
instance : DS K W tNext dNext where
  ok := fun {F σ H ρ X E Dn} hK En L h nx bk ct rt => nx ρ σ H h En (.refl _ _)
instance : DS K W tBreak dBreak where
  ok := fun {F σ H ρ X E Dn} hK En L h nx bk ct rt => bk ρ σ H h En (.refl _ _)
instance : DS K W tCont dCont where
  ok := fun {F σ H ρ X E Dn} hK En L h nx bk ct rt => ct ρ σ H h En (.refl _ _)
instance : DS K W tNever dNever where
  ok := fun {F σ H ρ X E Dn} hK En L h nx bk ct rt => h
instance {t u : TS} {w y : DSW} [A : DS K W t w] [B : DS K W u y] : DS K W (tSeq t u) (dSeq w y) where
  ok := fun {F σ H ρ X E Dn} hK En L h nx bk ct rt => A.ok hK En L h
    (fun ρ1 σ1 H1 h1 E1 s1 => B.ok hK E1 (L.stp s1) h1 (fun ρ2 σ2 H2 h2 E2 s2 => nx ρ2 σ2 H2 h2 E2 (s1.trans s2)) (fun ρ2 σ2 H2 h2 E2 s2 => bk ρ2 σ2 H2 h2 E2 (s1.trans s2)) (fun ρ2 σ2 H2 h2 E2 s2 => ct ρ2 σ2 H2 h2 E2 (s1.trans s2))
      fun d ρ2 σ2 v H2 h2 E2 s2 r2 => rt d ρ2 σ2 v H2 h2 E2 (s1.trans s2) r2) bk ct rt
instance {t : TE} {w : DW} [A : DE K W t w] : DS K W (tDrop t) (dDrop w) where
  ok := fun {F σ H ρ X E Dn} hK En L h nx bk ct rt => A.ok hK En L h fun x ρ1 v H1 h1 E1 s1 r1 => nx ρ1 σ H1 h1 E1 s1
instance {t : TE} {w : DW} [A : DE K W t w] : DS K W (tRet t) (dRet w) where
  ok := fun {F σ H ρ X E Dn} hK En L h nx bk ct rt => A.ok hK En L h fun x ρ1 v H1 h1 E1 s1 r1 => by
    split at h1
    · rename_i r d ρ2 e
      obtain ⟨E2, s2, p2⟩ := r1.st E1 e
      obtain ⟨rfl, h1⟩ := h1
      exact rt d ρ2 σ v H1 h1 E2 (s1.trans s2) p2
    · exact h1.elim
instance : DS K W tRetN dRetN where
  ok := fun {F σ H ρ X E Dn} hK En L h nx bk ct rt => rt .non ρ σ .non H h En (.refl _ _) .non
instance {c : TT} {wc : DTW} {t u : TS} {w y : DSW} [C : DT K W c wc] [A : DS K W t w] [B : DS K W u y] : DS K W (tIfS c t u) (dIfS wc w y) where
  ok := fun {F σ H ρ X E Dn} hK En L h nx bk ct rt => C.ok hK En L h fun b ρ1 H1 h1 E1 s1 => by
    cases b with
    | true => exact A.ok hK E1 (L.stp s1) h1.t (fun ρ2 σ2 H2 h2 E2 s2 => nx ρ2 σ2 H2 h2 E2 (s1.trans s2)) (fun ρ2 σ2 H2 h2 E2 s2 => bk ρ2 σ2 H2 h2 E2 (s1.trans s2)) (fun ρ2 σ2 H2 h2 E2 s2 => ct ρ2 σ2 H2 h2 E2 (s1.trans s2)) fun d ρ2 σ2 v H2 h2 E2 s2 r2 => rt d ρ2 σ2 v H2 h2 E2 (s1.trans s2) r2
    | false => exact B.ok hK E1 (L.stp s1) h1.f (fun ρ2 σ2 H2 h2 E2 s2 => nx ρ2 σ2 H2 h2 E2 (s1.trans s2)) (fun ρ2 σ2 H2 h2 E2 s2 => bk ρ2 σ2 H2 h2 E2 (s1.trans s2)) (fun ρ2 σ2 H2 h2 E2 s2 => ct ρ2 σ2 H2 h2 E2 (s1.trans s2)) fun d ρ2 σ2 v H2 h2 E2 s2 r2 => rt d ρ2 σ2 v H2 h2 E2 (s1.trans s2) r2
/-- x = e -/
def setD (i : Nat) (x : DV) (ρ : DEnv) (R : DEnv → Prop) : Prop := match x with
  | .fr r d => noPotB ρ i = true ∧ i < ρ.length ∧ R (ρ.set i (some (.ow r d)))
  | x => match st ρ x with
    | some (r, d, ρ1) => noPotB ρ1 i = true ∧ R (ρ1.set i (some (.sh r d)))
    | none => False
theorem setD_ok {F : Fr} {Hs : Hp} {σ : L2.St} {ρ ρ0 : DEnv} {H : Hp} {v : V} {dv : DV} {i : Nat} {R : DEnv → Prop} (E : Env F σ ρ H) (s : Stp (OwnA σ ρ0) Hs (OwnA σ ρ) H) (h : RepV F Hs σ ρ H v dv) (e : setD i dv ρ R) :
    ∃ ρ', R ρ' ∧ Env F (σ.set i (some v)) ρ' H ∧ Stp (OwnA σ ρ0) Hs (OwnA (σ.set i (some v)) ρ') H := by
  cases dv with
  | fr r d =>
    obtain ⟨e1, e2, e3⟩ := e
    obtain ⟨a, rfl, h1, h2, h3, h4, h5, h6⟩ := h
    obtain ⟨E1, s1⟩ := h5.setOw (i := i) (noPot_of e1) e2 h3 h2 (isWlk_of h4) h6
    exact ⟨_, e3, E1, s1 _ Hs h1 s⟩
  | v r d =>
    simp only [setD] at e
    split at e
    · rename_i r' d' ρ1 e'
      obtain ⟨E1, s1, p1⟩ := h.st E e'
      obtain ⟨E2, s2⟩ := E1.setSh (i := i) (noPot_of e.1) p1
      exact ⟨_, e.2, E2, (s.trans s1).trans s2⟩
    · exact e.elim
  | al j =>
    simp only [setD] at e
    split at e
    · rename_i r' d' ρ1 e'
      obtain ⟨E1, s1, p1⟩ := h.st E e'
      obtain ⟨E2, s2⟩ := E1.setSh (i := i) (noPot_of e.1) p1
      exact ⟨_, e.2, E2, (s.trans s1).trans s2⟩
    · exact e.elim
def dSet (i : Nat) (w : DW) : DSW := fun X E ρ => w X ρ fun x ρ1 => setD i x ρ1 E.nx
instance {i : Nat} {t : TE} {w : DW} [A : DE K W t w] : DS K W (tAsg t (gName i)) (dSet i w) where
  ok := fun {F σ H ρ X E Dn} hK En L h nx bk ct rt => A.ok hK En L h fun x ρ1 v H1 h1 E1 s1 r1 => by
    obtain ⟨ρ2, g1, g2, g3⟩ := setD_ok E1 s1 r1 h1
    exact nx ρ2 _ H1 g1 g2 g3
def dUnp (n : Nat) (gs : DGsW) (w : DW) : DSW := fun X E ρ => w X ρ fun x ρ1 => match st ρ1 x with
  | some (r, d, ρ2) => dgTup n gs (r, d) ρ2 E.nx
  | none => False
instance {n : Nat} {gs : TGs} {ws : DGsW} {sl : List Nat} {t : TE} {w : DW} [A : DE K W t w] [B : DGs K gs ws sl] : DS K W (tAsg t (gTup K n gs)) (dUnp n ws w) where
  ok := fun {F σ H ρ X E Dn} hK En L h nx bk ct rt => A.ok hK En L h fun x ρ1 v H1 h1 E1 s1 r1 => by
    split at h1
    · rename_i r d ρ2 e
      obtain ⟨E2, s2, p2⟩ := r1.st E1 e
      exact (inferInstance : DG K (gTup K n gs) (dgTup n ws) sl).ok hK E2 (p := (r, d)) p2 h1 fun ρ3 σ3 h3 E3 s3 _ _ => nx ρ3 σ3 H1 h3 E3 ((s1.trans s2).trans s3)
    · exact h1.elim
/-- o[i] = e of a list -/
def dSubL (wv wo wi : DW) : DSW := fun X E ρ => wv X ρ fun y ρ1 => wo X ρ1 fun x ρ2 => wi X ρ2 fun n ρ3 => match rd ρ3 n with
  | some (_, .int k) => match st ρ3 y.tmp with
    | some (r, d, ρ4) => onList x.tmp ρ4 fun i r0 ds => match ixN ds.length k with
      | some j => E.nx (ρ4.set i (some (.ow (r0 && r) (.lst (ds.set j d)))))
      | none => False
    | none => False
  | _ => False
instance {tv to ti : TE} {wv wo wi : DW} [A : DE K W tv wv] [B : DE K W to wo] [C : DE K W ti wi] : DS K W (tAsg tv (gSub to ti rSetL)) (dSubL wv wo wi) where
  ok := fun {F σ H ρ X E Dn} hK En L h nx bk ct rt => A.ok hK En L h fun y ρ1 u H1 h1 E1 s1 r1 => B.ok hK E1 (L.stp s1) h1 fun x ρ2 v H2 h2 E2 s2 r2 => C.ok hK E2 (L.stp (s1.trans s2)) h2 fun n ρ3 w H3 h3 E3 s3 r3 => by
    subst hK
    have r1' : RepV F H σ ρ3 H3 u y.tmp := r1.stp E1 (s2.trans s3)
    have r2' : RepV F H σ ρ3 H3 v x.tmp := r2.stp E2 s3
    split at h3
    · rename_i rn k en
      cases (show w = .int k from r3.top E3 en)
      split at h3
      · rename_i r d ρ4 e
        obtain ⟨E4, s4, p4⟩ := r1'.st E3 e
        obtain ⟨i, r0, ds, a, vs, h4, hi, rfl, hs, ha, hv⟩ := onList_at E4 (r2'.tmp0 E3 s4 h3) h3
        split at h4
        · rename_i j hj
          have hv1 : RepL F.K (F.RH (OwnA σ ρ4) H3 (r0 && r)) vs ds := hv.weak fun z => by rw [Bool.and_eq_true] at z; exact z.1
          have hp1 : Rep F.K (F.RH (OwnA σ ρ4) H3 (r0 && r)) u d := p4.weak fun z => by rw [Bool.and_eq_true] at z; exact z.2
          obtain ⟨E5, s5⟩ := E4.put (r' := r0 && r) (d' := .lst (ds.set j d)) (o := .lst (vs.set j u)) hi hs (fun z => by cases z) ⟨_, rfl, RepL.set hp1 j hv1⟩
          exact ⟨a, vs, k, j, rfl, rfl, ha, by rw [hv.len]; exact hj, nx _ σ _ h4 E5 ((((s1.trans s2).trans s3).trans s4).trans s5)⟩
        · exact h4.elim
      · exact h3.elim
    · exact h3.elim
/-- the dict of a slot's own -/
def onDict (x : DV) (ρ : DEnv) (y : D) (k : Nat → Bool → (Bool → D → Sl) → Prop) : Prop := match x with
  | .al i => match ρ[i]? with
    | some (some (.ow r (.dK es))) => match keyOf y with
      | some kk => es.length < sizeLine ∧ k i r fun r' d => .ow r' (.dK (putC es kk d))
      | none => False
    | some (some (.ow r (.dT es))) => match y with
      | .tup ys => match keysOf ys with
        | some kk => es.length < sizeLine ∧ k i r fun r' d => .ow r' (.dT (putC es kk d))
        | none => False
      | _ => False
    | _ => False
  | _ => False
theorem onDict_at {F : Fr} {Hs : Hp} {σ : L2.St} {ρ : DEnv} {H : Hp} {v vy : V} {dv : DV} {y : D} {Hr : Hp} {k : Nat → Bool → (Bool → D → Sl) → Prop} (E : Env F σ ρ H) (h : RepV F Hs σ ρ H v dv) (hy : TopD F.K H Hr vy y) (e : onDict dv ρ y k) :
    ∃ i r a f, v = .ref a ∧ k i r f ∧ ∀ r' u d, Rep F.K (F.RH (OwnA σ ρ) H r') u d → ∃ H', DPut H a vy u H' ∧ Env F σ (ρ.set i (some (f (r && r') d))) H' ∧ Stp (OwnA σ ρ) H (OwnA σ (ρ.set i (some (f (r && r') d)))) H' := by
  unfold onDict at e
  split at e
  · rename_i i
    split at e
    · rename_i r es hi
      obtain ⟨a, h1, ⟨kvs, h2, h3, h4⟩, _⟩ := E.ow i r _ hi
      rw [show σ[i]? = some (some v) from h] at h1
      cases h1
      split at e
      · rename_i kk hk
        have ey := keyOf_v hy hk
        subst ey
        refine ⟨i, r, a, _, rfl, e.2, fun r' u d hu => ?_⟩
        have kr : KRep F.K (F.RH (OwnA σ ρ) H (r && r')) kvs es := ⟨h3, h4.weak fun z => by rw [Bool.and_eq_true] at z; exact z.1⟩
        have hu1 : Rep F.K (F.RH (OwnA σ ρ) H (r && r')) u d := hu.weak fun z => by rw [Bool.and_eq_true] at z; exact z.2
        obtain ⟨E2, s2⟩ := E.put (r' := r && r') (d' := .dK (putC es kk d)) (o := .dK (putK kvs kk u)) hi h (fun z => by cases z) ⟨_, rfl, by rw [putC_eq]; exact (kr.put kk hu1).1, by rw [putC_eq]; exact (kr.put kk hu1).2⟩
        exact ⟨_, .inl ⟨kvs, kk, h2, rfl, by rw [kr.len]; exact e.1, rfl⟩, E2, s2⟩
      · exact e.elim
    · rename_i r es hi
      obtain ⟨a, h1, ⟨kvs, h2, h3, h4⟩, _⟩ := E.ow i r _ hi
      rw [show σ[i]? = some (some v) from h] at h1
      cases h1
      split at e
      · rename_i ys
        split at e
        · rename_i kk hk
          obtain ⟨b, ws, rfl, g1, g2⟩ := hy
          have ey := keysOf_v g2 hk
          subst ey
          refine ⟨i, r, a, _, rfl, e.2, fun r' u d hu => ?_⟩
          have kr : KRep F.K (F.RH (OwnA σ ρ) H (r && r')) kvs es := ⟨h3, h4.weak fun z => by rw [Bool.and_eq_true] at z; exact z.1⟩
          have hu1 : Rep F.K (F.RH (OwnA σ ρ) H (r && r')) u d := hu.weak fun z => by rw [Bool.and_eq_true] at z; exact z.2
          obtain ⟨E2, s2⟩ := E.put (r' := r && r') (d' := .dT (putC es kk d)) (o := .dT (putK kvs kk u)) hi h (fun z => by cases z) ⟨_, rfl, by rw [putC_eq]; exact (kr.put kk hu1).1, by rw [putC_eq]; exact (kr.put kk hu1).2⟩
          exact ⟨_, .inr ⟨kvs, kk, b, h2, rfl, g1, by rw [kr.len]; exact e.1, rfl⟩, E2, s2⟩
        · exact e.elim
      · exact e.elim
    · exact e.elim
  · exact e.elim
theorem onDict_al {x : DV} {ρ : DEnv} {y : D} {k : Nat → Bool → (Bool → D → Sl) → Prop} (e : onDict x ρ y k) : ∃ i, x = .al i := by
  unfold onDict at e
  split at e
  · exact ⟨_, rfl⟩
  · exact e.elim
def dDPut (wd wy wv : DW) : DSW := fun X E ρ => wv X ρ fun z ρ1 => wd X ρ1 fun x ρ2 => wy X ρ2 fun y ρ3 => match rd ρ3 y with
  | some (_, yd) => match st ρ3 z.tmp with
    | some (r, d, ρ4) => onDict x.tmp ρ4 yd fun i r0 f => E.nx (ρ4.set i (some (f (r0 && r) d)))
    | none => False
  | none => False
instance {td ty tv : TE} {wd wy wv : DW} [A : DE K W tv wv] [B : DE K W td wd] [C : DE K W ty wy] : DS K W (sDPut td ty tv) (dDPut wd wy wv) where
  ok := fun {F σ H ρ X E Dn} hK En L h nx bk ct rt => A.ok hK En L h fun z ρ1 u H1 h1 E1 s1 r1 => B.ok hK E1 (L.stp s1) h1 fun x ρ2 v H2 h2 E2 s2 r2 => C.ok hK E2 (L.stp (s1.trans s2)) h2 fun y ρ3 w H3 h3 E3 s3 r3 => by
    subst hK
    have r1' : RepV F H σ ρ3 H3 u z.tmp := r1.stp E1 (s2.trans s3)
    have r2' : RepV F H σ ρ3 H3 v x.tmp := r2.stp E2 s3
    split at h3
    · rename_i ry yd ey
      have hy := r3.top E3 ey
      split at h3
      · rename_i r d ρ4 e
        obtain ⟨E4, s4, p4⟩ := r1'.st E3 e
        obtain ⟨i, hx⟩ := onDict_al h3
        rw [hx] at h3 r2'
        obtain ⟨i, r0, a, f, rfl, h4, h5⟩ := onDict_at (Hs := H) E4 (show RepV F H σ ρ4 H3 v (.al i) from r2') hy h3
        obtain ⟨H5, g1, E5, s5⟩ := h5 r u d p4
        exact ⟨a, H5, rfl, g1, nx _ σ _ h4 E5 ((((s1.trans s2).trans s3).trans s4).trans s5)⟩
      · exact h3.elim
    · exact h3.elim
/-- x += e -/
abbrev DIpW := Bool × D → Bool × D → (D → Prop) → Prop
def dAugN (g : Int → Int → Int) (i : Nat) (w : DW) : DSW := fun X E ρ => match ρ[i]? with
  | some (some (.sh _ (.int a))) => w X ρ fun y ρ1 => match rd ρ1 y with
    | some (_, .int b) => noPotB ρ1 i = true ∧ E.nx (ρ1.set i (some (.sh true (.int (g a b)))))
    | _ => False
  | _ => False
instance {i : Nat} {g : Int → Int → Int} {t : TE} {w : DW} [A : DE K W t w] : DS K W (tAug i t (ipI g)) (dAugN g i w) where
  ok := fun {F σ H ρ X E Dn} hK En L h nx bk ct rt => by
    unfold dAugN at h
    split at h
    · rename_i r a hi
      obtain ⟨v, h1, h2⟩ := En.sh i _ _ hi
      cases h2
      refine ⟨.int a, h1, A.ok hK En L h fun y ρ1 u H1 g1 E1 s1 r1 => ?_⟩
      split at g1
      · rename_i r' b e
        cases (show u = .int b from r1.top E1 e)
        obtain ⟨E2, s2⟩ := E1.setSh (i := i) (r := true) (noPot_of g1.1) (.int (g a b))
        exact ⟨a, b, rfl, rfl, nx _ _ H1 g1.2 E2 (s1.trans s2)⟩
      · exact g1.elim
    · exact h.elim
/-- d[k] += e -/
def dDAug (g : Int → Int → Int) (wd wy wv : DW) : DSW := fun X E ρ => wd X ρ fun x ρ1 => wy X ρ1 fun y ρ2 => match rd ρ2 x, rd ρ2 y with
  | some p, some q => match getD p q with
    | some (some (.int a)) => wv X ρ2 fun z ρ3 => match rd ρ3 z with
      | some (_, .int b) => q.2.imm = true ∧ onDict x.tmp ρ3 q.2 fun i r0 f => E.nx (ρ3.set i (some (f (r0 && true) (.int (g a b)))))
      | _ => False
    | _ => False
  | _, _ => False
theorem Rep.immTop {K : PySem.W.Frag} {H Hr : Hp} {v : V} {d : D} (h : TopD K H Hr v d) (e : Same Hr H) (i : d.imm = true) {H' : Hp} (s : ∀ a xs, H a = some (.tup xs) → H' a = some (.tup xs)) : Rep K H' v d := by
  have h1 : Rep K H v d := h.rep e fun z => by
    subst z
    simp [D.imm] at i
  have h2 : Rep K (cut (fun _ => True) H) v d := h1.imm i
  refine h2.mono fun a o ho => ?_
  obtain ⟨g1, g2⟩ := cut_inv ho
  rcases g2 with g2 | ⟨xs, rfl⟩
  · exact absurd trivial g2
  · exact s a xs g1
theorem Stp.tup {F : Fr} {σ : L2.St} {ρ : DEnv} {H H' : Hp} {O' : Addr → Prop} (E : Env F σ ρ H) (s : Stp (OwnA σ ρ) H O' H') : ∀ a xs, H a = some (.tup xs) → H' a = some (.tup xs) := fun a xs h => (s.kp a _ h fun z => by
  obtain ⟨u, hu, nu⟩ := E.notup z
  rw [h] at hu
  cases hu
  exact nu xs rfl).1
instance {g : Int → Int → Int} {td ty tv : TE} {wd wy wv : DW} [A : DE K W td wd] [B : DE K W ty wy] [C : DE K W tv wv] : DS K W (sDAug td ty tv (fun x y H Q => ∃ i j, x = .int i ∧ y = .int j ∧ Q (.int (g i j)) H)) (dDAug g wd wy wv) where
  ok := fun {F σ H ρ X E Dn} hK En L h nx bk ct rt => A.ok hK En L h fun x ρ1 v H1 h1 E1 s1 r1 => B.ok hK E1 (L.stp s1) h1 fun y ρ2 w H2 h2 E2 s2 r2 => by
    subst hK
    have r1' : RepV F H σ ρ2 H2 v x.tmp := r1.stp E1 s2
    split at h2
    · rename_i p q hp hq
      have hx := r1'.top E2 (by rw [rd_tmp]; exact hp)
      have hy := r2.top E2 hq
      split at h2
      · rename_i a e
        obtain ⟨b, rfl, _, v', g1, g2⟩ := getD_at hx hy e
        cases g2
        refine ⟨b, .int a, rfl, g1, C.ok rfl E2 (L.stp (s1.trans s2)) h2 fun z ρ3 u H3 h3 E3 s3 r3 => ?_⟩
        split at h3
        · rename_i r' c ec
          cases (show u = .int c from r3.top E3 ec)
          obtain ⟨im, h3⟩ := h3
          obtain ⟨i0, hx0⟩ := onDict_al h3
          rw [hx0] at h3 r1'
          have hy3 : TopD F.K H3 H3 w q.2 := (Rep.immTop hy rh_le im (s3.tup E2)).top fun _ _ z => z
          obtain ⟨i, r0, a', f, ea, h4, h5⟩ := onDict_at (Hs := H) E3 (show RepV F H σ ρ3 H3 (.ref b) (.al i0) from r1') hy3 h3
          cases ea
          obtain ⟨H5, g3, E5, s5⟩ := h5 true (.int (g a c)) (.int (g a c)) (.int _)
          exact ⟨a, c, rfl, rfl, H5, g3, nx _ σ _ h4 E5 (((s1.trans s2).trans s3).trans s5)⟩
        · exact h3.elim
      · exact h2.elim
    · exact h2.elim
/-- a, b = e, f -/
def dPar (i j : Nat) (u : DAW) : DSW := fun X E ρ => u X ρ fun xs ρ1 => match sts ρ1 (xs.map DV.tmp) with
  | some (r, [d, e], ρ2) => noPotB ρ2 i = true ∧ noPotB (ρ2.set i (some (.sh (r || d.imm) d))) j = true ∧ E.nx ((ρ2.set i (some (.sh (r || d.imm) d))).set j (some (.sh (r || e.imm) e)))
  | _ => False
instance {i j : Nat} {t : TA} {u : DAW} [A : DA K W t u] : DS K W (tPar i j t) (dPar i j u) where
  ok := fun {F σ H ρ X E Dn} hK En L h nx bk ct rt => A.ok hK En L h fun xs ρ1 vs H1 h1 E1 s1 r1 => by
    split at h1
    · rename_i r d e ρ2 hs
      obtain ⟨E2, s2, p2⟩ := sts_rep E1 (dCons_tmp r1) hs
      cases p2 with
      | cons a b =>
        cases b with
        | cons b c =>
          cases c
          obtain ⟨E3, s3⟩ := E2.setSh (i := i) (noPot_of h1.1) a.up
          obtain ⟨E4, s4⟩ := E3.setSh (i := j) (noPot_of h1.2.1) (b.up.mono (E2.rh s3))
          exact ⟨_, _, rfl, nx _ _ H1 h1.2.2 E4 (((s1.trans s2).trans s3).trans s4)⟩
    · exact h1.elim
end
end PW

namespace PW
open PySem PySem.Spec PyProof.Rows L2
/-! ### what is walked -/
/-- the iterator J gives these things, whatever is done meanwhile -/
def Wk (J : It) (items : Items) (F : Fr) (O : Addr → Prop) (H : Hp) : Prop := ∃ G : Fr → (Addr → Prop) → Hp → Prop,
  G F O H ∧
  (∀ F O H O' H', G F O H → (∀ r, Same (F.RH O H r) (F.RH O' H' r)) → Stp O H O' H' → G F O' H') ∧
  (∀ F O H a o, G F O H → H a = none → G (F.hide a) O (upd H a o)) ∧
  (∀ F O H a u o, G F O H → F.hid a → H a = some u → (∀ xs, u ≠ .tup xs) → G F O (upd H a o)) ∧
  (∀ F O H i, G F O H → i = items.length → J.stop i H) ∧
  (∀ F O H i, G F O H → i < items.length → J.go i H) ∧
  (∀ F O H i r d x H', G F O H → items[i]? = some (r, d) → J.yld i H x H' → Same H H' ∧ Rep F.K (F.RH O H' r) x d)
class DI (K : PySem.W.Frag) (W : WXT) (wi : TI) (w : outParam DIW) : Prop where
  ok : ∀ {F : Fr} {σ : L2.St} {H : Hp} {ρ : DEnv} {X : XC} {R : Items → DEnv → Prop} {Q : It → Hp → Prop}, F.K = K → Env F σ ρ H → XLink F W X σ ρ H → w X ρ R →
    (∀ items ρ' H' J, R items ρ' → Env F σ ρ' H' → Stp (OwnA σ ρ) H (OwnA σ ρ') H' → Wk J items F (OwnA σ ρ') H' → Q J H') → wi σ H Q
theorem rh_hide {F : Fr} {O : Addr → Prop} {H : Hp} {a : Addr} {o : HO} (h : H a = none) (r : Bool) : Same (F.RH O H r) ((F.hide a).RH O (upd H a o) r) := by
  refine cut_mono (fun b u hb nb => ?_) fun b xs hb _ => ?_
  · have hba : b ≠ a := ne_of_none hb h
    refine ⟨by rw [upd_ne hba]; exact hb, fun z => ?_⟩
    rcases z with (z | z) | z | z
    · exact hba z
    · exact nb (.inl z)
    · exact nb (.inr (.inl z))
    · exact nb (.inr (.inr z))
  · rw [upd_ne (ne_of_none hb h)]
    exact hb
theorem rh_hid {F : Fr} {O : Addr → Prop} {H : Hp} {a : Addr} {u o : HO} (hh : F.hid a) (ha : H a = some u) (nt : ∀ xs, u ≠ .tup xs) (r : Bool) : Same (F.RH O H r) (F.RH O (upd H a o) r) := by
  refine cut_mono (fun b v hb nb => ?_) fun b xs hb _ => ?_
  · have hba : b ≠ a := fun z => nb (.inl (z ▸ hh))
    exact ⟨by rw [upd_ne hba]; exact hb, nb⟩
  · have hba : b ≠ a := fun z => by
      subst z
      rw [ha] at hb
      cases hb
      exact nt xs rfl
    rw [upd_ne hba]
    exact hb
section
variable {K : PySem.W.Frag} {W : WXT}
theorem wk_list {F : Fr} {O : Addr → Prop} {H : Hp} {a : Addr} {vs : List V} {ds : List D} {r : Bool} (h1 : F.RH O H r a = some (.lst vs)) (h2 : RepL F.K (F.RH O H r) vs ds) : Wk (Itl F.K a) (ds.map fun d => (r, d)) F O H := by
  refine ⟨fun G O H => G.K = F.K ∧ G.RH O H r a = some (.lst vs) ∧ RepL F.K (G.RH O H r) vs ds, ⟨rfl, h1, h2⟩, fun G O H O' H' h s _ => ⟨h.1, s r _ _ h.2.1, h.2.2.mono (s r)⟩, fun G O H b o h hb => ⟨h.1, rh_hide hb r _ _ h.2.1, h.2.2.mono (rh_hide hb r)⟩, fun G O H b u o h hh hb nt => ⟨h.1, rh_hid hh hb nt r _ _ h.2.1, h.2.2.mono (rh_hid hh hb nt r)⟩, fun G O H i h hi => ?_, fun G O H i h hi => ?_, fun G O H i r' d x H' h hi y => ?_⟩
  · rw [List.length_map, ← h2.len] at hi
    exact ⟨vs, SqL.of (cut_le _ _ h.2.1), Nat.le_of_eq hi.symm⟩
  · rw [List.length_map, ← h2.len] at hi
    exact ⟨vs, vs[i], SqL.of (cut_le _ _ h.2.1), by simp [hi]⟩
  · obtain ⟨rfl, y⟩ := y
    rw [List.getElem?_map] at hi
    cases e : ds[i]? with
    | none =>
      rw [e] at hi
      cases hi
    | some d' =>
      rw [e] at hi
      cases hi
      obtain ⟨v, g1, g2⟩ := h.2.2.get e
      have := y vs (SqL.of (cut_le _ _ h.2.1))
      rw [g1] at this
      cases this
      refine ⟨.refl _, ?_⟩
      rw [h.1]
      exact g2
theorem wk_tup {F : Fr} {O : Addr → Prop} {H : Hp} {a : Addr} {vs : List V} {ds : List D} {r : Bool} (h1 : F.RH O H r a = some (.tup vs)) (h2 : RepL F.K (F.RH O H r) vs ds) : Wk (Itt F.K a) (ds.map fun d => (r, d)) F O H := by
  refine ⟨fun G O H => G.K = F.K ∧ G.RH O H r a = some (.tup vs) ∧ RepL F.K (G.RH O H r) vs ds, ⟨rfl, h1, h2⟩, fun G O H O' H' h s _ => ⟨h.1, s r _ _ h.2.1, h.2.2.mono (s r)⟩, fun G O H b o h hb => ⟨h.1, rh_hide hb r _ _ h.2.1, h.2.2.mono (rh_hide hb r)⟩, fun G O H b u o h hh hb nt => ⟨h.1, rh_hid hh hb nt r _ _ h.2.1, h.2.2.mono (rh_hid hh hb nt r)⟩, fun G O H i h hi => ?_, fun G O H i h hi => ?_, fun G O H i r' d x H' h hi y => ?_⟩
  · rw [List.length_map, ← h2.len] at hi
    exact ⟨vs, SqT.of (cut_le _ _ h.2.1), Nat.le_of_eq hi.symm⟩
  · rw [List.length_map, ← h2.len] at hi
    exact ⟨vs, vs[i], SqT.of (cut_le _ _ h.2.1), by simp [hi]⟩
  · obtain ⟨rfl, y⟩ := y
    rw [List.getElem?_map] at hi
    cases e : ds[i]? with
    | none =>
      rw [e] at hi
      cases hi
    | some d' =>
      rw [e] at hi
      cases hi
      obtain ⟨v, g1, g2⟩ := h.2.2.get e
      have := y vs (SqT.of (cut_le _ _ h.2.1))
      rw [g1] at this
      cases this
      refine ⟨.refl _, ?_⟩
      rw [h.1]
      exact g2
def signs (z : Str) : Items := z.cps.toList.map fun c => (true, D.str ⟨#[c]⟩)
theorem wk_str {F : Fr} {O : Addr → Prop} {H : Hp} {z : Str} : Wk (Its z) (signs z) F O H := by
  refine ⟨fun _ _ _ => True, trivial, fun _ _ _ _ _ _ _ _ => trivial, fun _ _ _ _ _ _ _ => trivial, fun _ _ _ _ _ _ _ _ _ _ => trivial, fun _ _ _ i _ hi => ?_, fun _ _ _ i _ hi => ?_, fun G O H i r' d x H' h hi y => ?_⟩
  · exact Nat.le_of_eq (by simpa [signs] using hi.symm : z.cps.size = i)
  · exact (by simpa [signs] using hi : i < z.cps.size)
  · obtain ⟨rfl, c, hc, rfl⟩ := y
    refine ⟨.refl _, ?_⟩
    unfold signs at hi
    rw [List.getElem?_map, Array.getElem?_toList, hc] at hi
    cases hi
    exact .str _
/-- what a for goes over: a list, a tuple, a text -/
def iG (K : PySem.W.Frag) (te : TE) : TI := fun σ H R => te σ H fun v H1 => (∃ a, v = .ref a ∧ (∃ xs, SqL K H1 a xs) ∧ R (Itl K a) H1) ∨ (∃ a, v = .ref a ∧ (∃ xs, SqT K H1 a xs) ∧ R (Itt K a) H1) ∨ ∃ x, v = .str x ∧ R (Its x) H1
end
/-- a thing at hand, walked -/
theorem it_list {X : Cx} {tg : Expr} {pins : List (Addr × Obj)} {σ : L2.St} {H : Hp} {R : It → Hp → Prop} {s : Shared} {a : Addr} {xs : List V} (I : Inv X pins σ H s) (hq : SqL X.K H a xs) (q : R (Itl X.K a) H) : wpAny (model X.prog X.w) X.A (pyIter (.ref a)) (PIE X pins σ tg R) X.xe s := by
  obtain ⟨its, _, p, _⟩ := I.list hq
  exact wpAny_pyIter_list p.isList (pi_one (tk := s.toks) I _ (turn_list a _) ⟨_, Heap.get?_push_size _ rfl, rfl, rfl⟩ q)
theorem it_tup {X : Cx} {tg : Expr} {pins : List (Addr × Obj)} {σ : L2.St} {H : Hp} {R : It → Hp → Prop} {s : Shared} {a : Addr} {xs : List V} (I : Inv X pins σ H s) (hq : SqT X.K H a xs) (q : R (Itt X.K a) H) : wpAny (model X.prog X.w) X.A (pyIter (.ref a)) (PIE X pins σ tg R) X.xe s := by
  obtain ⟨its, _, p, _⟩ := I.tuple hq
  exact wpAny_pyIter_tuple (show s.heap.IsTuple a its.toArray from p) (pi_one (tk := s.toks) I _ (turn_tuple a _) ⟨_, Heap.get?_push_size _ rfl, rfl, rfl⟩ q)
theorem it_str {X : Cx} {tg : Expr} {pins : List (Addr × Obj)} {σ : L2.St} {H : Hp} {R : It → Hp → Prop} {s : Shared} {x : Str} {t : Tok} (I : Inv X pins σ H s) (q : R (Its x) H) : wpAny (model X.prog X.w) X.A (pyIter (.str x t)) (PIE X pins σ tg R) X.xe s := by
  by_cases ha : x.cps.all (· < 128) = true
  · exact wpAny_pyIter_ascii ha (pi_one (tk := s.toks) I _ (turn_str _ x t "str_ascii_iterator" (.inl rfl)) ⟨_, Heap.get?_push_size _ rfl, rfl, rfl⟩ q)
  · exact wpAny_pyIter_wide (Bool.eq_false_iff.mpr ha) (pi_one (tk := s.toks) I _ (turn_str _ x t "str_iterator" (.inr rfl)) ⟨_, Heap.get?_push_size _ rfl, rfl, rfl⟩ q)
theorem pi_G {X : Cx} {K : PySem.W.Frag} {tg l : Expr} {tl : TE} (hl : PE X l tl) (hK : X.K = K := by rfl) : PI X tg l (iG K tl) := by
  subst hK
  refine ⟨fun pins s σ H R I h => thn (hl.run pins s σ H _ I h) fun v s1 ⟨x, H1, I1, r1, q1⟩ => ?_⟩
  rcases q1 with ⟨a, rfl, ⟨xs, hq⟩, q⟩ | ⟨a, rfl, ⟨xs, hq⟩, q⟩ | ⟨z, rfl, q⟩
  · cases r1
    exact it_list I1 hq q
  · cases r1
    exact it_tup I1 hq q
  · obtain ⟨t, rfl⟩ := r1
    exact it_str I1 q
section
variable {K : PySem.W.Frag} {W : WXT}
def dIterG (w : DW) : DIW := fun X ρ R => w X ρ fun x ρ1 => match st ρ1 x with
  | some (r, .lst ds, ρ2) => R (ds.map fun d => (r, d)) ρ2
  | some (r, .tup ds, ρ2) => R (ds.map fun d => (r, d)) ρ2
  | some (_, .str z, ρ2) => R (signs z) ρ2
  | _ => False
instance {t : TE} {w : DW} [A : DE K W t w] : DI K W (iG K t) (dIterG w) where
  ok := fun {F σ H ρ X R Q} hK E L h q => A.ok hK E L h fun x ρ1 v H1 h1 E1 s1 r1 => by
    subst hK
    split at h1
    · rename_i r ds ρ2 e
      obtain ⟨E2, s2, p2⟩ := r1.st E1 e
      cases p2 with
      | lst g1 g2 => exact .inl ⟨_, rfl, ⟨_, SqL.of (cut_le _ _ g1)⟩, q _ ρ2 H1 _ h1 E2 (s1.trans s2) (wk_list g1 g2)⟩
    · rename_i r ds ρ2 e
      obtain ⟨E2, s2, p2⟩ := r1.st E1 e
      cases p2 with
      | tup g1 g2 => exact .inr (.inl ⟨_, rfl, ⟨_, SqT.of (cut_le _ _ g1)⟩, q _ ρ2 H1 _ h1 E2 (s1.trans s2) (wk_tup g1 g2)⟩)
    · rename_i r z ρ2 e
      obtain ⟨E2, s2, p2⟩ := r1.st E1 e
      cases p2
      exact .inr (.inr ⟨_, rfl, q _ ρ2 H1 _ h1 E2 (s1.trans s2) wk_str⟩)
    · exact h1.elim
/-- lo, lo + 1, .. -/
def rangeD (lo : Int) (n : Nat) : Items := (List.range n).map fun i => (true, D.int (lo + (i : Nat)))
theorem wk_rng {F : Fr} {O : Addr → Prop} {H : Hp} {lo : Int} {n : Nat} : Wk (Itr lo n) (rangeD lo n) F O H := by
  refine ⟨fun _ _ _ => True, trivial, fun _ _ _ _ _ _ _ _ => trivial, fun _ _ _ _ _ _ _ => trivial, fun _ _ _ _ _ _ _ _ _ _ => trivial, fun _ _ _ i _ hi => ?_, fun _ _ _ i _ hi => ?_, fun G O H i r' d x H' h hi y => ?_⟩
  · exact Nat.le_of_eq (by simpa [rangeD] using hi.symm : n = i)
  · exact (by simpa [rangeD] using hi : i < n)
  · obtain ⟨rfl, rfl⟩ := y
    refine ⟨.refl _, ?_⟩
    unfold rangeD at hi
    rw [List.getElem?_map] at hi
    cases e : (List.range n)[i]? with
    | none =>
      rw [e] at hi
      cases hi
    | some j =>
      rw [e] at hi
      cases hi
      have := List.getElem?_eq_some_iff.mp e
      obtain ⟨hl, hj⟩ := this
      rw [List.getElem_range] at hj
      subst hj
      exact .int _
def dRng1 (u : DAW) : DIW := fun X ρ R => u X ρ fun xs ρ1 => match rds ρ1 xs with
  | some [(_, .int j)] => -(2 ^ 62) ≤ j ∧ j < 2 ^ 62 ∧ R (rangeD 0 j.toNat) ρ1
  | _ => False
def dRng2 (u : DAW) : DIW := fun X ρ R => u X ρ fun xs ρ1 => match rds ρ1 xs with
  | some [(_, .int i), (_, .int j)] => -(2 ^ 62) ≤ i ∧ i < 2 ^ 62 ∧ -(2 ^ 62) ≤ j ∧ j < 2 ^ 62 ∧ R (rangeD i (j - i).toNat) ρ1
  | _ => False
instance {t : TA} {u : DAW} [A : DA K W t u] : DI K W (iRng1 t) (dRng1 u) where
  ok := fun {F σ H ρ X R Q} hK E L h q => A.ok hK E L h fun xs ρ1 vs H1 h1 E1 s1 r1 => by
    split at h1
    · rename_i r j e
      obtain ⟨v, rfl, g⟩ := tops1 (tops_of E1 r1 e)
      cases (show v = .int j from g)
      exact ⟨j, rfl, h1.1, h1.2.1, q _ ρ1 H1 _ h1.2.2 E1 s1 wk_rng⟩
    · exact h1.elim
instance {t : TA} {u : DAW} [A : DA K W t u] : DI K W (iRng2 t) (dRng2 u) where
  ok := fun {F σ H ρ X R Q} hK E L h q => A.ok hK E L h fun xs ρ1 vs H1 h1 E1 s1 r1 => by
    split at h1
    · rename_i r i r' j e
      obtain ⟨v, w, rfl, g, g'⟩ := tops2 (tops_of E1 r1 e)
      cases (show v = .int i from g)
      cases (show w = .int j from g')
      exact ⟨i, j, rfl, ⟨h1.1, h1.2.1, h1.2.2.1, h1.2.2.2.1⟩, q _ ρ1 H1 _ h1.2.2.2.2 E1 s1 wk_rng⟩
    · exact h1.elim
/-- pairs with their numbers -/
def enumD (r : Bool) (ds : List D) : Items := (List.range ds.length).zipWith (fun i d => (r, D.tup [.int (i : Nat), d])) ds
theorem wk_enum {F : Fr} {O : Addr → Prop} {H : Hp} {a : Addr} {vs : List V} {ds : List D} {r : Bool} (h1 : F.RH O H r a = some (.lst vs)) (h2 : RepL F.K (F.RH O H r) vs ds) : Wk (Ite F.K a) (enumD r ds) F O H := by
  have hl : (enumD r ds).length = ds.length := by simp [enumD]
  refine ⟨fun G O H => G.K = F.K ∧ G.RH O H r a = some (.lst vs) ∧ RepL F.K (G.RH O H r) vs ds, ⟨rfl, h1, h2⟩, fun G O H O' H' h s _ => ⟨h.1, s r _ _ h.2.1, h.2.2.mono (s r)⟩, fun G O H b o h hb => ⟨h.1, rh_hide hb r _ _ h.2.1, h.2.2.mono (rh_hide hb r)⟩, fun G O H b u o h hh hb nt => ⟨h.1, rh_hid hh hb nt r _ _ h.2.1, h.2.2.mono (rh_hid hh hb nt r)⟩, fun G O H i h hi => ?_, fun G O H i h hi => ?_, fun G O H i r' d x H' h hi y => ?_⟩
  · rw [hl, ← h2.len] at hi
    exact ⟨vs, SqL.of (cut_le _ _ h.2.1), Nat.le_of_eq hi.symm⟩
  · rw [hl, ← h2.len] at hi
    exact ⟨vs, vs[i], SqL.of (cut_le _ _ h.2.1), by simp [hi]⟩
  · obtain ⟨T, v, rfl, nT, rfl, y⟩ := y
    have sm : Same H (upd H T (.tup [.int (i : Nat), v])) := same_new nT
    refine ⟨sm, ?_⟩
    have hi' : (if h : i < ds.length then some (r, D.tup [.int (i : Nat), ds[i]]) else none) = some (r', d) := by
      rw [← hi]
      unfold enumD
      rw [List.getElem?_zipWith]
      by_cases z : i < ds.length
      · simp [z]
      · simp [z]
    by_cases z : i < ds.length
    · rw [dif_pos z] at hi'
      cases hi'
      obtain ⟨w, g1, g2⟩ := h.2.2.get (i := i) (d := ds[i]) (by simp [z])
      have := y vs (SqL.of (cut_le _ _ h.2.1))
      rw [g1] at this
      cases this
      have up : Same (G.RH O H r) (G.RH O (upd H T (.tup [.int (i : Nat), v])) r) := cut_mono (fun b u hb nb => ⟨sm _ _ hb, nb⟩) fun b xs hb _ => sm _ _ hb
      rw [h.1]
      exact .tup (cut_tup upd_same) (.cons (.int _) (.one (g2.mono up)))
    · rw [dif_neg z] at hi'
      cases hi'
def dEnum (u : DAW) : DIW := fun X ρ R => u X ρ fun xs ρ1 => match sts ρ1 (xs.map DV.tmp) with
  | some (r, [.lst ds], ρ2) => R (enumD r ds) ρ2
  | _ => False
instance {t : TA} {u : DAW} [A : DA K W t u] : DI K W (iEnum K t) (dEnum u) where
  ok := fun {F σ H ρ X R Q} hK E L h q => A.ok hK E L h fun xs ρ1 vs H1 h1 E1 s1 r1 => by
    subst hK
    split at h1
    · rename_i r ds ρ2 e
      obtain ⟨E2, s2, p2⟩ := sts_rep E1 (dCons_tmp r1) e
      cases p2 with
      | cons g g' =>
        cases g'
        cases g with
        | lst g1 g2 => exact ⟨_, _, rfl, SqL.of (cut_le _ _ g1), q _ ρ2 H1 _ h1 E2 (s1.trans s2) (wk_enum g1 g2)⟩
    · exact h1.elim
def zipD (r : Bool) (ds es : List D) : Items := ds.zipWith (fun d e => (r, D.tup [d, e])) es
theorem wk_zip {F : Fr} {O : Addr → Prop} {H : Hp} {a b : Addr} {vs ws : List V} {ds es : List D} {r : Bool} (h1 : F.RH O H r a = some (.lst vs)) (h2 : RepL F.K (F.RH O H r) vs ds) (h3 : F.RH O H r b = some (.lst ws)) (h4 : RepL F.K (F.RH O H r) ws es) : Wk (Itz F.K a b) (zipD r ds es) F O H := by
  have hl : (zipD r ds es).length = min ds.length es.length := by simp [zipD]
  refine ⟨fun G O H => G.K = F.K ∧ (G.RH O H r a = some (.lst vs) ∧ RepL F.K (G.RH O H r) vs ds) ∧ G.RH O H r b = some (.lst ws) ∧ RepL F.K (G.RH O H r) ws es, ⟨rfl, ⟨h1, h2⟩, h3, h4⟩, fun G O H O' H' h s _ => ⟨h.1, ⟨s r _ _ h.2.1.1, h.2.1.2.mono (s r)⟩, s r _ _ h.2.2.1, h.2.2.2.mono (s r)⟩,
    fun G O H b o h hb => ⟨h.1, ⟨rh_hide hb r _ _ h.2.1.1, h.2.1.2.mono (rh_hide hb r)⟩, rh_hide hb r _ _ h.2.2.1, h.2.2.2.mono (rh_hide hb r)⟩,
    fun G O H b u o h hh hb nt => ⟨h.1, ⟨rh_hid hh hb nt r _ _ h.2.1.1, h.2.1.2.mono (rh_hid hh hb nt r)⟩, rh_hid hh hb nt r _ _ h.2.2.1, h.2.2.2.mono (rh_hid hh hb nt r)⟩, fun G O H i h hi => ?_, fun G O H i h hi => ?_, fun G O H i r' d x H' h hi y => ?_⟩
  · rw [hl, ← h2.len, ← h4.len] at hi
    exact ⟨vs, ws, SqL.of (cut_le _ _ h.2.1.1), SqL.of (cut_le _ _ h.2.2.1), by omega⟩
  · rw [hl, ← h2.len, ← h4.len] at hi
    have g1 : i < vs.length := by omega
    have g2 : i < ws.length := by omega
    exact ⟨vs, ws, vs[i], ws[i], SqL.of (cut_le _ _ h.2.1.1), SqL.of (cut_le _ _ h.2.2.1), by simp [g1], by simp [g2]⟩
  · obtain ⟨T, v, u, rfl, nT, rfl, y1, y2⟩ := y
    have sm : Same H (upd H T (.tup [v, u])) := same_new nT
    refine ⟨sm, ?_⟩
    unfold zipD at hi
    rw [List.getElem?_zipWith] at hi
    cases e1 : ds[i]? with
    | none =>
      rw [e1] at hi
      cases hi
    | some d1 =>
      cases e2 : es[i]? with
      | none =>
        rw [e1, e2] at hi
        cases hi
      | some d2 =>
        rw [e1, e2] at hi
        cases hi
        obtain ⟨w1, g1, g2⟩ := h.2.1.2.get e1
        obtain ⟨w2, g3, g4⟩ := h.2.2.2.get e2
        have z1 := y1 vs (SqL.of (cut_le _ _ h.2.1.1))
        have z2 := y2 ws (SqL.of (cut_le _ _ h.2.2.1))
        rw [g1] at z1
        cases z1
        rw [g3] at z2
        cases z2
        have up : Same (G.RH O H r) (G.RH O (upd H T (.tup [v, u])) r) := cut_mono (fun b u hb nb => ⟨sm _ _ hb, nb⟩) fun b xs hb _ => sm _ _ hb
        rw [h.1]
        exact .tup (cut_tup upd_same) (.cons (g2.mono up) (.one (g4.mono up)))
def dZip (u : DAW) : DIW := fun X ρ R => u X ρ fun xs ρ1 => match sts ρ1 (xs.map DV.tmp) with
  | some (r, [.lst ds, .lst es], ρ2) => R (zipD r ds es) ρ2
  | _ => False
instance {t : TA} {u : DAW} [A : DA K W t u] : DI K W (iZip K t) (dZip u) where
  ok := fun {F σ H ρ X R Q} hK E L h q => A.ok hK E L h fun xs ρ1 vs H1 h1 E1 s1 r1 => by
    subst hK
    split at h1
    · rename_i r ds es ρ2 e
      obtain ⟨E2, s2, p2⟩ := sts_rep E1 (dCons_tmp r1) e
      cases p2 with
      | cons g g' =>
        cases g' with
        | cons g' g'' =>
          cases g''
          cases g with
          | lst g1 g2 =>
            cases g' with
            | lst g3 g4 => exact ⟨_, _, _, _, rfl, SqL.of (cut_le _ _ g1), SqL.of (cut_le _ _ g3), q _ ρ2 H1 _ h1 E2 (s1.trans s2) (wk_zip g1 g2 g3 g4)⟩
    · exact h1.elim
/-! ### for, while -/
def dLoop (g : DGW) (tb : DSW) (X : XC) (E : DEnds) : Items → DEnv → Prop
  | [], ρ => E.nx ρ
  | p :: ps, ρ => g p ρ fun ρ1 => tb X { E with nx := dLoop g tb X E ps, ct := dLoop g tb X E ps, bk := E.nx } ρ1
@[irreducible] def loopC (g : DGW) (tb : DSW) (X : XC) (E : DEnds) (items : Items) (ρ : DEnv) : Prop := dLoop g tb X E items ρ
theorem loopC_eq {g : DGW} {tb : DSW} {X : XC} {E : DEnds} {items : Items} {ρ : DEnv} : loopC g tb X E items ρ = dLoop g tb X E items ρ := by unfold loopC; rfl
def dFor (wi : DIW) (g : DGW) (tb : DSW) : DSW := fun X E ρ => wi X ρ fun items ρ1 => loopC g tb X E items ρ1
instance {wi : TI} {w : DIW} {g : TG} {wg : DGW} {sl : List Nat} {tb : TS} {wb : DSW} [A : DI K W wi w] [B : DG K g wg sl] [C : DS K W tb wb] : DS K W (tFor wi g tb) (dFor w wg wb) where
  ok := fun {F σ H ρ X E Dn} hK En L h nx bk ct rt => A.ok hK En L h fun items ρ1 H1 J h1 E1 s1 wk => by
    obtain ⟨G, g0, gs, gh, gw, gstop, ggo, gy⟩ := wk
    rw [loopC_eq] at h1
    refine ⟨fun i m σ2 H2 => m = items.length - i ∧ i ≤ items.length ∧ ∃ ρ2, Env F σ2 ρ2 H2 ∧ Stp (OwnA σ ρ) H (OwnA σ2 ρ2) H2 ∧ G F (OwnA σ2 ρ2) H2 ∧ dLoop wg wb X E (items.drop i) ρ2, ⟨_, rfl, Nat.zero_le _, ρ1, E1, s1, g0, h1⟩, ?_⟩
    rintro i m σ2 H2 ⟨rfl, hi, ρ2, E2, s2, g2, h2⟩
    by_cases hlt : i < items.length
    · refine .inr ⟨ggo _ _ _ i g2 hlt, fun σ3 H3 => i + 1 ≤ items.length ∧ ∃ ρ3, Env F σ3 ρ3 H3 ∧ Stp (OwnA σ ρ) H (OwnA σ3 ρ3) H3 ∧ G F (OwnA σ3 ρ3) H3 ∧ dLoop wg wb X E (items.drop (i + 1)) ρ3, fun σ3 H3 z => ⟨items.length - (i + 1), by omega, rfl, z⟩, fun x H3 y => ?_⟩
      rw [List.drop_eq_getElem_cons hlt] at h2
      obtain ⟨r, d, hp⟩ : ∃ r d, items[i] = (r, d) := ⟨_, _, rfl⟩
      have hi' : items[i]? = some (r, d) := by rw [List.getElem?_eq_getElem hlt, hp]
      rw [hp] at h2
      obtain ⟨sm, rx⟩ := gy _ _ _ i r d x H3 g2 hi' y
      have E3 := E2.grow sm
      have s3 : Stp (OwnA σ2 ρ2) H2 (OwnA σ2 ρ2) H3 := .same sm
      have g3 := gs _ _ _ _ _ g2 (fun r => E2.rh s3) s3
      refine B.ok hK E3 (p := (r, d)) rx h2 fun ρ4 σ4 h4 E4 s4 _ _ => ?_
      have g4 := gs _ _ _ _ _ g3 (fun r => E3.rh s4) s4
      have s04 := (s2.trans s3).trans s4
      exact C.ok hK E4 (L.stp s04) h4
        (fun ρ5 σ5 H5 h5 E5 s5 => ⟨hlt, ρ5, E5, s04.trans s5, gs _ _ _ _ _ g4 (fun r => E4.rh s5) s5, h5⟩)
        (fun ρ5 σ5 H5 h5 E5 s5 => nx ρ5 σ5 H5 h5 E5 (s04.trans s5))
        (fun ρ5 σ5 H5 h5 E5 s5 => ⟨hlt, ρ5, E5, s04.trans s5, gs _ _ _ _ _ g4 (fun r => E4.rh s5) s5, h5⟩)
        fun d ρ5 σ5 v H5 h5 E5 s5 r5 => rt d ρ5 σ5 v H5 h5 E5 (s04.trans s5) r5
    · have e : i = items.length := by omega
      subst e
      rw [List.drop_length] at h2
      exact .inl ⟨gstop _ _ _ _ g2 rfl, nx ρ2 σ2 H2 h2 E2 s2⟩
@[irreducible] def whileC (c : DTW) (tb : DSW) (X : XC) (E : DEnds) (ρ : DEnv) : Prop := ∃ V : Nat → DEnv → Prop, (∃ m, V m ρ) ∧ ∀ m ρ, V m ρ → c X ρ fun b ρ1 =>
  ifC b (tb X { E with nx := fun ρ' => ∃ m', m' < m ∧ V m' ρ', ct := fun ρ' => ∃ m', m' < m ∧ V m' ρ', bk := E.nx } ρ1) (E.nx ρ1)
def dWhile (c : DTW) (tb : DSW) : DSW := fun X E ρ => whileC c tb X E ρ
instance {c : TT} {wc : DTW} {tb : TS} {wb : DSW} [A : DT K W c wc] [C : DS K W tb wb] : DS K W (tWhile c tb) (dWhile wc wb) where
  ok := fun {F σ H ρ X E Dn} hK En L h nx bk ct rt => by
    unfold dWhile whileC at h
    obtain ⟨V, ⟨m0, h0⟩, turn⟩ := h
    refine ⟨fun m σ2 H2 => ∃ ρ2, V m ρ2 ∧ Env F σ2 ρ2 H2 ∧ Stp (OwnA σ ρ) H (OwnA σ2 ρ2) H2, ⟨m0, ρ, h0, En, .refl _ _⟩, ?_⟩
    rintro m σ2 H2 ⟨ρ2, v2, E2, s2⟩
    refine A.ok hK E2 (L.stp s2) (turn m ρ2 v2) fun b ρ3 H3 h3 E3 s3 => ?_
    have s03 := s2.trans s3
    cases b with
    | true =>
      rw [ifC_t] at h3
      rw [if_pos rfl]
      refine ⟨fun σ4 H4 => ∃ m', m' < m ∧ ∃ ρ4, V m' ρ4 ∧ Env F σ4 ρ4 H4 ∧ Stp (OwnA σ ρ) H (OwnA σ4 ρ4) H4, fun σ4 H4 z => z, ?_⟩
      exact C.ok hK E3 (L.stp s03) h3
        (fun ρ5 σ5 H5 ⟨m', hm, h5⟩ E5 s5 => ⟨m', hm, ρ5, h5, E5, s03.trans s5⟩)
        (fun ρ5 σ5 H5 h5 E5 s5 => nx ρ5 σ5 H5 h5 E5 (s03.trans s5))
        (fun ρ5 σ5 H5 ⟨m', hm, h5⟩ E5 s5 => ⟨m', hm, ρ5, h5, E5, s03.trans s5⟩)
        fun d ρ5 σ5 v H5 h5 E5 s5 r5 => rt d ρ5 σ5 v H5 h5 E5 (s03.trans s5) r5
    | false =>
      rw [ifC_f] at h3
      rw [if_neg Bool.false_ne_true]
      exact nx ρ3 σ2 H3 h3 E3 s03
end
end PW

namespace PW
open PySem PySem.Spec PyProof.Rows L2
/-! ### comprehensions -/
def wipeD (ρ : DEnv) : List Nat → DEnv
  | [] => ρ
  | v :: vs => (wipeD ρ vs).set v none
/-- the slots vs as they were -/
def unw {α : Type} (e : List (Option α)) (o : List (Option α)) : List Nat → List (Option α)
  | [] => e
  | v :: vs => (unw e o vs).set v (o[v]?).join
def noPots (ρ : DEnv) (vs : List Nat) : Bool := vs.all fun v => noPotB ρ v
def noOwn (ρ : DEnv) (vs : List Nat) : Bool := vs.all fun v => match ρ[v]? with
  | some (some (.ow _ _)) => false
  | _ => true
theorem wipe_at (σ : L2.St) (j : Nat) : ∀ vs : List Nat, (wipe σ vs)[j]? = if j ∈ vs ∧ j < σ.length then some none else σ[j]?
  | [] => by simp [wipe]
  | v :: vs => by
    unfold wipe
    by_cases e : v = j
    · subst e
      by_cases h : v < σ.length
      · rw [List.getElem?_set_self (by rw [wipe_length]; exact h), if_pos ⟨List.mem_cons_self, h⟩]
      · rw [List.getElem?_eq_none (by rw [List.length_set, wipe_length]; omega), if_neg fun z => h z.2, List.getElem?_eq_none (by omega)]
    · rw [List.getElem?_set_ne e, wipe_at σ j vs]
      have : (j ∈ v :: vs) ↔ j ∈ vs := by
        rw [List.mem_cons]
        exact ⟨fun z => z.elim (fun z => absurd z.symm e) id, .inr⟩
      simp only [this]
theorem wipe_eq {σ σ' : L2.St} {vs : List Nat} (hl : σ'.length = σ.length) (h : ∀ j, j ∉ vs → σ'[j]? = σ[j]?) : wipe σ' vs = wipe σ vs := by
  refine List.ext_getElem? fun j => ?_
  rw [wipe_at, wipe_at, hl]
  by_cases e : j ∈ vs ∧ j < σ.length
  · rw [if_pos e, if_pos e]
  · rw [if_neg e, if_neg e]
    by_cases z : j ∈ vs
    · have : ¬ j < σ.length := fun y => e ⟨z, y⟩
      rw [List.getElem?_eq_none (by omega), List.getElem?_eq_none (by omega)]
    · exact h j z
theorem wipe_wipe (σ : L2.St) (vs : List Nat) : wipe (wipe σ vs) vs = wipe σ vs := wipe_eq (wipe_length σ vs) fun j hj => by
  rw [wipe_at, if_neg fun z => hj z.1]
theorem unw_at {α : Type} (e o : List (Option α)) (j : Nat) : ∀ vs : List Nat, (unw e o vs)[j]? = if j ∈ vs ∧ j < e.length then some (o[j]?).join else e[j]?
  | [] => by simp [unw]
  | v :: vs => by
    have hl : ∀ vs : List Nat, (unw e o vs).length = e.length := fun vs => by
      induction vs with
      | nil => rfl
      | cons v vs ih => rw [unw, List.length_set, ih]
    unfold unw
    by_cases h : v = j
    · subst h
      by_cases h : v < e.length
      · rw [List.getElem?_set_self (by rw [hl]; exact h), if_pos ⟨List.mem_cons_self, h⟩]
      · rw [List.getElem?_eq_none (by rw [List.length_set, hl]; omega), if_neg fun z => h z.2, List.getElem?_eq_none (by omega)]
    · rw [List.getElem?_set_ne h, unw_at e o j vs]
      have : (j ∈ v :: vs) ↔ j ∈ vs := by
        rw [List.mem_cons]
        exact ⟨fun z => z.elim (fun z => absurd z.symm h) id, .inr⟩
      simp only [this]
theorem unw_wipe (σ : L2.St) (vs : List Nat) : unw (wipe σ vs) σ vs = σ := by
  refine List.ext_getElem? fun j => ?_
  rw [unw_at, wipe_at, wipe_length]
  by_cases e : j ∈ vs ∧ j < σ.length
  · rw [if_pos e, List.getElem?_eq_getElem e.2]
    rfl
  · rw [if_neg e, if_neg e]
section
variable {F : Fr} {σ σ' : L2.St} {ρ ρ' : DEnv} {H H' : Hp} {a : Addr}
theorem wipeD_noPot {i : Nat} (h : noPot ρ i) : ∀ vs : List Nat, noPot (wipeD ρ vs) i
  | [] => h
  | v :: vs => fun r d z0 e => by
    unfold wipeD at e
    by_cases z : v = i
    · subst z
      by_cases y : v < (wipeD ρ vs).length
      · rw [List.getElem?_set_self y] at e
        cases e
      · rw [List.getElem?_eq_none (by rw [List.length_set]; omega)] at e
        cases e
    · rw [List.getElem?_set_ne z] at e
      exact wipeD_noPot h vs r d z0 e
theorem Env.wiped (E : Env F σ ρ H) : ∀ {vs : List Nat}, noPots ρ vs = true → Env F (wipe σ vs) (wipeD ρ vs) H ∧ Stp (OwnA σ ρ) H (OwnA (wipe σ vs) (wipeD ρ vs)) H
  | [], _ => ⟨E, .refl _ _⟩
  | v :: vs, h => by
    unfold noPots at h
    rw [List.all_cons, Bool.and_eq_true] at h
    obtain ⟨E1, s1⟩ := E.wiped (vs := vs) h.2
    obtain ⟨E2, s2⟩ := E1.setNo (i := v) (wipeD_noPot (noPot_of h.1) vs)
    exact ⟨E2, s1.trans s2⟩
/-- the slots of a comprehension are given back -/
theorem Env.back {σ0 : L2.St} {ρ0 : DEnv} (E : Env F σ ρ H) (hl : σ0.length = ρ0.length) (hs : ∀ (v : Nat) (r : Bool) (d : D), ρ0[v]? = some (some (.sh r d)) → ∃ u, σ0[v]? = some (some u) ∧ Rep F.K (F.RH (OwnA σ ρ) H r) u d) (hr : ∀ (i : Nat) (s : Sl), ρ0[i]? = some (some s) → RawP F.K F.sc (PaAt F) (F.RH (OwnA σ ρ) H) σ0[i]? s) :
    ∀ {vs : List Nat}, noPots ρ vs = true → noOwn ρ0 vs = true → Env F (unw σ σ0 vs) (unw ρ ρ0 vs) H ∧ Stp (OwnA σ ρ) H (OwnA (unw σ σ0 vs) (unw ρ ρ0 vs)) H ∧ ∀ i, noPot ρ i → noPot (unw ρ ρ0 vs) i
  | [], _, _ => ⟨E, .refl _ _, fun _ h => h⟩
  | v :: vs, h, h' => by
    unfold noPots at h
    unfold noOwn at h'
    rw [List.all_cons, Bool.and_eq_true] at h h'
    obtain ⟨E1, s1, n1⟩ := E.back hl hs hr (vs := vs) h.2 h'.2
    have no : ∀ r d, (ρ0[v]?).join ≠ some (.ow r d) := fun r d z => by
      have h2 := h'.1
      cases e : ρ0[v]? with
      | none =>
        rw [e] at z
        cases z
      | some s =>
        rw [e] at z h2
        have z : s = some (.ow r d) := z
        rw [z] at h2
        cases h2
    obtain ⟨E2, s2⟩ := E1.setN (i := v) (w := (σ0[v]?).join) (s := (ρ0[v]?).join) (n1 v (noPot_of h.1)) no (fun r d z => by
      cases e : ρ0[v]? with
      | none =>
        rw [e] at z
        cases z
      | some s =>
        rw [e] at z
        have z : s = some (.sh r d) := z
        subst z
        obtain ⟨u, g1, g2⟩ := hs v r d e
        exact ⟨u, by rw [g1]; rfl, g2.mono (E.rh s1)⟩) fun u z => by
      cases e : ρ0[v]? with
      | none =>
        rw [e] at z
        cases z
      | some s =>
        rw [e] at z
        have z : s = some u := z
        subst z
        have g := (hr v u e).mono fun _ => E.rh s1
        cases q : σ0[v]? with
        | none =>
          rw [q] at g
          cases u with
          | scr ns =>
            obtain ⟨a, g1, _⟩ := g
            cases g1
          | exn a dd x =>
            cases g.1
          | exo a dd x =>
            cases g.1
          | lk r d =>
            obtain ⟨a, g1, _⟩ := g
            cases g1
          | pa r d =>
            obtain ⟨a, g1, _⟩ := g
            cases g1
          | po d =>
            obtain ⟨a, g1, _⟩ := g
            cases g1
          | _ => trivial
        | some y =>
          rw [q] at g
          exact g
    refine ⟨E2, s1.trans s2, fun i hi r d z0 z => ?_⟩
    unfold unw at z
    by_cases y : v = i
    · subst y
      by_cases x : v < (unw ρ ρ0 vs).length
      · rw [List.getElem?_set_self x] at z
        exact absurd (Option.some.inj z) (no _ _)
      · rw [List.getElem?_eq_none (by rw [List.length_set]; omega)] at z
        cases z
    · rw [List.getElem?_set_ne y] at z
      exact n1 i hi r d z0 z
theorem Env.hidUpd {u o : HO} (E : Env (F.hide a) σ ρ H) (h0 : F.H0 a = none) (ha : H a = some u) (nt : ∀ xs, u ≠ .tup xs) : Env (F.hide a) σ ρ (upd H a o) := by
  have up : ∀ r, Same ((F.hide a).RH (OwnA σ ρ) H r) ((F.hide a).RH (OwnA σ ρ) (upd H a o) r) := fun r => rh_hid (F := F.hide a) (Or.inl rfl) ha nt r
  have there : ∀ b, (∃ v, H b = some v) → ∃ v, upd H a o b = some v := fun b ⟨v, hv⟩ => by
    by_cases z : b = a
    · exact ⟨_, by rw [z, upd_same]⟩
    · exact ⟨v, by rw [upd_ne z]; exact hv⟩
  refine ⟨E.len, fun b v hb np nx => ?_, fun i r d h => ?_, fun i r d h => ?_, E.inj, E.pt, fun b hb => ⟨there b (E.hidIn b hb).1, (E.hidIn b hb).2⟩, fun i r d h => (E.xo i r d h).same fun b hb v hv => ?_, E.xt, fun b hb => there b (E.pxIn b hb), fun b xs hb => ?_, E.hc, E.tc, E.sc, fun i s hi => (E.raw i s hi).mono up⟩
  · have : b ≠ a := fun z => by
      subst z
      rw [show F.H0 b = some v from hb] at h0
      cases h0
    rw [upd_ne this]
    exact E.keep b v hb np nx
  · obtain ⟨v, h1, h2⟩ := E.sh i r d h
    exact ⟨v, h1, h2.mono (up r)⟩
  · obtain ⟨b, h1, h2, h3, h4⟩ := E.ow i r d h
    have : b ≠ a := fun z => h3 (.inl z)
    exact ⟨b, h1, by rw [upd_ne this]; exact h2.mono (up r), h3, h4⟩
  · have : b ≠ a := fun z => (E.xt i r d b h hb).1 (.inl z)
    rw [upd_ne this]
    exact hv
  · have : b ≠ a := fun z => by
      subst z
      rw [show F.H0 b = some _ from hb] at h0
      cases h0
    rw [upd_ne this]
    exact E.tp b xs hb
theorem Stp.updNew {O O' : Addr → Prop} {o : HO} (s : Stp O H O' H') (h : H a = none) : Stp O H O' (upd H' a o) := ⟨fun b u hb nb => by
  rw [upd_ne (ne_of_none hb h)]
  exact s.kp b u hb nb, fun b hb => by
  by_cases z : b = a
  · rw [z]
    exact h
  · rw [upd_ne z] at hb
    exact s.dom b hb⟩
end
def dLcL (g : DGW) (tt : DTW) (te : DW) (vs : List Nat) (k : Bool → List D → DEnv → Prop) : Items → Bool → List D → DEnv → Prop
  | [], ra, acc, ρ => k ra acc ρ
  | p :: ps, ra, acc, ρ => g p ρ fun ρ2 => tt noX ρ2 fun b ρ3 => ifC b (te noX ρ3 fun y ρ4 => match st ρ4 y.tmp with
      | some (r, d, ρ5) => noPots ρ5 vs = true ∧ dLcL g tt te vs k ps (ra && r) (acc ++ [d]) (wipeD ρ5 vs)
      | none => False)
    (noPots ρ3 vs = true ∧ dLcL g tt te vs k ps ra acc (wipeD ρ3 vs))
@[irreducible] def lcC (g : DGW) (tt : DTW) (te : DW) (vs : List Nat) (k : Bool → List D → DEnv → Prop) (items : Items) (ρ : DEnv) : Prop := dLcL g tt te vs k items true [] ρ
theorem lcC_eq {g : DGW} {tt : DTW} {te : DW} {vs : List Nat} {k : Bool → List D → DEnv → Prop} {items : Items} {ρ : DEnv} : lcC g tt te vs k items ρ = dLcL g tt te vs k items true [] ρ := by unfold lcC; rfl
def dLc (wi : DIW) (g : DGW) (sl : List Nat) (tt : DTW) (te : DW) (vs : List Nat) : DW := fun X ρ R => wi X ρ fun items ρ1 =>
  sl.all (vs.contains ·) = true ∧ noOwn ρ1 vs = true ∧ noPots ρ1 vs = true ∧ items.length ≤ sizeLine ∧
    lcC g tt te vs (fun ra acc ρ => noPots ρ vs = true ∧ R (.fr ra (.lst acc)) (unw ρ ρ1 vs)) items (wipeD ρ1 vs)
theorem wipeD_len (ρ : DEnv) : ∀ vs : List Nat, (wipeD ρ vs).length = ρ.length
  | [] => rfl
  | v :: vs => by rw [wipeD, List.length_set, wipeD_len ρ vs]
section
variable {K : PySem.W.Frag} {W : WXT}
instance {wi : TI} {w : DIW} {g : TG} {wg : DGW} {sl : List Nat} {tt : TT} {wt : DTW} {te : TE} {we : DW} {vs : List Nat} [A : DI K W wi w] [B : DG K g wg sl] [C : DT K W tt wt] [D' : DE K W te we] : DE K W (tLc wi g tt te vs) (dLc w wg sl wt we vs) where
  ok := fun {F σ H ρ X R Q} hK E L h q => A.ok hK E L h fun items ρ1 H1 J h1 E1 s1 wk => by
    obtain ⟨hsl, hno, hnp, hsz, h1⟩ := h1
    rw [lcC_eq] at h1
    intro a ha
    obtain ⟨G, g0, gs, gh, gw, gstop, ggo, gy⟩ := wk
    obtain ⟨n0, nh, nO, npt⟩ := E1.new ha
    have hH : H a = none := s1.dom a ha
    have hKh : (F.hide a).K = K := hK
    have Eh : Env (F.hide a) σ ρ1 (upd H1 a (.lst [])) := E1.hideNew ha (same_new ha) ⟨_, upd_same⟩
    obtain ⟨Ew, sw⟩ := Eh.wiped hnp
    have sH1 : Stp (OwnA σ ρ1) H1 (OwnA σ ρ1) (upd H1 a (.lst [])) := .same (same_new ha)
    have g1 := gs _ _ _ _ _ (gh _ _ _ a (.lst []) g0 ha) (fun r => Eh.rh sw) sw
    refine ⟨fun i m H2 => m = items.length - i ∧ i ≤ items.length ∧ ∃ ra acc vacc ρ2, Env (F.hide a) (wipe σ vs) ρ2 H2 ∧ Stp (OwnA σ ρ1) H1 (OwnA (wipe σ vs) ρ2) H2 ∧ G (F.hide a) (OwnA (wipe σ vs) ρ2) H2 ∧ H2 a = some (.lst vacc) ∧ RepL F.K ((F.hide a).RH (OwnA (wipe σ vs) ρ2) H2 ra) vacc acc ∧ acc.length ≤ i ∧
        dLcL wg wt we vs (fun ra acc ρ => noPots ρ vs = true ∧ R (.fr ra (.lst acc)) (unw ρ ρ1 vs)) (items.drop i) ra acc ρ2,
      ⟨_, rfl, Nat.zero_le _, true, [], [], _, Ew, sH1.trans sw, g1, upd_same, .nil, Nat.le_refl _, h1⟩, ?_⟩
    rintro i m H2 ⟨rfl, hi, ra, acc, vacc, ρ2, E2, s2, g2, ha2, racc, hal, h2⟩
    by_cases hlt : i < items.length
    · refine .inr ⟨ggo _ _ _ i g2 hlt, fun H3 => i + 1 ≤ items.length ∧ ∃ ra acc vacc ρ2, Env (F.hide a) (wipe σ vs) ρ2 H3 ∧ Stp (OwnA σ ρ1) H1 (OwnA (wipe σ vs) ρ2) H3 ∧ G (F.hide a) (OwnA (wipe σ vs) ρ2) H3 ∧ H3 a = some (.lst vacc) ∧ RepL F.K ((F.hide a).RH (OwnA (wipe σ vs) ρ2) H3 ra) vacc acc ∧ acc.length ≤ i + 1 ∧
          dLcL wg wt we vs (fun ra acc ρ => noPots ρ vs = true ∧ R (.fr ra (.lst acc)) (unw ρ ρ1 vs)) (items.drop (i + 1)) ra acc ρ2, fun H3 z => ⟨items.length - (i + 1), by omega, rfl, z⟩, fun x H3 y => ?_⟩
      rw [List.drop_eq_getElem_cons hlt] at h2
      obtain ⟨r, d, hp⟩ : ∃ r d, items[i] = (r, d) := ⟨_, _, rfl⟩
      have hi' : items[i]? = some (r, d) := by rw [List.getElem?_eq_getElem hlt, hp]
      rw [hp] at h2
      obtain ⟨sm, rx⟩ := gy _ _ _ i r d x H3 g2 hi' y
      have E3 := E2.grow sm
      have s3 : Stp (OwnA (wipe σ vs) ρ2) H2 (OwnA (wipe σ vs) ρ2) H3 := .same sm
      refine B.ok hKh E3 (p := (r, d)) rx h2 fun ρ4 σ4 h4 E4 s4 n4 l4 => ?_
      have hw : wipe σ4 vs = wipe σ vs := by
        rw [← wipe_wipe σ vs]
        refine wipe_eq l4 fun j hj => n4 j fun z => hj ?_
        have := List.all_eq_true.mp hsl j z
        simpa using this
      refine ⟨hw, ?_⟩
      have s34 := s3.trans s4
      have nOwn : ∀ {σ' ρ'} {H' : Hp}, Env (F.hide a) σ' ρ' H' → ¬ OwnA σ' ρ' a := fun {σ' ρ' H'} E' z => E'.ownHid z (.inl rfl)
      refine C.ok hKh E4 XLink.no h4 fun b ρ5 H5 h5 E5 s5 => ?_
      have s25 := s34.trans s5
      cases b with
      | true =>
        rw [ifC_t] at h5
        rw [if_pos rfl]
        refine D'.ok hKh E5 XLink.no h5 fun yv ρ6 v6 H6 h6 E6 s6 r6 => ?_
        have s26 := s25.trans s6
        have r6' : RepV (F.hide a) H5 σ4 ρ6 H6 v6 yv.tmp := r6.stp E6 (.refl _ _)
        split at h6
        · rename_i ry dy ρ7 e7
          obtain ⟨E7, s7, p7⟩ := r6'.st E6 e7
          obtain ⟨np7, h7⟩ := h6
          obtain ⟨E8, s8⟩ := E7.wiped np7
          rw [hw] at E8 s8
          have s28 := (s26.trans s7).trans s8
          have ha8 : H6 a = some (.lst vacc) := (s28.kp a _ ha2 (nOwn E2)).1
          have racc8 : RepL F.K ((F.hide a).RH (OwnA (wipe σ vs) (wipeD ρ7 vs)) H6 ra) vacc acc := racc.mono (E2.rh s28)
          have p8 : Rep F.K ((F.hide a).RH (OwnA (wipe σ vs) (wipeD ρ7 vs)) H6 ry) v6 dy := p7.mono (E7.rh s8)
          have g8 := gs _ _ _ _ _ g2 (fun r => E2.rh s28) s28
          have nt : ∀ xs, (HO.lst vacc) ≠ .tup xs := fun _ z => by cases z
          refine ⟨vacc, ha8, by rw [racc.len]; omega, hlt, ra && ry, acc ++ [dy], vacc ++ [v6], wipeD ρ7 vs, E8.hidUpd n0 ha8 nt, (s2.trans s28).updNew ha, gw (F.hide a) _ _ _ _ _ g8 (Or.inl rfl) ha8 nt, upd_same, ?_, by rw [List.length_append, List.length_singleton]; omega, h7⟩
          exact (RepL.both (F := F.hide a) racc8 (.one p8)).mono (rh_hid (F := F.hide a) (Or.inl rfl) ha8 nt _)
        · exact h6.elim
      | false =>
        rw [ifC_f] at h5
        rw [if_neg Bool.false_ne_true]
        obtain ⟨np7, h7⟩ := h5
        obtain ⟨E8, s8⟩ := E5.wiped np7
        rw [hw] at E8 s8
        have s28 := s25.trans s8
        have ha8 : H5 a = some (.lst vacc) := (s28.kp a _ ha2 (nOwn E2)).1
        exact ⟨hlt, ra, acc, vacc, wipeD ρ5 vs, E8, s2.trans s28, gs _ _ _ _ _ g2 (fun r => E2.rh s28) s28, ha8, racc.mono (E2.rh s28), by omega, h7⟩
    · have e : i = items.length := by omega
      subst e
      rw [List.drop_length] at h2
      obtain ⟨np2, h2⟩ := h2
      refine .inl ⟨gstop _ _ _ _ g2 rfl, ?_⟩
      have upx : ∀ r, Same (F.RH (OwnA σ ρ1) H1 r) ((F.hide a).RH (OwnA (wipe σ vs) ρ2) H2 r) := fun r b o hb => by
        obtain ⟨hb1, hb2⟩ := cut_inv hb
        have hba : b ≠ a := ne_of_none hb1 ha
        rcases Classical.em (F.bad (OwnA σ ρ1) r b) with bad | bad
        · rcases hb2 with hb2 | ⟨xs, rfl⟩
          · exact absurd bad hb2
          · exact cut_tup (s2.tup E1 b xs hb1)
        · obtain ⟨k1, k2⟩ := s2.kp b o hb1 fun z => bad (.inr (.inl z))
          refine cut_of k1 fun z => ?_
          rcases z with (z | z) | z | z
          · exact hba z
          · exact bad (.inl z)
          · exact k2 z
          · exact bad (.inr (.inr z))
      obtain ⟨E9, s9, _⟩ := E2.back (σ0 := σ) (ρ0 := ρ1) E1.len (fun v r d z => by
        obtain ⟨u, z1, z2⟩ := E1.sh v r d z
        exact ⟨u, z1, z2.mono (upx r)⟩) (fun i s hi => (E1.raw i s hi).mono upx) np2 hno
      rw [unw_wipe] at E9 s9
      have s19 := s2.trans s9
      refine q _ _ _ _ h2 E9.unhide (s1.trans s19) ⟨a, rfl, hH, nh, n0, rfl, E9, ?_⟩
      rw [ha2]
      exact ⟨vacc, rfl, racc.mono (E2.rh s9)⟩
end
end PW

namespace PW
open PySem PySem.Spec PyProof.Rows L2
/-! ### promises by data, calls -/
abbrev FS := List D → (D → Prop) → (Exn → Prop) → Prop
/-- what is new in H', and tuples -/
noncomputable def newH (H H' : Hp) : Hp := cut (fun a => H a ≠ none) H'
def sp0 (K : PySem.W.Frag) (fs : FS) : Sp := fun vs H Q E => ∃ (ds : List D) (R : D → Prop) (Xd : Exn → Prop), RepL K H vs ds ∧ fs ds R Xd ∧ (∀ d v H', R d → Same H H' → Rep K (newH H H') v d → Q v H') ∧
  ∀ x dd H', Xd x → Same H H' → XRep K (newH H H') dd x → E (.ref (He.ga K x.c)) dd H'
def spP (K : PySem.W.Frag) (fs : FS) : Sp := fun vs H Q E => ∃ (p : Addr) (us : List V) (ds : List D) (R : D → Prop) (Xd : Exn → Prop), vs = .ref p :: us ∧ Pot H p ∧ RepL K (cut (· = p) H) us ds ∧ fs ds R Xd ∧ (∀ d v H', R d → Kp p H H' → Pot H' p → Rep K (newH H H') v d → Q v H') ∧
  ∀ x dd H', Xd x → Kp p H H' → Pot H' p → XRep K (newH H H') dd x → E (.ref (He.ga K x.c)) dd H'
def frame (K : PySem.W.Frag) (H : Hp) (p : Option Addr) : Fr := ⟨K, H, H, H, fun _ _ => False, p, fun _ => False, fun _ => False, fun _ => False, fun _ => False⟩
def slots (ds : List D) (n : Nat) : DEnv := ds.map (fun d => some (.sh false d)) ++ List.replicate (n - ds.length) none
theorem sl_at {ds : List D} {n i : Nat} {s : Sl} (h : (slots ds n)[i]? = some (some s)) : ∃ d, ds[i]? = some d ∧ s = .sh false d := by
  unfold slots at h
  by_cases e : i < ds.length
  · rw [List.getElem?_append_left (by rw [List.length_map]; exact e), List.getElem?_map, List.getElem?_eq_getElem e] at h
    cases h
    exact ⟨_, List.getElem?_eq_getElem e, rfl⟩
  · rw [List.getElem?_append_right (by rw [List.length_map]; omega)] at h
    have := List.mem_of_getElem? h
    rw [List.mem_replicate] at this
    cases this.2
theorem st_at {N : List Str} {vs : List V} {i : Nat} {v : V} (h : vs[i]? = some v) : (start N vs)[i]? = some (some v) := by
  unfold L2.start
  have := (List.getElem?_eq_some_iff.mp h).1
  rw [List.getElem?_append_left (by rw [List.length_map]; exact this), List.getElem?_map, h]
  rfl
theorem env0 {K : PySem.W.Frag} {H : Hp} {N : List Str} {vs : List V} {ds : List D} (h : RepL K H vs ds) : Env (frame K H none) (start N vs) (slots ds N.length) H := by
  have no : ∀ a, ¬ OwnA (start N vs) (slots ds N.length) a := fun a ⟨i, r, d, z, _⟩ => by
    obtain ⟨_, _, z⟩ := sl_at z
    cases z
  have noo : ∀ {i : Nat} {r : Bool} {d : D}, (slots ds N.length)[i]? ≠ some (some (.ow r d)) := fun {i r d} z => by
    obtain ⟨_, _, z⟩ := sl_at z
    cases z
  refine ⟨?_, fun a o z _ _ => .inl z, fun i r d z => ?_, fun i r d z => absurd z noo, fun i j a z => absurd ⟨i, z⟩ (no a), fun a z => (by cases z), fun a z => z.elim, fun i r d z => absurd z noo, fun i r d b z => absurd z noo, fun a z => z.elim, fun a xs z => z, fun a o z _ => z, fun a xs z => z, fun a ns z => z.elim, fun i v z => ?_⟩
  · unfold L2.start slots
    rw [List.length_append, List.length_append, List.length_map, List.length_map, List.length_replicate, List.length_replicate, h.len]
  · obtain ⟨e, z1, z2⟩ := sl_at z
    cases z2
    obtain ⟨v, g1, g2⟩ := h.get z1
    refine ⟨v, st_at g1, g2.mono fun a o ha => cut_of ha fun y => ?_⟩
    rcases y with y | y | ⟨y, _⟩
    · exact y
    · exact no a y
    · cases y
  · obtain ⟨_, _, z⟩ := sl_at z
    cases z
    trivial
theorem frame_new {K : PySem.W.Frag} {H H' : Hp} {p : Option Addr} {O : Addr → Prop} : Same ((frame K H p).RH O H' true) (newH H H') := fun a o h => by
  obtain ⟨h1, h2⟩ := cut_inv h
  rcases h2 with h2 | ⟨xs, rfl⟩
  · exact cut_of h1 fun z => h2 (.inr (.inr ⟨rfl, z⟩))
  · exact cut_tup h1
/-- a def's body by data -/
theorem runX {K : PySem.W.Frag} {fs : FS} {t : TS} {w : DSW} {N : List Str} {vs : List V} {H : Hp} {Q : VK} {E : XK} (A : DS K (fun c d _ H => E c d H) t w) (h : sp0 K fs vs H Q E)
    (k : ∀ ds R Xd, fs ds R Xd → w (fun x _ => Xd x) ⟨fun _ => R .non, fun d _ => R d, fun _ => False, fun _ => False⟩ (slots ds N.length)) : t { nx := fun _ H' => Q .non H', rt := Q } (start N vs) H := by
  obtain ⟨ds, R, Xd, h1, h2, h3, h4⟩ := h
  have same : ∀ {σ ρ} {H' : Hp}, Env (frame K H none) σ ρ H' → Same H H' := fun {σ ρ H'} E' a o z => by
    rcases E'.keep a o z (fun y => by cases y) (fun y => y) with y | ⟨y, _⟩
    · exact y
    · exact y.elim
  refine A.ok (F := frame K H none) rfl (env0 h1) (fun x ρ' σ' dd H' hx E' s' r' => h4 x dd H' hx (same E') (r'.mono frame_new)) (k ds R Xd h2) (fun ρ' σ' H' z E' _ => h3 _ _ _ z (same E') .non) (fun _ _ _ z => z.elim) (fun _ _ _ z => z.elim) fun d ρ' σ' v H' z E' _ r' => h3 _ _ _ z (same E') (r'.mono frame_new)
/-- .. that raises nothing -/
theorem run0 {K : PySem.W.Frag} {fs : FS} {t : TS} {w : DSW} {N : List Str} {vs : List V} {H : Hp} {Q : VK} {E : XK} (A : DS K (fun _ _ _ _ => False) t w) (h : sp0 K fs vs H Q E)
    (k : ∀ ds R Xd, fs ds R Xd → w noX ⟨fun _ => R .non, fun d _ => R d, fun _ => False, fun _ => False⟩ (slots ds N.length)) : t { nx := fun _ H' => Q .non H', rt := Q } (start N vs) H := by
  obtain ⟨ds, R, Xd, h1, h2, h3, h4⟩ := h
  have same : ∀ {σ ρ} {H' : Hp}, Env (frame K H none) σ ρ H' → Same H H' := fun {σ ρ H'} E' a o z => by
    rcases E'.keep a o z (fun y => by cases y) (fun y => y) with y | ⟨y, _⟩
    · exact y
    · exact y.elim
  refine A.ok (F := frame K H none) rfl (env0 h1) XLink.no (k ds R Xd h2) (fun ρ' σ' H' z E' _ => h3 _ _ _ z (same E') .non) (fun _ _ _ z => z.elim) (fun _ _ _ z => z.elim) fun d ρ' σ' v H' z E' _ r' => h3 _ _ _ z (same E') (r'.mono frame_new)
/-! with a pot -/
def potB (ρ : DEnv) : Bool := match (ρ[(0 : Nat)]? : Option (Option Sl)) with
  | some (some (.ow _ .pot)) => true
  | _ => false
def slotsP (ds : List D) (n : Nat) : DEnv := some (Sl.ow true .pot) :: slots ds (n - 1)
theorem envP {K : PySem.W.Frag} {H : Hp} {N : List Str} {p : Addr} {vs : List V} {ds : List D} (hp : Pot H p) (h : RepL K (cut (· = p) H) vs ds) : Env (frame K H (some p)) (start N (.ref p :: vs)) (slotsP ds N.length) H := by
  have sh : ∀ {i : Nat} {s : Sl}, (slotsP ds N.length)[i]? = some (some s) → (i = 0 ∧ s = .ow true .pot) ∨ ∃ j d, i = j + 1 ∧ ds[j]? = some d ∧ s = .sh false d := fun {i s} z => by
    cases i with
    | zero =>
      cases z
      exact .inl ⟨rfl, rfl⟩
    | succ j =>
      obtain ⟨d, z1, z2⟩ := sl_at (show (slots ds (N.length - 1))[j]? = some (some s) from z)
      exact .inr ⟨j, d, rfl, z1, z2⟩
  have s0 : (start N (.ref p :: vs))[0]? = some (some (.ref p)) := st_at rfl
  have ow : ∀ a, OwnA (start N (.ref p :: vs)) (slotsP ds N.length) a → a = p := fun a ⟨i, r, d, z, y⟩ => by
    rcases sh z with ⟨rfl, z⟩ | ⟨_, _, _, _, z⟩
    · cases z
      rcases y with y | y
      · rw [s0] at y
        cases y
        rfl
      · cases y
    · cases z
  obtain ⟨x, y, hx, hy, hxy⟩ := hp
  refine ⟨?_, fun a o z _ _ => .inl z, fun i r d z => ?_, fun i r d z => ?_, fun i j a ⟨r, d, z, _⟩ ⟨r', d', z', _⟩ => ?_, fun a z => ?_, fun a z => z.elim, fun i r d z => ?_, fun i r d b z => ?_, fun a z => z.elim, fun a xs z => z, fun a o z _ => z, fun a xs z => z, fun a ns z => z.elim, fun i v z => ?_⟩
  · unfold L2.start slotsP slots
    have := h.len
    simp only [List.length_cons, List.length_append, List.length_map, List.length_replicate]
    omega
  · rcases sh z with ⟨_, z⟩ | ⟨j, e, rfl, z1, z2⟩
    · cases z
    · cases z2
      obtain ⟨v, g1, g2⟩ := h.get z1
      refine ⟨v, st_at (show (V.ref p :: vs)[j + 1]? = some v from g1), g2.mono fun a o ha => ?_⟩
      obtain ⟨k1, k2⟩ := cut_inv ha
      rcases k2 with k2 | ⟨xs, rfl⟩
      · refine cut_of k1 fun y => ?_
        rcases y with y | y | ⟨y, _⟩
        · exact y
        · exact k2 (ow a y)
        · cases y
      · exact cut_tup k1
  · rcases sh z with ⟨rfl, z⟩ | ⟨_, _, _, _, z⟩
    · cases z
      exact ⟨p, s0, ⟨x, y, hx, hy, hxy⟩, fun z => z, .inr (.inl rfl)⟩
    · cases z
  · rcases sh z with ⟨rfl, _⟩ | ⟨_, _, _, _, z⟩
    · rcases sh z' with ⟨rfl, _⟩ | ⟨_, _, _, _, z⟩
      · rfl
      · cases z
    · cases z
  · cases z
    exact ⟨true, .pot, rfl, rfl, s0⟩
  · rcases sh z with ⟨_, z⟩ | ⟨_, _, _, _, z⟩ <;> cases z
    trivial
  · rcases sh z with ⟨_, z⟩ | ⟨_, _, _, _, z⟩ <;> cases z
    intro z
    cases z
  · rcases sh z with ⟨_, z⟩ | ⟨_, _, _, _, z⟩ <;> cases z <;> trivial
theorem runP {K : PySem.W.Frag} {fs : FS} {t : TS} {w : DSW} {N : List Str} {vs : List V} {H : Hp} {Q : VK} {E : XK} (A : DS K (fun _ _ _ _ => False) t w) (h : spP K fs vs H Q E)
    (k : ∀ ds R Xd, fs ds R Xd → w noX ⟨fun ρ => potB ρ = true ∧ R .non, fun d ρ => potB ρ = true ∧ R d, fun _ => False, fun _ => False⟩ (slotsP ds N.length)) : t { nx := fun _ H' => Q .non H', rt := Q } (start N vs) H := by
  obtain ⟨p, us, ds, R, Xd, rfl, h0, h1, h2, h3, h4⟩ := h
  have kp : ∀ {σ ρ} {H' : Hp}, Env (frame K H (some p)) σ ρ H' → Kp p H H' := fun {σ ρ H'} E' a o n z => by
    rcases E'.keep a o z (fun y => n (Option.some.inj y).symm) (fun y => y) with y | ⟨y, _⟩
    · exact y
    · exact y.elim
  have po : ∀ {σ ρ} {H' : Hp}, Env (frame K H (some p)) σ ρ H' → potB ρ = true → Pot H' p := fun {σ ρ H'} E' b => by
    obtain ⟨r, d, e1, _, e3⟩ := E'.pt p rfl
    unfold potB at b
    rw [e1] at b
    cases d with
    | pot =>
      obtain ⟨a, g1, ⟨x, y, g2, g3, g4⟩, _⟩ := E'.ow 0 r .pot e1
      rw [e3] at g1
      cases g1
      exact ⟨x, y, g2, g3, g4⟩
    | _ => cases b
  refine A.ok (F := frame K H (some p)) rfl (envP h0 h1) XLink.no (k ds R Xd h2) (fun ρ' σ' H' z E' _ => h3 _ _ _ z.2 (kp E') (po E' z.1) .non) (fun _ _ _ z => z.elim) (fun _ _ _ z => z.elim) fun d ρ' σ' v H' z E' _ r' => h3 _ _ _ z.2 (kp E') (po E' z.1) (r'.mono frame_new)
/-! ### what a call gives -/
def frOf (d : D) : DV := match d with
  | .lst _ => .fr true d
  | _ => .v true d
section
variable {F : Fr} {σ : L2.St} {ρ : DEnv} {H H' : Hp} {v : V} {d : D}
theorem new_rh (E : Env F σ ρ H) : Same (newH H H') (F.RH (OwnA σ ρ) H' true) := fun a o h => by
  obtain ⟨h1, h2⟩ := cut_inv h
  rcases h2 with h2 | ⟨xs, rfl⟩
  · have hn : H a = none := Classical.byContradiction h2
    obtain ⟨g1, g2, g3, _⟩ := E.new hn
    refine cut_of h1 fun z => ?_
    rcases z with z | z | ⟨_, z⟩
    · exact g2 z
    · exact g3 z
    · exact z g1
  · exact cut_tup h1
theorem fr_of (E : Env F σ ρ H) (E' : ∀ a, H a = none → (∃ o, H' a = some o) → Env (F.hide a) σ ρ H') (h : Rep F.K (newH H H') v d) : RepV F H σ ρ H' v (frOf d) := by
  cases d with
  | lst ds =>
    have h0 := h
    cases h with
    | @lst a vs _ h1 h2 =>
      obtain ⟨o1, o2⟩ := cut_inv h1
      have hn : H a = none := by
        rcases o2 with o2 | ⟨xs, z⟩
        · exact Classical.byContradiction o2
        · cases z
      obtain ⟨g1, g2, g3, _⟩ := E.new hn
      refine ⟨a, rfl, hn, g2, g1, rfl, E' a hn ⟨_, o1⟩, ?_⟩
      rw [o1]
      refine ⟨vs, rfl, (h0.parts h2 (by simp only [D.dp]; omega)).mono fun b u hb => ?_⟩
      obtain ⟨k1, k2⟩ := cut_inv hb
      obtain ⟨k3, k4⟩ := cut_inv k1
      rcases k2 with k2 | ⟨xs, rfl⟩
      · rcases k4 with k4 | ⟨xs, rfl⟩
        · have hb0 : H b = none := Classical.byContradiction k4
          obtain ⟨n1, n2, n3, _⟩ := E.new hb0
          refine cut_of k3 fun z => ?_
          rcases z with (z | z) | z | ⟨_, z⟩
          · exact k2 z
          · exact n2 z
          · exact n3 z
          · exact z n1
        · exact cut_tup k3
      · exact cut_tup k3
  | _ => exact h.mono (new_rh E)
theorem Env.potStep {p : Addr} {i : Nat} {r : Bool} (E : Env F σ ρ H) (hi : ρ[i]? = some (some (.ow r .pot))) (hs : σ[i]? = some (some (.ref p))) (k : Kp p H H') (hp : Pot H' p) : Env F σ ρ H' ∧ Stp (OwnA σ ρ) H (OwnA σ ρ) H' := by
  have oai : OwnAt σ ρ i p := ⟨r, _, hi, .inl hs⟩
  have oa : OwnA σ ρ p := ⟨i, oai⟩
  obtain ⟨x, y, hx, hy, hxy⟩ := id hp
  have st : Stp (OwnA σ ρ) H (OwnA σ ρ) H' := ⟨fun b o hb nb => ⟨k b o (fun z => nb (z ▸ oa)) hb, nb⟩, fun b hb => by
    by_cases z : b = p
    · rw [z, hxy] at hb
      cases hb
    · exact k.free z hb⟩
  have there : ∀ b, (∃ v, H b = some v) → ∃ v, H' b = some v := fun b ⟨v, hv⟩ => by
    by_cases z : b = p
    · exact ⟨_, by rw [z]; exact hxy⟩
    · exact ⟨v, k _ _ z hv⟩
  refine ⟨⟨E.len, fun b o hb np nx => ?_, fun j rj dj hj => ?_, fun j rj dj hj => ?_, E.inj, E.pt, fun b hb => ⟨there b (E.hidIn b hb).1, (E.hidIn b hb).2⟩, fun j rj dj hj => (E.xo j rj dj hj).same fun b hb v hv => ?_, E.xt, fun b hb => there b (E.pxIn b hb), fun b xs hb => ?_, E.hc, E.tc, E.sc, fun i s hi => (E.raw i s hi).mono fun _ => E.rh st⟩, st⟩
  · have : b ≠ p := fun z => by
      subst z
      obtain ⟨a, g1, _, _, g4⟩ := E.ow i r _ hi
      rw [hs] at g1
      cases g1
      rcases g4 with g4 | g4 | g4
      · rw [hb] at g4
        cases g4
      · exact np g4
      · exact nx g4.1
    rcases E.keep b o hb np nx with z | ⟨l, od, z⟩
    · exact .inl (k _ _ this z)
    · exact .inr ⟨l, od, k _ _ this z⟩
  · obtain ⟨v, g1, g2⟩ := E.sh j rj dj hj
    exact ⟨v, g1, g2.mono (E.rh st)⟩
  · obtain ⟨a, g1, g2, g3⟩ := E.ow j rj dj hj
    refine ⟨a, g1, ?_, g3⟩
    by_cases z : a = p
    · subst z
      have := E.inj j i a ⟨_, _, hj, .inl g1⟩ oai
      subst this
      rw [hi] at hj
      cases hj
      exact ⟨x, y, hx, hy, hxy⟩
    · obtain ⟨u, hu, _⟩ := g2.there
      rw [k _ _ z hu, ← hu]
      exact g2.mono (E.rh st)
  · have : b ≠ p := fun z => by
      subst z
      have := E.inj j i b ⟨_, _, hj, .inr hb⟩ oai
      subst this
      rw [hi] at hj
      cases hj
      cases hb
    exact k _ _ this hv
  · have h5 := E.tp b xs hb
    have : b ≠ p := fun z => by
      subst z
      obtain ⟨u, hu, nu⟩ := E.notup oa
      rw [h5] at hu
      cases hu
      exact nu xs rfl
    exact k _ _ this h5
end
/-! ### calls -/
def noPotL (ps : List (Bool × D)) : Bool := ps.all fun p => match p.2 with
  | .pot => false
  | _ => true
section
variable {K : PySem.W.Frag} {W : WXT}
theorem reps_of {F : Fr} {O : Addr → Prop} {H : Hp} : ∀ {vs : List V} {ps : List (Bool × D)}, Tops F.K F O H vs ps → noPotL ps = true → RepL F.K H vs (ps.map (·.2))
  | _, _, .nil, _ => .nil
  | _, _, .cons (b := p) h g, e => by
    unfold noPotL at e
    rw [List.all_cons, Bool.and_eq_true] at e
    refine .cons (h.rep rh_le fun z => ?_) (reps_of g e.2)
    have e1 := e.1
    have z : p.2 = .pot := z
    rw [z] at e1
    cases e1
/-- a promise, not yet opened -/
@[irreducible] def callC (fs : FS) (ds : List D) (k : D → Prop) (x : Exn → Prop) : Prop := fs ds k x
@[irreducible] def takeC (n : Int) (k : Int → Prop) : Prop := 0 < n ∧ n < 1073741824 ∧ ∀ i, 0 ≤ i → i < n → k i
theorem callC_eq {fs : FS} {ds : List D} {k : D → Prop} {x : Exn → Prop} : callC fs ds k x = fs ds k x := by unfold callC; rfl
theorem takeC_eq {n : Int} {k : Int → Prop} : takeC n k = (0 < n ∧ n < 1073741824 ∧ ∀ i, 0 ≤ i → i < n → k i) := by unfold takeC; rfl
def dCall (fs : FS) (u : DAW) : DW := fun X ρ R => u X ρ fun xs ρ1 => match rds ρ1 xs with
  | some ps => noPotL ps = true ∧ callC fs (ps.map (·.2)) (fun d => R (frOf d) ρ1) (fun _ => False)
  | none => False
instance {fs : FS} {E0 : XK} {t : TA} {u : DAW} [A : DA K W t u] : DE K W (tCall (sp0 K fs) [] E0 t) (dCall fs u) where
  ok := fun {F σ H ρ X R Q} hK E L h q => A.ok hK E L h fun xs ρ1 vs H1 h1 E1 s1 r1 => by
    subst hK
    split at h1
    · rename_i ps e
      rw [callC_eq] at h1
      refine ⟨ps.map (·.2), _, _, ?_, h1.2, fun d v H' hR sm hd => ?_, fun _ _ _ z => z.elim⟩
      · rw [List.append_nil]
        exact reps_of (tops_of E1 r1 e) h1.1
      · exact q _ ρ1 v H' hR (E1.grow sm) (s1.trans (.same sm)) (RepV.early (fr_of E1 (fun a ha he => E1.hideNew ha sm he) hd) s1)
    · exact h1.elim
/-- a def that may raise -/
def dCallX (fs : FS) (u : DAW) : DW := fun X ρ R => u X ρ fun xs ρ1 => match rds ρ1 xs with
  | some ps => noPotL ps = true ∧ callC fs (ps.map (·.2)) (fun d => R (frOf d) ρ1) (fun x => X x ρ1)
  | none => False
theorem XRep.newH {F : Fr} {σ : L2.St} {ρ : DEnv} {H H' : Hp} {dd : Option Addr} {x : Exn} (E : Env F σ ρ H) (h : XRep F.K (newH H H') dd x) : XRep F.K (F.RH (OwnA σ ρ) H' true) dd x := h.mono (new_rh E)
/-- a def with a pot -/
def potAt (ρ : DEnv) (i : Nat) : Bool := match ρ[i]? with
  | some (some (.ow _ .pot)) => true
  | _ => false
theorem potAt_of {ρ : DEnv} {i : Nat} (h : potAt ρ i = true) : ∃ r, ρ[i]? = some (some (.ow r .pot)) := by
  unfold potAt at h
  split at h
  · rename_i r e
    exact ⟨r, e⟩
  · cases h
def dCallP (fs : FS) (u : DAW) : DW := fun X ρ R => u X ρ fun xs ρ1 => match xs with
  | .al i :: ys => potAt ρ1 i = true ∧ match rds ρ1 ys with
    | some ps => noPotL ps = true ∧ callC fs (ps.map (·.2)) (fun d => R (frOf d) ρ1) (fun _ => False)
    | none => False
  | _ => False
theorem RepV.noPot {F : Fr} {Hs : Hp} {σ : L2.St} {ρ : DEnv} {H : Hp} {v : V} {dv : DV} {r : Bool} {d : D} {i : Nat} {p : Addr} {r' : Bool} (E : Env F σ ρ H) (hi : ρ[i]? = some (some (.ow r' .pot))) (hs : σ[i]? = some (some (.ref p))) (h : RepV F Hs σ ρ H v dv) (e : rd ρ dv = some (r, d)) (nd : d ≠ .pot) : Rep F.K (cut (· = p) H) v d := by
  have oa : OwnA σ ρ p := ⟨i, r', _, hi, .inl hs⟩
  have up : ∀ r, Same (F.RH (OwnA σ ρ) H r) (cut (· = p) H) := fun r a o z => by
    obtain ⟨z1, z2⟩ := cut_inv z
    rcases z2 with z2 | ⟨xs, rfl⟩
    · exact cut_of z1 fun (y : a = p) => z2 (.inr (.inl (y ▸ oa)))
    · exact cut_tup z1
  cases dv with
  | v r d =>
    cases e
    exact Rep.mono (up _) h
  | fr r d =>
    cases e
    exact Rep.mono (up _) h.fr_rep
  | al j =>
    simp only [rd] at e
    split at e
    · rename_i r1 d1 hj
      cases e
      obtain ⟨w, h1, h2⟩ := E.sh j _ _ hj
      rw [show σ[j]? = some (some v) from h] at h1
      cases h1
      exact h2.mono (up _)
    · rename_i r1 d1 hj
      obtain ⟨rfl, rfl, hw⟩ := owRd_of e
      obtain ⟨a, h1, h2, _⟩ := E.ow j _ _ hj
      rw [show σ[j]? = some (some v) from h] at h1
      cases h1
      have hap : a ≠ p := fun z => by
        subst z
        have := E.inj j i a ⟨_, _, hj, .inl h⟩ ⟨_, _, hi, .inl hs⟩
        subst this
        rw [hi] at hj
        cases hj
        exact nd rfl
      have hh : RepO F.K (cut (· = p) H) (cut (· = p) H a) d1 := by
        obtain ⟨u, hu, _⟩ := h2.there
        rw [cut_of hu hap, ← hu]
        exact h2.mono (up _)
      exact (hh.top hw).rep (fun _ _ z => z) nd
    · cases e
theorem reps_no {F : Fr} {Hs : Hp} {σ : L2.St} {ρ : DEnv} {H : Hp} {i : Nat} {p : Addr} {r' : Bool} (E : Env F σ ρ H) (hi : ρ[i]? = some (some (.ow r' .pot))) (hs : σ[i]? = some (some (.ref p))) : ∀ {vs : List V} {dvs : List DV} {ps : List (Bool × D)}, Paired (fun v dv => RepV F Hs σ ρ H v dv) vs dvs → rds ρ dvs = some ps → noPotL ps = true → RepL F.K (cut (· = p) H) vs (ps.map (·.2))
  | _, _, _, .nil, e, _ => by
    cases e
    exact .nil
  | _, _, _, .cons (b := x) h g, e, n => by
    simp only [rds] at e
    split at e
    · rename_i q qs hq hqs
      cases e
      unfold noPotL at n
      rw [List.all_cons, Bool.and_eq_true] at n
      refine .cons (h.noPot E hi hs hq fun z => ?_) (reps_no E hi hs g hqs n.2)
      have n1 := n.1
      have z : q.2 = .pot := z
      rw [z] at n1
      cases n1
    · cases e
theorem hide_kp {F : Fr} {σ : L2.St} {ρ : DEnv} {H H' : Hp} {p : Addr} {i : Nat} {r : Bool} (E : Env F σ ρ H) (hi : ρ[i]? = some (some (.ow r .pot))) (hs : σ[i]? = some (some (.ref p))) (k : Kp p H H') (hp : Pot H' p) (a : Addr) (ha : H a = none) (he : ∃ o, H' a = some o) : Env (F.hide a) σ ρ H' := by
  obtain ⟨u, hu, nu⟩ := E.notup ⟨i, r, _, hi, .inl hs⟩
  have hap : a ≠ p := fun z => by
    rw [z, hu] at ha
    cases ha
  obtain ⟨o, ho⟩ := he
  have E1 : Env (F.hide a) σ ρ (upd H a o) := E.hideNew ha (same_new ha) ⟨o, upd_same⟩
  refine (E1.potStep hi hs (H' := H') (fun b q hb hq => ?_) hp).1
  by_cases z : b = a
  · subst z
    rw [upd_same] at hq
    cases hq
    exact ho
  · rw [upd_ne z] at hq
    exact k b q hb hq
instance {fs : FS} {E0 : XK} {t : TA} {u : DAW} [A : DA K W t u] : DE K W (tCall (spP K fs) [] E0 t) (dCallP fs u) where
  ok := fun {F σ H ρ X R Q} hK E L h q => A.ok hK E L h fun xs ρ1 vs H1 h1 E1 s1 r1 => by
    subst hK
    split at h1
    · rename_i i ys
      cases r1 with
      | @cons v _ us _ hv hr =>
        obtain ⟨hp, h1⟩ := h1
        obtain ⟨r, hi⟩ := potAt_of hp
        obtain ⟨p, g1, ⟨x, y, g2⟩, _⟩ := E1.ow i r _ hi
        have g0 : σ[i]? = some (some v) := hv
        rw [g0] at g1
        cases g1
        split at h1
        · rename_i ps e
          rw [callC_eq] at h1
          refine ⟨p, us, ps.map (·.2), _, _, by rw [List.append_nil], ⟨x, y, g2⟩, reps_no E1 hi g0 hr e h1.1, h1.2, fun d v H' hR k hp' hd => ?_, fun _ _ _ z => z.elim⟩
          obtain ⟨E2, s2⟩ := E1.potStep hi g0 k hp'
          exact q _ ρ1 v H' hR E2 (s1.trans s2) (RepV.early (fr_of E1 (fun a ha he => hide_kp E1 hi g0 k hp' a ha he) hd) s1)
        · exact h1.elim
    · exact h1.elim
/-- _law_take -/
def dTake (u : DAW) : DW := fun X ρ R => u X ρ fun xs ρ1 => match xs with
  | [.al i, y] => potAt ρ1 i = true ∧ match rd ρ1 y with
    | some (_, .int n) => takeC n fun k => R (.v true (.int k)) ρ1
    | _ => False
  | _ => False
end
end PW

namespace PW
open PySem PySem.Spec PyProof.Rows L2
def spPot (K : PySem.W.Frag) : Sp := fun vs H Q _ => ∃ (a : Addr) (k : Int) (ns : List Int), vs = [.ref a, .int k] ∧ SqL K H a (ns.map V.int) ∧ ns.length ≤ 1000 ∧ 0 ≤ k ∧ k < 1000 ∧
  ∀ p H', H p = none → Same H H' → Pot H' p → Q (.ref p) H'
def spTake : Sp := fun vs H Q _ => ∃ (p : Addr) (n : Int), vs = [.ref p, .int n] ∧ Pot H p ∧ 0 < n ∧ n < 1073741824 ∧
  ∀ d H', 0 ≤ d → d < n → Kp p H H' → Pot H' p → Q (.int d) H'
end PW

namespace PW
open PySem PySem.Spec PyProof.Rows L2
/-! ### names -/
def Code (c : Nat) : Prop := 97 ≤ c ∧ c ≤ 122
def IsName (x : Str) : Prop := ∃ l : List Nat, x = SX.S l ∧ 1 ≤ l.length ∧ l.length ≤ 4 ∧ ∀ c ∈ l, Code c
structure NamesOk (ns : List Str) : Prop where
  nd : ns.Nodup
  ok : ∀ x ∈ ns, IsName x
def Heads (b : Int) (ws : List Str) : Prop := ∀ (j : Nat) (x : Str), ws[j]? = some x → ∃ l : List Nat, x = SX.S ((97 + ((b + 5 * (j : Int)) % 26).toNat) :: l) ∧ l.length ≤ 3 ∧ ∀ c ∈ l, Code c
theorem Heads.nil (b : Int) : Heads b [] := fun j x h => by simp at h
theorem Heads.snoc {b : Int} {ws : List Str} (h : Heads b ws) {l : List Nat} (hl : l.length ≤ 3) (hc : ∀ c ∈ l, Code c) : Heads b (ws ++ [SX.S ((97 + ((b + 5 * (ws.length : Int)) % 26).toNat) :: l)]) := fun j x e => by
  by_cases hj : j < ws.length
  · rw [List.getElem?_append_left hj] at e
    exact h j x e
  · rw [List.getElem?_append_right (by omega)] at e
    by_cases hz : j - ws.length = 0
    · have ej : j = ws.length := by omega
      rw [hz] at e
      have ex : SX.S ((97 + ((b + 5 * (ws.length : Int)) % 26).toNat) :: l) = x := Option.some.inj e
      subst ej
      exact ⟨l, ex.symm, hl, hc⟩
    · obtain ⟨k, hk⟩ : ∃ k, j - ws.length = k + 1 := ⟨j - ws.length - 1, by omega⟩
      rw [hk] at e
      simp at e
theorem Heads.ok {b : Int} {ws : List Str} (h : Heads b ws) (hl : ws.length ≤ 9) : NamesOk ws where
  nd := by
    unfold List.Nodup
    rw [List.pairwise_iff_getElem]
    intro i j hi hj hij e
    obtain ⟨l1, e1, _, _⟩ := h i _ (List.getElem?_eq_getElem hi)
    obtain ⟨l2, e2, _, _⟩ := h j _ (List.getElem?_eq_getElem hj)
    rw [e1, e2] at e
    have e3 := (List.cons.inj (SX.S_inj e)).1
    omega
  ok := fun x hx => by
    obtain ⟨j, hj, e⟩ := List.getElem_of_mem hx
    obtain ⟨l, e1, h1, h2⟩ := h j x (by rw [← e]; exact List.getElem?_eq_getElem hj)
    refine ⟨_, e1, by simp, by simp; omega, fun c hc => ?_⟩
    rcases List.mem_cons.mp hc with rfl | hc
    · unfold Code
      omega
    · exact h2 c hc
theorem ixN_of {n : Nat} {i : Int} {j : Nat} (e : i = (j : Int)) (h : j < n) : ixN n i = some j := by
  subst e
  unfold ixN
  rw [if_pos (by omega), if_pos (by omega)]
  simp
theorem atI_of {α : Type} {xs : List α} {i : Int} {j : Nat} {v : α} (e : i = (j : Int)) (h : xs[j]? = some v) : atI xs i = some v := by
  have hj : j < xs.length := (List.getElem?_eq_some_iff.mp h).1
  unfold atI
  rw [ixN_of e hj]
  exact h
theorem letters_eq : ("abcdefghijklmnopqrstuvwxyz" : Str).cps.toList = List.range' 97 26 := by decide +kernel
theorem letters_at {i : Int} (h0 : 0 ≤ i) (h1 : i < 26) : atI ("abcdefghijklmnopqrstuvwxyz" : Str).cps.toList i = some (97 + i.toNat) := by
  rw [letters_eq]
  refine atI_of (j := i.toNat) (show i = ((i.toNat : Nat) : Int) by omega) ?_
  rw [List.getElem?_range' (by omega), Nat.one_mul]
theorem letters_len : ("abcdefghijklmnopqrstuvwxyz" : Str).length ≤ sizeLine := by decide +kernel
theorem code_of {i : Int} (h0 : 0 ≤ i) (h1 : i < 26) : Code (97 + i.toNat) := ⟨by omega, by omega⟩
theorem small_size {n : Nat} (h : n ≤ 1000) : n ≤ sizeLine := Nat.le_of_lt (small1000 h)
def spNames : Sp := fun vs H Q _ => ∃ (p : Addr) (n : Int), vs = [.ref p, .int n] ∧ Pot H p ∧ 1 ≤ n ∧ n ≤ 9 ∧
  ∀ r ns H', NamesOk ns → ns.length = n.toNat → H r = none → Kp p H H' → Pot H' p → H' r = some (.lst (ns.map V.str)) → Q (.ref r) H'
theorem all_snocC {l : List Nat} {x : Nat} (h : ∀ y ∈ l, Code y) (hx : Code x) : ∀ y ∈ l ++ [x], Code y := fun y hy => by
  rcases List.mem_append.mp hy with hy | hy
  · exact h y hy
  · rw [List.mem_singleton.mp hy]
    exact hx
end PW

namespace PW
open PySem PySem.Spec PyProof.Rows L2
/-! ### lists that hold what another holds, in another order -/
theorem perm_of_map {α β : Type} {f : α → β} : ∀ {ys zs : List β}, ys.Perm zs → ∀ l : List α, zs = l.map f → ∃ l' : List α, ys = l'.map f ∧ l'.Perm l := by
  intro ys zs h
  induction h with
  | nil =>
    intro l e
    have : l = [] := by
      cases l with
      | nil => rfl
      | cons a b => cases e
    subst this
    exact ⟨[], rfl, .nil⟩
  | cons x _ ih =>
    intro l e
    cases l with
    | nil => cases e
    | cons a b =>
      rw [List.map_cons] at e
      obtain ⟨e1, e2⟩ := List.cons.inj e
      obtain ⟨l', h1, h2⟩ := ih b e2
      exact ⟨a :: l', by rw [List.map_cons, e1, h1], h2.cons a⟩
  | swap x y r =>
    intro l e
    match l, e with
    | [], e => cases e
    | [_], e => cases e
    | a :: b :: c, e =>
      rw [List.map_cons, List.map_cons] at e
      obtain ⟨e1, e2⟩ := List.cons.inj e
      obtain ⟨e3, e4⟩ := List.cons.inj e2
      exact ⟨b :: a :: c, by rw [List.map_cons, List.map_cons, e1, e3, e4], .swap a b c⟩
  | trans _ _ ih1 ih2 =>
    intro l e
    obtain ⟨l1, a1, b1⟩ := ih2 l e
    obtain ⟨l2, a2, b2⟩ := ih1 l1 a1
    exact ⟨l2, a2, b2.trans b1⟩
theorem perm_insert {α : Type} (ys : List α) (x : α) (n : Nat) : (ys.take n ++ [x] ++ ys.drop n).Perm (ys ++ [x]) := by
  have h1 : (ys.take n ++ [x] ++ ys.drop n).Perm (ys.take n ++ (ys.drop n ++ [x])) := by
    rw [List.append_assoc]
    exact List.Perm.append_left _ List.perm_append_comm
  rw [← List.append_assoc, List.take_append_drop] at h1
  exact h1
theorem take_snoc {α : Type} {xs : List α} {i : Nat} {x : α} (h : xs[i]? = some x) : xs.take (i + 1) = xs.take i ++ [x] := by
  rw [List.take_add_one, h]
  rfl
/-! ### ties -/
abbrev Ats := List (Addr × Str × Str)
def Ats.vals (l : Ats) : List V := l.map fun x => V.ref x.1
def Ats.ties (l : Ats) : List (Str × Str) := l.map fun x => x.2
def TieOk (ns : List Str) (t : Str × Str) : Prop := t.1 ∈ ns ∧ t.2 ∈ ns ∧ t.1 ≠ t.2
def TupsAt (H : Hp) (l : Ats) : Prop := ∀ x ∈ l, H x.1 = some (.tup [.str x.2.1, .str x.2.2])
theorem TupsAt.nil (H : Hp) : TupsAt H [] := fun x h => by simp at h
theorem TupsAt.same {H H' : Hp} {l : Ats} (h : TupsAt H l) (e : Same H H') : TupsAt H' l := fun x hx => e _ _ (h x hx)
theorem TupsAt.kp {H H' : Hp} {l : Ats} {p : Addr} (h : TupsAt H l) (hp : Pot H p) (e : Kp p H H') : TupsAt H' l := fun x hx => by
  obtain ⟨a, b, _, _, z⟩ := hp
  exact e _ _ (ne_of (h x hx) z (by intro q; cases q)) (h x hx)
theorem TupsAt.snoc {H : Hp} {l : Ats} {x : Addr × Str × Str} (h : TupsAt H l) (hx : H x.1 = some (.tup [.str x.2.1, .str x.2.2])) : TupsAt H (l ++ [x]) := fun y hy => by
  rcases List.mem_append.mp hy with hy | hy
  · exact h y hy
  · rw [List.mem_singleton.mp hy]
    exact hx
theorem TupsAt.upd {H : Hp} {l : Ats} {q : Addr} {xs ys : List V} (h : TupsAt H l) (e : H q = some (.lst xs)) : TupsAt (L2.upd H q (.lst ys)) l := fun x hx => by
  rw [upd_ne (ne_of (h x hx) e (by intro z; cases z))]
  exact h x hx
theorem TupsAt.perm {H : Hp} {l l' : Ats} (h : TupsAt H l) (e : l'.Perm l) : TupsAt H l' := fun x hx => h x (e.mem_iff.mp hx)
theorem Pot.tup_ne {H : Hp} {p q : Addr} {xs : List V} (h : Pot H p) (e : H q = some (.tup xs)) : q ≠ p := by
  obtain ⟨a, b, _, _, z⟩ := h
  exact ne_of e z (by intro w; cases w)
def spMixed : Sp := fun vs H Q _ => ∃ (p a : Addr) (xs : List V), vs = [.ref p, .ref a] ∧ Pot H p ∧ a ≠ p ∧ H a = some (.lst xs) ∧ xs.length ≤ 1000 ∧
  ∀ r ys H', ys.Perm xs → H r = none → Kp p H H' → Pot H' p → H' r = some (.lst ys) → Q (.ref r) H'
def spTie : Sp := fun vs H Q _ => ∃ (p a : Addr) (ns : List Str), vs = [.ref p, .ref a] ∧ Pot H p ∧ a ≠ p ∧ H a = some (.lst (ns.map V.str)) ∧ ns.Nodup ∧ 2 ≤ ns.length ∧ ns.length ≤ 1000 ∧
  ∀ t x y H', TieOk ns (x, y) → H t = none → Kp p H H' → Pot H' p → H' t = some (.tup [.str x, .str y]) → Q (.ref t) H'
theorem nodup_ne {ns : List Str} (h : ns.Nodup) {i j : Nat} {x y : Str} (hi : ns[i]? = some x) (hj : ns[j]? = some y) (ne : i ≠ j) : x ≠ y := by
  obtain ⟨h1, e1⟩ := List.getElem?_eq_some_iff.mp hi
  obtain ⟨h2, e2⟩ := List.getElem?_eq_some_iff.mp hj
  unfold List.Nodup at h
  rw [List.pairwise_iff_getElem] at h
  rw [← e1, ← e2]
  rcases Nat.lt_or_gt_of_ne ne with z | z
  · exact h i j h1 h2 z
  · exact fun q => h j i h2 h1 z q.symm
theorem nodup_len : ∀ {ms ns : List Str}, ms.Nodup → (∀ x ∈ ms, x ∈ ns) → ms.length ≤ ns.length
  | [], _, _, _ => Nat.zero_le _
  | x :: r, ns, nd, h => by
    have hx : x ∈ ns := h x List.mem_cons_self
    obtain ⟨nx, nr⟩ := List.nodup_cons.mp nd
    have h2 : ∀ y ∈ r, y ∈ ns.erase x := fun y hy => by
      have ne : y ≠ x := fun e => nx (e ▸ hy)
      exact (List.mem_erase_of_ne ne).mpr (h y (List.mem_cons_of_mem _ hy))
    have h3 := nodup_len nr h2
    rw [List.length_erase_of_mem hx] at h3
    have h4 : 0 < ns.length := List.length_pos_of_mem hx
    rw [List.length_cons]
    omega
end PW

namespace PW
open PySem PySem.Spec PyProof.Rows L2
theorem ring_at {xs : List Str} (hn : 2 ≤ xs.length) (nd : xs.Nodup) {k : Int} (h0 : 0 ≤ k) (h1 : k < xs.length) :
    ∃ x y, atI (xs.map V.str) (k - 1) = some (.str x) ∧ atI (xs.map V.str) k = some (.str y) ∧ TieOk xs (x, y) := by
  have hk : k.toNat < xs.length := by omega
  have g : ∀ j : Nat, (h : j < xs.length) → (xs.map V.str)[j]? = some (.str xs[j]) := fun j h => by
    rw [List.getElem?_map, List.getElem?_eq_getElem h]
    rfl
  by_cases hz : k = 0
  · have hl : xs.length - 1 < xs.length := by omega
    refine ⟨xs[xs.length - 1], xs[k.toNat], ?_, atI_of (show k = ((k.toNat : Nat) : Int) by omega) (g _ hk), List.getElem_mem hl, List.getElem_mem hk, nodup_ne nd (List.getElem?_eq_getElem hl) (List.getElem?_eq_getElem hk) (by omega)⟩
    subst hz
    unfold atI ixN
    rw [if_neg (by omega), List.length_map, if_pos (by omega)]
    show (xs.map V.str)[((0 : Int) - 1 + (xs.length : Int)).toNat]? = _
    rw [show ((0 : Int) - 1 + (xs.length : Int)).toNat = xs.length - 1 by omega]
    exact g _ hl
  · have hl : (k - 1).toNat < xs.length := by omega
    exact ⟨xs[(k - 1).toNat], xs[k.toNat], atI_of (show k - 1 = (((k - 1).toNat : Nat) : Int) by omega) (g _ hl), atI_of (show k = ((k.toNat : Nat) : Int) by omega) (g _ hk), List.getElem_mem hl, List.getElem_mem hk, nodup_ne nd (List.getElem?_eq_getElem hl) (List.getElem?_eq_getElem hk) (by omega)⟩
theorem TieOk.perm {ns ms : List Str} {t : Str × Str} (h : TieOk ns t) (e : ns.Perm ms) : TieOk ms t := ⟨e.mem_iff.mp h.1, e.mem_iff.mp h.2.1, h.2.2⟩
theorem Ats.vals_len (l : Ats) : l.vals.length = l.length := by
  unfold Ats.vals
  rw [List.length_map]
theorem Ats.vals_snoc (l : Ats) (x : Addr × Str × Str) : Ats.vals (l ++ [x]) = l.vals ++ [V.ref x.1] := by
  unfold Ats.vals
  rw [List.map_append]
  rfl
theorem Ats.vals_at {l : Ats} {i : Nat} {v : V} (h : l.vals[i]? = some v) : ∃ x, l[i]? = some x ∧ v = V.ref x.1 := by
  unfold Ats.vals at h
  rw [List.getElem?_map] at h
  cases e : l[i]? with
  | none =>
    rw [e] at h
    cases h
  | some x =>
    rw [e] at h
    exact ⟨x, rfl, (Option.some.inj h).symm⟩
theorem ints_at {ts : List Int} {i : Nat} {v : V} (h : (ts.map V.int)[i]? = some v) : ∃ x, ts[i]? = some x ∧ v = V.int x := by
  rw [List.getElem?_map] at h
  cases e : ts[i]? with
  | none =>
    rw [e] at h
    cases h
  | some x =>
    rw [e] at h
    exact ⟨x, rfl, (Option.some.inj h).symm⟩
theorem strs_at {ts : List Str} {i : Nat} {v : V} (h : (ts.map V.str)[i]? = some v) : ∃ x, ts[i]? = some x ∧ v = V.str x := by
  rw [List.getElem?_map] at h
  cases e : ts[i]? with
  | none =>
    rw [e] at h
    cases h
  | some x =>
    rw [e] at h
    exact ⟨x, rfl, (Option.some.inj h).symm⟩
theorem all_snoc {α : Type} {P : α → Prop} {l : List α} {x : α} (h : ∀ y ∈ l, P y) (hx : P x) : ∀ y ∈ l ++ [x], P y := fun y hy => by
  rcases List.mem_append.mp hy with hy | hy
  · exact h y hy
  · rw [List.mem_singleton.mp hy]
    exact hx
def spWeb : Sp := fun vs H Q _ => ∃ (p : Addr) (pts most : Int), vs = [.ref p, .int pts, .int most] ∧ Pot H p ∧ 1 ≤ pts ∧ pts ≤ 9 ∧ pts ≤ most ∧ most ≤ 20 ∧
  ∀ t a b ns (ats : Ats) H', NamesOk ns → 1 ≤ ns.length → (ns.length : Int) ≤ pts → (ats.length : Int) ≤ most → (∀ x ∈ ats, TieOk ns x.2) → H t = none → H a = none → H b = none → a ≠ b → Kp p H H' → Pot H' p →
    H' t = some (.tup [.ref a, .ref b]) → H' a = some (.lst (ns.map V.str)) → H' b = some (.lst ats.vals) → TupsAt H' ats → Q (.ref t) H'
theorem Ats.ties_len (l : Ats) : l.ties.length = l.length := by
  unfold Ats.ties
  rw [List.length_map]
theorem Ats.ties_at {l : Ats} {i : Nat} {x : Addr × Str × Str} (h : l[i]? = some x) : l.ties[i]? = some x.2 := by
  unfold Ats.ties
  rw [List.getElem?_map, h]
  rfl
theorem Ats.ties_snoc (l : Ats) (x : Addr × Str × Str) : Ats.ties (l ++ [x]) = l.ties ++ [x.2] := by
  unfold Ats.ties
  rw [List.map_append]
  rfl
theorem same_filter {ns xs : List Str} (i : Nat) {z : Str} (h : ns[i]? = some z) : ((ns.take (i + 1)).filter fun z => decide (z ∈ xs)) = if z ∈ xs then ((ns.take i).filter fun z => decide (z ∈ xs)) ++ [z] else ((ns.take i).filter fun z => decide (z ∈ xs)) := by
  rw [take_snoc h, List.filter_append, List.filter_cons, List.filter_nil]
  by_cases hz : z ∈ xs
  · rw [decide_eq_true hz, if_pos hz]
    rfl
  · rw [decide_eq_false hz, if_neg hz]
    simp
end PW

namespace PW
open PySem PySem.Spec PyProof.Rows L2
section
variable {K : PySem.W.Frag} {W : WXT}
/-! ### draws -/
instance {E0 : XK} {t : TA} {u : DAW} [A : DA K W t u] : DE K W (tCall spTake [] E0 t) (dTake u) where
  ok := fun {F σ H ρ X R Q} hK E L h q => A.ok hK E L h fun xs ρ1 vs H1 h1 E1 s1 r1 => by
    split at h1
    · rename_i i y
      obtain ⟨v, w, rfl, hv, hw⟩ := paired2 r1
      obtain ⟨hp, h1⟩ := h1
      obtain ⟨r, hi⟩ := potAt_of hp
      obtain ⟨p, g1, ⟨x, y', g2⟩, _⟩ := E1.ow i r _ hi
      have g0 : σ[i]? = some (some v) := hv
      rw [g0] at g1
      cases g1
      split at h1
      · rename_i rn n e
        cases (show w = .int n from hw.top E1 e)
        rw [takeC_eq] at h1
        refine ⟨p, n, rfl, ⟨x, y', g2⟩, h1.1, h1.2.1, fun d H' d0 d1 k hp' => ?_⟩
        obtain ⟨E2, s2⟩ := E1.potStep hi g0 k hp'
        exact q _ ρ1 _ H' (h1.2.2 d d0 d1) E2 (s1.trans s2) (.int d)
      · exact h1.elim
    · exact h1.elim
theorem Env.lessHid {F : Fr} {σ : L2.St} {ρ : DEnv} {H : Hp} (E : Env F σ ρ H) {hid' : Addr → Prop} (h : ∀ b, hid' b → F.hid b) : Env { F with hid := hid' } σ ρ H := by
  have up : ∀ r, Same (F.RH (OwnA σ ρ) H r) (Fr.RH { F with hid := hid' } (OwnA σ ρ) H r) := fun r => by
    refine cut_mono (fun b o hb nb => ⟨hb, fun z => ?_⟩) fun b xs hb _ => hb
    rcases z with z | z | z
    · exact nb (.inl (h b z))
    · exact nb (.inr (.inl z))
    · exact nb (.inr (.inr z))
  refine ⟨E.len, E.keep, fun i r d z => ?_, fun i r d z => ?_, E.inj, E.pt, fun b hb => E.hidIn b (h b hb), E.xo, fun i r d b z hb => ⟨fun y => (E.xt i r d b z hb).1 (h b y), (E.xt i r d b z hb).2⟩, E.pxIn, E.tp, E.hc, E.tc, E.sc, fun i s hi => (E.raw i s hi).mono up⟩
  · obtain ⟨v, h1, h2⟩ := E.sh i r d z
    exact ⟨v, h1, h2.mono (up r)⟩
  · obtain ⟨b, h1, h2, h3, h4⟩ := E.ow i r d z
    exact ⟨b, h1, h2.mono (up r), fun z => h3 (h b z), h4⟩
/-- a hidden thing changes -/
theorem Env.hidStep {F : Fr} {σ : L2.St} {ρ : DEnv} {H H' : Hp} {p : Addr} {u u' : HO} (E : Env F σ ρ H) (hh : F.hid p) (h0 : F.H0 p = none) (k : Kp p H H') (hp : H p = some u) (nt : ∀ xs, u ≠ .tup xs) (hp' : H' p = some u') : Env F σ ρ H' ∧ Stp (fun a => OwnA σ ρ a ∨ a = p) H (fun a => OwnA σ ρ a ∨ a = p) H' := by
  have up : ∀ r, Same (F.RH (OwnA σ ρ) H r) (F.RH (OwnA σ ρ) H' r) := fun r => by
    refine cut_mono (fun b o hb nb => ⟨k b o (fun z => nb (.inl (z ▸ hh))) hb, nb⟩) fun b xs hb _ => k b _ (fun z => ?_) hb
    subst z
    rw [hp] at hb
    cases hb
    exact nt xs rfl
  have there : ∀ b, (∃ v, H b = some v) → ∃ v, H' b = some v := fun b ⟨v, hv⟩ => by
    by_cases z : b = p
    · exact ⟨_, by rw [z]; exact hp'⟩
    · exact ⟨v, k _ _ z hv⟩
  refine ⟨⟨E.len, fun b o hb np nx => ?_, fun i r d z => ?_, fun i r d z => ?_, E.inj, E.pt, fun b hb => ⟨there b (E.hidIn b hb).1, (E.hidIn b hb).2⟩, fun i r d z => (E.xo i r d z).same fun b hb v hv => k _ _ (fun y => (E.xt i r d b z hb).1 (y ▸ hh)) hv, E.xt, fun b hb => there b (E.pxIn b hb), fun b xs hb => k _ _ (fun y => ?_) (E.tp b xs hb), E.hc, E.tc, E.sc, fun i s hi => (E.raw i s hi).mono up⟩, ⟨fun a o ha na => ⟨k a o (fun z => na (.inr z)) ha, na⟩, fun a ha => ?_⟩⟩
  · have : b ≠ p := fun z => by
      rw [z, h0] at hb
      cases hb
    rcases E.keep b o hb np nx with z | ⟨l, od, z⟩
    · exact .inl (k _ _ this z)
    · exact .inr ⟨l, od, k _ _ this z⟩
  · obtain ⟨v, h1, h2⟩ := E.sh i r d z
    exact ⟨v, h1, h2.mono (up r)⟩
  · obtain ⟨b, h1, h2, h3, h4⟩ := E.ow i r d z
    have : b ≠ p := fun z => h3 (z ▸ hh)
    obtain ⟨w, hw, _⟩ := h2.there
    refine ⟨b, h1, ?_, h3, h4⟩
    rw [k _ _ this hw, ← hw]
    exact h2.mono (up r)
  · subst y
    rw [hb] at h0
    cases h0
  · by_cases z : a = p
    · rw [z, hp'] at ha
      cases ha
    · exact k.free z ha
/-- the script's slot -/
def scrAt (ρ : DEnv) (i : Nat) (k : List Int → Prop) : Prop := match ρ[i]? with
  | some (some (.scr ns)) => k ns
  | _ => False
theorem scr_sq {F : Fr} {σ : L2.St} {ρ : DEnv} {H : Hp} {a : Addr} {ns : List Int} (E : Env F σ ρ H) (h : ScrAt F a ns) : SqL F.K H a (ns.map V.int) := by
  rcases h with ⟨h1, h2, h3, h4⟩ | h1
  · rcases h1 with h1 | ⟨o, h1⟩
    · rcases E.keep a _ h1 h2 h4 with z | ⟨z, _⟩
      · exact .inl (.inl z)
      · exact absurd z h3
    · rcases E.keep a _ h1 h2 h4 with z | ⟨z, _⟩
      · exact .inl (.inr ⟨o, z⟩)
      · exact absurd z h3
  · rcases h1 with (h1 | ⟨_, h1⟩) | h1
    · cases h1
    · cases h1
    · exact .inr h1
/-- len(x), of the script too -/
def dLenV (i : Nat) : DW := fun X ρ R => match ρ[i]? with
  | some (some (.scr ns)) => R (.v true (.int (ns.length : Nat))) ρ
  | _ => dCB dLenG (dCons (dVar i) dNil) X ρ R
instance (priority := high) {i : Nat} : DE K W (tCB (rLenG K) (tCons (tVar i) tNil)) (dLenV i) where
  ok := fun {F σ H ρ X R Q} hK E L h q => by
    unfold dLenV at h
    split at h
    · rename_i ns e
      subst hK
      obtain ⟨a, g1, g2⟩ := E.raw i _ e
      refine ⟨_, g1, .inl ⟨_, _, rfl, .inl ⟨_, scr_sq E (E.sc _ _ g2), rfl⟩, ?_⟩⟩
      rw [List.length_map]
      exact q _ ρ _ H h E (.refl _ _) (.int _)
    · have A : DE K W (tCB (rLenG K) (tCons (tVar i) tNil)) (dCB dLenG (dCons (dVar i) dNil)) := inferInstance
      exact A.ok hK E L h q
/-- a new pot -/
def dPotNew (j i : Nat) (w : DW) : DSW := fun X E ρ => scrAt ρ i fun ns => ns.length ≤ 1000 ∧ w X ρ fun y ρ1 => match rd ρ1 y with
  | some (_, .int k) => 0 ≤ k ∧ k < 1000 ∧ j < ρ1.length ∧ noPotB ρ1 j = true ∧ E.nx (ρ1.set j (some (.ow true .pot)))
  | _ => False
instance {E0 : XK} {i j : Nat} {t : TE} {w : DW} [A : DE K W t w] : DS K W (tAsg (tCall (spPot K) [] E0 (tCons (tVar i) (tCons t tNil))) (gName j)) (dPotNew j i w) where
  ok := fun {F σ H ρ X E Dn} hK En L h nx bk ct rt => by
    subst hK
    unfold dPotNew scrAt at h
    split at h
    · rename_i ns e
      obtain ⟨a, g1, g2⟩ := En.raw i _ e
      refine ⟨_, g1, A.ok rfl En L h.2 fun y ρ1 v H1 h1 E1 s1 r1 => ?_⟩
      split at h1
      · rename_i r k ek
        cases (show v = .int k from r1.top E1 ek)
        refine ⟨a, k, ns, rfl, scr_sq E1 (E1.sc _ _ g2), h.1, h1.1, h1.2.1, fun p H' hp sm ⟨x, y', p1, p2, p3⟩ => ?_⟩
        obtain ⟨n1, n2, n3, _⟩ := E1.new hp
        have E2 : Env (F.hide p) σ ρ1 H' := E1.hideNew hp sm ⟨_, p3⟩
        obtain ⟨E3, s3⟩ := E2.setOw (r := true) (d := .pot) (noPot_of h1.2.2.2.1) h1.2.2.1 n1 n2 rfl ⟨x, y', p1, p2, p3⟩
        exact nx _ _ H' h1.2.2.2.2 E3 (s3 _ H (s1.dom _ hp) (s1.trans (.same sm)))
      · exact h1.elim
    · exact h.elim
/-- f(_law_pot(script, k), ..) -/
def dCallPN (fs : FS) (i : Nat) (w : DW) (u : DAW) : DW := fun X ρ R => scrAt ρ i fun ns => ns.length ≤ 1000 ∧ w X ρ fun y ρ1 => match rd ρ1 y with
  | some (_, .int k) => 0 ≤ k ∧ k < 1000 ∧ u noX ρ1 fun ys ρ2 => match rds ρ2 ys with
    | some ps => noPotL ps = true ∧ callC fs (ps.map (·.2)) (fun d => R (frOf d) ρ2) (fun _ => False)
    | none => False
  | _ => False
theorem RepV.noHid {F : Fr} {Hs : Hp} {σ : L2.St} {ρ : DEnv} {H : Hp} {v : V} {dv : DV} {r : Bool} {d : D} {p : Addr} (E : Env F σ ρ H) (hh : F.hid p) (h : RepV F Hs σ ρ H v dv) (e : rd ρ dv = some (r, d)) (nd : d ≠ .pot) : Rep F.K (cut (· = p) H) v d := by
  have up : ∀ r, Same (F.RH (OwnA σ ρ) H r) (cut (· = p) H) := fun r a o z => by
    obtain ⟨z1, z2⟩ := cut_inv z
    rcases z2 with z2 | ⟨xs, rfl⟩
    · exact cut_of z1 fun (y : a = p) => z2 (.inl (y ▸ hh))
    · exact cut_tup z1
  cases dv with
  | v r d =>
    cases e
    exact Rep.mono (up _) h
  | fr r d =>
    cases e
    exact Rep.mono (up _) h.fr_rep
  | al j =>
    simp only [rd] at e
    split at e
    · rename_i r1 d1 hj
      cases e
      obtain ⟨w, h1, h2⟩ := E.sh j _ _ hj
      rw [show σ[j]? = some (some v) from h] at h1
      cases h1
      exact h2.mono (up _)
    · rename_i r1 d1 hj
      obtain ⟨rfl, rfl, hw⟩ := owRd_of e
      obtain ⟨a, h1, h2, h3, _⟩ := E.ow j _ _ hj
      rw [show σ[j]? = some (some v) from h] at h1
      cases h1
      have hap : a ≠ p := fun z => h3 (z ▸ hh)
      have hq : RepO F.K (cut (· = p) H) (cut (· = p) H a) d1 := by
        obtain ⟨u, hu, _⟩ := h2.there
        rw [cut_of hu hap, ← hu]
        exact h2.mono (up _)
      exact (hq.top hw).rep (fun _ _ z => z) nd
    · cases e
theorem reps_hid {F : Fr} {Hs : Hp} {σ : L2.St} {ρ : DEnv} {H : Hp} {p : Addr} (E : Env F σ ρ H) (hh : F.hid p) : ∀ {vs : List V} {dvs : List DV} {ps : List (Bool × D)}, Paired (fun v dv => RepV F Hs σ ρ H v dv) vs dvs → rds ρ dvs = some ps → noPotL ps = true → RepL F.K (cut (· = p) H) vs (ps.map (·.2))
  | _, _, _, .nil, e, _ => by
    cases e
    exact .nil
  | _, _, _, .cons (b := x) h g, e, n => by
    simp only [rds] at e
    split at e
    · rename_i q qs hq hqs
      cases e
      unfold noPotL at n
      rw [List.all_cons, Bool.and_eq_true] at n
      refine .cons (h.noHid E hh hq fun z => ?_) (reps_hid E hh g hqs n.2)
      have n1 := n.1
      have z : q.2 = .pot := z
      rw [z] at n1
      cases n1
    · cases e
instance {fs : FS} {E0 E1 : XK} {i : Nat} {t : TE} {w : DW} {ta : TA} {u : DAW} [A : DE K W t w] [B : DA K W ta u] : DE K W (tCall (spP K fs) [] E0 (tCons (tCall (spPot K) [] E1 (tCons (tVar i) (tCons t tNil))) ta)) (dCallPN fs i w u) where
  ok := fun {F σ H ρ X R Q} hK E L h q => by
    subst hK
    unfold dCallPN scrAt at h
    split at h
    · rename_i ns e
      obtain ⟨a, g1, g2⟩ := E.raw i _ e
      refine ⟨_, g1, A.ok rfl E L h.2 fun y ρ1 v H1 h1 E1 s1 r1 => ?_⟩
      split at h1
      · rename_i r k ek
        cases (show v = .int k from r1.top E1 ek)
        refine ⟨a, k, ns, rfl, scr_sq E1 (E1.sc _ _ g2), h.1, h1.1, h1.2.1, fun p H2 hp sm hpot => ?_⟩
        obtain ⟨x, y', p1, p2, p3⟩ := id hpot
        obtain ⟨n1, n2, n3, _⟩ := E1.new hp
        have E2 : Env (F.hide p) σ ρ1 H2 := E1.hideNew hp sm ⟨_, p3⟩
        refine B.ok (F := F.hide p) rfl E2 XLink.no h1.2.2 fun ys ρ2 us H3 h3 E3 s3 r3 => ?_
        split at h3
        · rename_i ps eps
          rw [callC_eq] at h3
          have no : ¬ OwnA σ ρ1 p := n3
          obtain ⟨p4, p5⟩ := s3.kp p _ p3 no
          have rr : RepL F.K (cut (· = p) H3) us (ps.map (·.2)) := reps_hid E3 (Or.inl rfl) r3 eps h3.1
          refine ⟨p, us, ps.map (·.2), _, _, by rw [List.append_nil], ⟨x, y', p1, p2, p4⟩, rr, h3.2, fun d v H' hR kp hp' hd => ?_, fun _ _ _ z => z.elim⟩
          obtain ⟨x', y'', q1, q2, q3⟩ := id hp'
          have nt : ∀ xs, HO.lst [V.int x, V.int y'] ≠ .tup xs := fun _ z => by cases z
          obtain ⟨E4, s4⟩ := E3.hidStep (Or.inl rfl) n1 kp p4 nt q3
          have hp0 : H p = none := s1.dom p hp
          have st : Stp (OwnA σ ρ) H (OwnA σ ρ2) H' := by
            refine ⟨fun b o hb nb => ?_, fun b hb => ?_⟩
            · obtain ⟨k1, k2⟩ := s1.kp b o hb nb
              obtain ⟨k3, k4⟩ := s3.kp b o (sm _ _ k1) k2
              have hbp : b ≠ p := ne_of_none hb hp0
              exact ⟨kp _ _ hbp k3, k4⟩
            · have hbp : b ≠ p := fun z => by
                rw [z, q3] at hb
                cases hb
              exact s1.dom b (sm.free (s3.dom b (kp.free hbp hb)))
          have E30 : Env F σ ρ2 H3 := E3.unhide
          refine q _ ρ2 v H' hR E4.unhide st (RepV.early (O := OwnA σ ρ) (O1 := OwnA σ ρ2) (fr_of E30 (fun b hb ⟨o, ho⟩ => ?_) hd) ?_)
          · have hbp : b ≠ p := fun z => by
              rw [z, p4] at hb
              cases hb
            have E5 : Env ((F.hide p).hide b) σ ρ2 (upd H3 b o) := E3.hideNew hb (same_new hb) ⟨o, upd_same⟩
            have kp' : Kp p (upd H3 b o) H' := fun c w hc hw => by
              by_cases z : c = b
              · subst z
                rw [upd_same] at hw
                cases hw
                exact ho
              · rw [upd_ne z] at hw
                exact kp c w hc hw
            obtain ⟨E6, _⟩ := E5.hidStep (p := p) (Or.inr (Or.inl rfl)) n1 kp' (by rw [upd_ne (Ne.symm hbp)]; exact p4) nt q3
            exact E6.lessHid (hid' := (F.hide b).hid) fun c hc => hc.elim Or.inl fun z => Or.inr (Or.inr z)
          · refine ⟨fun b o hb nb => ?_, fun b hb => s1.dom b (sm.free (s3.dom b hb))⟩
            obtain ⟨k1, k2⟩ := s1.kp b o hb nb
            exact s3.kp b o (sm _ _ k1) k2
        · exact h3.elim
      · exact h1.elim
    · exact h.elim
/-! ### methods -/
def dMeth (c m : Str) (fs : FS) (wo : DW) (u : DAW) : DW := fun X ρ R => wo X ρ fun x ρ1 => (match rd ρ1 x with
  | some (_, .ins c' es) => c' = c ∧ (es.lookup m).isNone = true
  | _ => False) ∧ u X ρ1 fun ys ρ2 => match rds ρ2 (x.tmp :: ys) with
    | some ps => noPotL ps = true ∧ callC fs (ps.map (·.2)) (fun d => R (frOf d) ρ2) (fun _ => False)
    | none => False
theorem look_none {fs : List (Str × V)} : ∀ {es : List (Str × D)} {m : Str}, fs.map (·.1) = es.map (·.1) → (es.lookup m).isNone = true → fs.lookup m = none := by
  induction fs with
  | nil => intro es m _ _; rfl
  | cons p fs ih =>
    intro es m h e
    cases es with
    | nil => cases h
    | cons q es =>
      simp only [List.map_cons, List.cons.injEq] at h
      obtain ⟨k, v⟩ := p
      obtain ⟨k', d⟩ := q
      have hk : k = k' := h.1
      subst hk
      rw [List.lookup_cons] at e ⊢
      by_cases z : (m == k) = true
      · rw [z] at e
        cases e
      · rw [Bool.eq_false_iff.mpr z] at e ⊢
        exact ih h.2 e
instance {c m : Str} {fs : FS} {E0 : XK} {to : TE} {wo : DW} {t : TA} {u : DAW} [A : DE K W to wo] [B : DA K W t u] : DE K W (tMeth (He.ga K c) m (sp0 K fs) [] E0 to t) (dMeth c m fs wo u) where
  ok := fun {F σ H ρ X R Q} hK E L h q => A.ok hK E L h fun x ρ1 v H1 h1 E1 s1 r1 => by
    subst hK
    obtain ⟨h1, h2⟩ := h1
    split at h1
    · rename_i r c' es e
      obtain ⟨a, dx, fvs, rfl, g1, g2, g3⟩ := r1.top E1 e
      obtain ⟨rfl, hl⟩ := h1
      refine ⟨a, dx, fvs, rfl, g1, look_none g2 hl, B.ok rfl E1 (L.stp s1) h2 fun ys ρ2 us H2 h3 E2 s2 r2 => ?_⟩
      split at h3
      · rename_i ps eps
        rw [callC_eq] at h3
        have r12 : Paired (fun v dv => RepV F H σ ρ2 H2 v dv) (V.ref a :: us) (x.tmp :: ys) := .cons (r1.stp E1 s2) (paired_imp (fun _ _ z => z.early s1) r2)
        refine ⟨ps.map (·.2), _, _, ?_, h3.2, fun d v H' hR sm hd => ?_, fun _ _ _ z => z.elim⟩
        · rw [List.append_nil]
          exact reps_of (tops_of E2 r12 eps) h3.1
        · exact q _ ρ2 v H' hR (E2.grow sm) ((s1.trans s2).trans (.same sm)) (RepV.early (fr_of E2 (fun a ha he => E2.hideNew ha sm he) hd) (s1.trans s2))
      · exact h3.elim
    · exact h1.elim
/-! ### __init__ and C(..) -/
def putFD (f : Str) (d : D) : List (Str × D) → List (Str × D)
  | [] => [(f, d)]
  | (g, x) :: r => if g = f then (g, d) :: r else (g, x) :: putFD f d r
theorem putF_rep {K : PySem.W.Frag} {H : Hp} {f : Str} {v : V} {d : D} (h : Rep K H v d) {fs : List (Str × V)} {es : List (Str × D)} (g : KRep K H fs es) : KRep K H (putF f v fs) (putFD f d es) := by
  refine g.ind (P := fun fs es => KRep K H (putF f v fs) (putFD f d es)) (.cons h .nil) fun k v' d' kvs es hv hk ih => ?_
  unfold putF putFD
  by_cases e : k = f
  · rw [if_pos e, if_pos e]
    exact .cons h hk
  · rw [if_neg e, if_neg e]
    exact .cons hv ih
def dSFld (K : PySem.W.Frag) (f : Str) (wo wv : DW) : DSW := fun X E ρ => wv X ρ fun y ρ1 => wo X ρ1 fun x ρ2 => match st ρ2 y.tmp with
  | some (r, d, ρ3) => match x.tmp with
    | .al i => match ρ3[i]? with
      | some (some (.ow r0 (.ins c es))) => ClsOk K c f ∧ es.length < 1000 ∧ E.nx (ρ3.set i (some (.ow (r0 && r) (.ins c (putFD f d es)))))
      | _ => False
    | _ => False
  | none => False
instance {f : Str} {to tv : TE} {wo wv : DW} [A : DE K W tv wv] [B : DE K W to wo] : DS K W (sFld K to tv f) (dSFld K f wo wv) where
  ok := fun {F σ H ρ X E Dn} hK En L h nx bk ct rt => A.ok hK En L h fun y ρ1 u H1 h1 E1 s1 r1 => B.ok hK E1 (L.stp s1) h1 fun x ρ2 v H2 h2 E2 s2 r2 => by
    subst hK
    have r1' : RepV F H σ ρ2 H2 u y.tmp := r1.stp E1 s2
    have r2' : RepV F H σ ρ2 H2 v x.tmp := r2.stp E2 (.refl _ _)
    split at h2
    · rename_i r d ρ3 e
      obtain ⟨E3, s3, p3⟩ := r1'.st E2 e
      split at h2
      · rename_i i ei
        rw [ei] at r2'
        have r2' : σ[i]? = some (some v) := r2'
        split at h2
        · rename_i r0 c es hi
          obtain ⟨a, g1, ⟨dx, fvs, g2, g3, g4⟩, _⟩ := E3.ow i r0 _ hi
          rw [r2'] at g1
          cases g1
          obtain ⟨hc, hl, h2⟩ := h2
          have kr : KRep F.K (F.RH (OwnA σ ρ3) H2 (r0 && r)) fvs es := ⟨g3, g4.weak fun z => by rw [Bool.and_eq_true] at z; exact z.1⟩
          have p3' : Rep F.K (F.RH (OwnA σ ρ3) H2 (r0 && r)) u d := p3.weak fun z => by rw [Bool.and_eq_true] at z; exact z.2
          have kp := putF_rep (f := f) p3' kr
          obtain ⟨E4, s4⟩ := E3.put (r' := r0 && r) (d' := .ins c (putFD f d es)) (o := .ins (He.ga F.K c) dx (putF f u fvs)) hi r2' (fun _ => rfl) ⟨dx, _, rfl, kp.1, kp.2⟩
          exact ⟨a, _, dx, fvs, rfl, g2, hc.cl, hc.na, by rw [kr.len]; exact hl, nx _ σ _ h2 E4 (((s1.trans s2).trans s3).trans s4)⟩
        · exact h2.elim
      · exact h2.elim
    · exact h2.elim
/-- the promise of an __init__: R of the made thing -/
def spI (K : PySem.W.Frag) (c : Str) (fs : FS) : Sp := fun vs H Q E => ∃ (x dx : Addr) (us : List V) (ds : List D) (R : D → Prop) (Xd : Exn → Prop), vs = .ref x :: us ∧ H x = some (.ins (He.ga K c) dx []) ∧ RepL K (cut (· = x) H) us ds ∧ fs ds R Xd ∧
  (∀ es fvs dx' H', R (.ins c es) → Kp x H H' → H' x = some (.ins (He.ga K c) dx' fvs) → KRep K (newH H H') fvs es → Q .non H') ∧
  ∀ e dd H', Xd e → Kp x H H' → XRep K (newH H H') dd e → E (.ref (He.ga K e.c)) dd H'
def slotsI (c : Str) (ds : List D) (n : Nat) : DEnv := some (Sl.ow true (.ins c [])) :: slots ds (n - 1)
theorem envI {K : PySem.W.Frag} {c : Str} {H : Hp} {N : List Str} {p dx : Addr} {vs : List V} {ds : List D} (hp : H p = some (.ins (He.ga K c) dx [])) (h : RepL K (cut (· = p) H) vs ds) : Env (frame K H (some p)) (L2.start N (.ref p :: vs)) (slotsI c ds N.length) H := by
  have sh : ∀ {i : Nat} {s : Sl}, (slotsI c ds N.length)[i]? = some (some s) → (i = 0 ∧ s = .ow true (.ins c [])) ∨ ∃ j d, i = j + 1 ∧ ds[j]? = some d ∧ s = .sh false d := fun {i s} z => by
    cases i with
    | zero =>
      cases z
      exact .inl ⟨rfl, rfl⟩
    | succ j =>
      obtain ⟨d, z1, z2⟩ := sl_at (show (slots ds (N.length - 1))[j]? = some (some s) from z)
      exact .inr ⟨j, d, rfl, z1, z2⟩
  have s0 : (L2.start N (.ref p :: vs))[0]? = some (some (.ref p)) := st_at rfl
  have ow : ∀ a, OwnA (L2.start N (.ref p :: vs)) (slotsI c ds N.length) a → a = p := fun a ⟨i, r, d, z, y⟩ => by
    rcases sh z with ⟨rfl, z⟩ | ⟨_, _, _, _, z⟩
    · cases z
      rcases y with y | y
      · rw [s0] at y
        cases y
        rfl
      · cases y
    · cases z
  refine ⟨?_, fun a o z _ _ => .inl z, fun i r d z => ?_, fun i r d z => ?_, fun i j a ⟨r, d, z, _⟩ ⟨r', d', z', _⟩ => ?_, fun a z => ?_, fun a z => z.elim, fun i r d z => ?_, fun i r d b z => ?_, fun a z => z.elim, fun a xs z => z, fun a o z _ => z, fun a xs z => z, fun a ns z => z.elim, fun i v z => ?_⟩
  · unfold L2.start slotsI slots
    have := h.len
    simp only [List.length_cons, List.length_append, List.length_map, List.length_replicate]
    omega
  · rcases sh z with ⟨_, z⟩ | ⟨j, e, rfl, z1, z2⟩
    · cases z
    · cases z2
      obtain ⟨v, g1, g2⟩ := h.get z1
      refine ⟨v, st_at (show (V.ref p :: vs)[j + 1]? = some v from g1), g2.mono fun a o ha => ?_⟩
      obtain ⟨k1, k2⟩ := cut_inv ha
      rcases k2 with k2 | ⟨xs, rfl⟩
      · refine cut_of k1 fun y => ?_
        rcases y with y | y | ⟨y, _⟩
        · exact y
        · exact k2 (ow a y)
        · cases y
      · exact cut_tup k1
  · rcases sh z with ⟨rfl, z⟩ | ⟨_, _, _, _, z⟩
    · cases z
      exact ⟨p, s0, ⟨dx, [], hp, rfl, .nil⟩, fun z => z, .inr (.inl rfl)⟩
    · cases z
  · rcases sh z with ⟨rfl, _⟩ | ⟨_, _, _, _, z⟩
    · rcases sh z' with ⟨rfl, _⟩ | ⟨_, _, _, _, z⟩
      · rfl
      · cases z
    · cases z
  · cases z
    exact ⟨true, .ins c [], rfl, rfl, s0⟩
  · rcases sh z with ⟨_, z⟩ | ⟨_, _, _, _, z⟩ <;> cases z
    trivial
  · rcases sh z with ⟨_, z⟩ | ⟨_, _, _, _, z⟩ <;> cases z
    intro z
    cases z
  · rcases sh z with ⟨_, z⟩ | ⟨_, _, _, _, z⟩ <;> cases z <;> trivial
/-- what the object is in the end -/
def madeB (c : Str) (ρ : DEnv) (k : D → Prop) : Prop := match (ρ[(0 : Nat)]? : Option (Option Sl)) with
  | some (some (.ow r (.ins c' es))) => r = true ∧ c' = c ∧ k (.ins c es)
  | _ => False
theorem runI {K : PySem.W.Frag} {c : Str} {fs : FS} {t : TS} {w : DSW} {N : List Str} {vs : List V} {H : Hp} {Q : VK} {E : XK} (A : DS K (fun _ _ _ _ => False) t w) (h : spI K c fs vs H Q E)
    (k : ∀ ds R Xd, fs ds R Xd → w noX ⟨fun ρ => madeB c ρ R, fun d ρ => False, fun _ => False, fun _ => False⟩ (slotsI c ds N.length)) : t { nx := fun _ H' => Q .non H', rt := Q } (L2.start N vs) H := by
  obtain ⟨p, dx, us, ds, R, Xd, rfl, h0, h1, h2, h3, h4⟩ := h
  have kp : ∀ {σ ρ} {H' : Hp}, Env (frame K H (some p)) σ ρ H' → Kp p H H' := fun {σ ρ H'} E' a o n z => by
    rcases E'.keep a o z (fun y => n (Option.some.inj y).symm) (fun y => y) with y | ⟨y, _⟩
    · exact y
    · exact y.elim
  refine A.ok (F := frame K H (some p)) rfl (envI h0 h1) XLink.no (k ds R Xd h2) (fun ρ' σ' H' z E' _ => ?_) (fun _ _ _ z => z.elim) (fun _ _ _ z => z.elim) fun d ρ' σ' v H' z E' _ r' => z.elim
  have z : madeB c ρ' R := z
  unfold madeB at z
  split at z
  · rename_i r c' es e
    obtain ⟨rfl, rfl, hR⟩ := z
    obtain ⟨r0, d0, e1, _, e3⟩ := E'.pt p rfl
    obtain ⟨a, g1, ⟨dx', fvs, g2, g3, g4⟩, _⟩ := E'.ow 0 _ _ e
    rw [e3] at g1
    cases g1
    exact h3 es fvs dx' H' hR (kp E') g2 ⟨g3, g4.mono frame_new⟩
  · exact z.elim
def dMake (c : Str) (fs : FS) (u : DAW) : DW := fun X ρ R => u X ρ fun xs ρ1 => match rds ρ1 xs with
  | some ps => noPotL ps = true ∧ callC fs (ps.map (·.2)) (fun d => R (.v true d) ρ1) (fun _ => False)
  | none => False
instance {c : Str} {fs : FS} {E0 : XK} {t : TA} {u : DAW} [A : DA K W t u] : DE K W (tMake (He.ga K c) (spI K c fs) [] E0 t) (dMake c fs u) where
  ok := fun {F σ H ρ X R Q} hK E L h q => A.ok hK E L h fun xs ρ1 vs H1 h1 E1 s1 r1 => by
    subst hK
    split at h1
    · rename_i ps e
      rw [callC_eq] at h1
      intro x dx hx hdx ne
      have up : Same H1 (upd (upd H1 dx (.own x)) x (.ins (He.ga F.K c) dx [])) := (same_new hdx).next (by rw [upd_ne (Ne.symm ne)]; exact hx)
      refine ⟨x, dx, vs, ps.map (·.2), _, _, by rw [List.append_nil], upd_same, ?_, h1.2, fun es fvs dx' H' hR k hH kr => ⟨rfl, ?_⟩, fun _ _ _ z => z.elim⟩
      · refine (reps_of (tops_of E1 r1 e) h1.1).mono fun a o ha => ?_
        exact cut_of (up _ _ ha) fun (z : a = x) => by
          rw [z, hx] at ha
          cases ha
      · have sm : Same H1 H' := fun a o ha => k a o (ne_of_none ha hx) (up _ _ ha)
        have E2 := E1.grow sm
        refine q _ ρ1 _ H' hR E2 (s1.trans (.same sm)) ?_
        have up2 : Same (newH (upd (upd H1 dx (.own x)) x (.ins (He.ga F.K c) dx [])) H') (F.RH (OwnA σ ρ1) H' true) := fun a o ha => by
          refine new_rh (H := H1) (H' := H') E1 a o ?_
          obtain ⟨k1, k2⟩ := cut_inv ha
          rcases k2 with k2 | ⟨xs, rfl⟩
          · refine cut_of k1 fun z => k2 fun y => ?_
            exact z (up.free y)
          · exact cut_tup k1
        have kr' := kr.mono up2
        obtain ⟨n1, n2, n3, _⟩ := E1.new hx
        refine .ins (cut_of hH fun z => ?_) kr'.1 kr'.2
        rcases z with z | z | ⟨_, z⟩
        · exact n2 z
        · exact n3 z
        · exact z n1
    · exact h1.elim
end
end PW

namespace PW
open PySem PySem.Spec PyProof.Rows L2
/-! ### set(list of texts), its length -/
/-- the first k of val, each once -/
def onceS (val : Nat → Str) : Nat → List Str
  | 0 => []
  | k + 1 => if (onceS val k).any (· == val k) then onceS val k else onceS val k ++ [val k]
theorem onceS_len (val : Nat → Str) : ∀ k, (onceS val k).length ≤ k
  | 0 => Nat.le_refl _
  | k + 1 => by
    have := onceS_len val k
    unfold onceS
    split
    · omega
    · rw [List.length_append, List.length_singleton]
      omega
theorem onceS_any (val : Nat → Str) (k : Nat) (z : Str) : (onceS val (k + 1)).any (· == z) = ((onceS val k).any (· == z) || decide (z = val k)) := by
  rw [show onceS val (k + 1) = if (onceS val k).any (· == val k) then onceS val k else onceS val k ++ [val k] from rfl]
  by_cases h : (onceS val k).any (· == val k) = true
  · rw [if_pos h]
    by_cases hz : z = val k
    · rw [hz, h]
      rfl
    · rw [decide_eq_false hz, Bool.or_false]
  · rw [if_neg h, List.any_append, List.any_cons, List.any_nil, Bool.or_false]
    congr 1
    by_cases hz : z = val k
    · rw [decide_eq_true hz, hz]
      exact beq_self_eq_true _
    · rw [decide_eq_false hz]
      exact beq_eq_false_iff_ne.mpr fun q => hz q.symm
theorem onceS_size (val : Nat → Str) (k : Nat) : (onceS val (k + 1)).length = if (onceS val k).any (· == val k) then (onceS val k).length else (onceS val k).length + 1 := by
  rw [show onceS val (k + 1) = if (onceS val k).any (· == val k) then onceS val k else onceS val k ++ [val k] from rfl]
  split
  · rfl
  · rw [List.length_append, List.length_singleton]
theorem onceS_nodup {xs : List Str} (h : xs.Nodup) : ∀ k, k ≤ xs.length → onceS (fun i => xs.getD i Str.empty) k = xs.take k
  | 0, _ => by
    rw [List.take_zero]
    rfl
  | k + 1, hk => by
    have hk2 : k < xs.length := hk
    have e1 : xs.getD k Str.empty = xs[k] := by
      rw [List.getD_eq_getElem?_getD, List.getElem?_eq_getElem hk2]
      rfl
    have e2 : xs.take (k + 1) = xs.take k ++ [xs[k]] := by
      rw [List.take_add_one, List.getElem?_eq_getElem hk2]
      rfl
    have no : ((xs.take k).any (· == xs[k])) = false := by
      rw [List.any_eq_false]
      intro y hy ey
      have ey2 : y = xs[k] := eq_of_beq ey
      obtain ⟨j, hj, ej⟩ := List.getElem_of_mem hy
      rw [List.length_take] at hj
      rw [List.getElem_take] at ej
      exact List.pairwise_iff_getElem.mp h j k (by omega) hk2 (by omega) (ej.trans ey2)
    rw [show onceS (fun i => xs.getD i Str.empty) (k + 1) = if (onceS (fun i => xs.getD i Str.empty) k).any (· == xs.getD k Str.empty) then onceS (fun i => xs.getD i Str.empty) k else onceS (fun i => xs.getD i Str.empty) k ++ [xs.getD k Str.empty] from rfl]
    rw [onceS_nodup h k (Nat.le_of_lt hk2), e1, no, e2]
    rfl
section
variable {prog : Program} {w : World} {A : Around} {R : Result → Shared → Prop} {I : Addr} {fp wr : List Addr} {G : Array GenState → Array GenState → Prop} {n : Nat} {P : Nat → Value → Prop} {St : Nat → Shared → Prop}
abbrev SetHas (prog : Program) (w : World) (h : Heap) (S : Addr) (l : List Str) : Prop := h.SetOf (PySem.strKind prog w) S (fun z => l.any (· == z)) l.length
theorem set_loop_str (W : WalksS prog w A.in1 I fp wr G n P St) (S : Addr) (out : S ∉ fp) (val : Nat → Str) (isv : ∀ i v, P i v → ∃ t, v = .str (val i) t) (small : n + 1 < scanBound) :
    ∀ (m i : Nat) (s : Shared), n - i = m → i ≤ n → St i s → SetHas prog w s.heap S (onceS val i) →
      (∀ s', Moved (S :: wr) G s s' → SetHas prog w s'.heap S (onceS val n) → R (.ok (.ret .none)) s') →
      codeAny (model prog w) A (.builtin "set.update.loop" ⟨[.ref S, .ref I], []⟩) R s := by
  have outw : S ∉ wr := fun z => out (W.sub _ z)
  have more : ∀ b ∈ wr, b ∈ S :: wr := fun b z => List.mem_cons_of_mem _ z
  intro m
  induction m with
  | zero =>
    intro i s hm hi st hs fin
    have ei : i = n := by omega
    subst ei
    refine codeAny_builtin PyProof.Rows.F.entry_set_update_loop ?_
    rw [Around.under_plainId PyProof.Rows.F.plain_set_update_loop _]
    show wpAny _ A.in1 (pyNext (.ref I) >>= _) _ _ s
    refine wpAny_bind (W.done s _ _ st fun s' mv => ?_)
    show wpAny _ A.in1 (ret Value.none) _ _ s'
    refine wpAny_pure (fin s' (mv.mono more) ?_)
    obtain ⟨o, es, ep, t, ho, rest⟩ := hs
    exact ⟨o, es, ep, t, mv.heap S _ outw ho, rest⟩
  | succ m ih =>
    intro i s hm hi st hs fin
    have lt : i < n := by omega
    refine codeAny_builtin PyProof.Rows.F.entry_set_update_loop ?_
    rw [Around.under_plainId PyProof.Rows.F.plain_set_update_loop _]
    show wpAny _ A.in1 (pyNext (.ref I) >>= _) _ _ s
    refine wpAny_bind (W.item i s _ _ lt st fun v s' pv st' mv => ?_)
    obtain ⟨t, rfl⟩ := isv i v pv
    have hs1 : SetHas prog w s'.heap S (onceS val i) := by
      obtain ⟨o, es, ep, tb, ho, rest⟩ := hs
      exact ⟨o, es, ep, tb, mv.heap S _ outw ho, rest⟩
    show wpAny _ A.in1 (holding [Value.str (val i) t] (setAdd S (.str (val i) t)) >>= _) _ _ s'
    refine wpAny_bind (wpAny_holding ?_)
    unfold setAdd
    refine wpAny_holding (wpAny_bind ((PySem.strKind prog w).pyHash (k := val i) (PySem.strKind_is _ _ _ _) ?_))
    have room : (onceS val i).length + 1 < scanBound := Nat.lt_of_le_of_lt (Nat.add_le_add_right (onceS_len val i) 1) (by omega)
    refine wpAny_setAddHashed_of (knd := PySem.strKind prog w) (s := { s' with toks := s'.toks + 1 }) (PySem.strKind_is _ _ _ _) rfl hs1 room fun h' sb hs2 => ?_
    have hs3 : SetHas prog w h' S (onceS val (i + 1)) := PyProof.Rows.SetOf_congr hs2 (fun z => (onceS_any val i z).symm) (onceS_size val i).symm
    refine wpAny_pure ⟨plainId_quiet PyProof.Rows.F.plain_set_update_loop _, ih (i + 1) _ (by omega) lt (W.frame _ s' _ _ st' (Nat.le_succ _) fun b hb o e => ?_) hs3 fun s'' mv2 hs4 => ?_⟩
    · rw [sb.2 b fun z : b = S => out (z ▸ hb)]
      exact e
    · refine fin s'' (Moved.trans W.gtrans ((mv.mono more).then_heap (Nat.le_succ _) fun b o hb e => ?_) mv2) hs4
      rw [sb.2 b fun z : b = S => hb (z ▸ List.mem_cons_self)]
      exact e
end
end PW

namespace PySem
open PySem.Spec
section
variable {prog : Program} {w : World} {A : Around} {E : Value → Shared → Prop} {s : Shared}
def strsAre (items : Array Value) (xs : List Str) : Prop := ∀ (i : Nat) (v : Value), items[i]? = some v → ∃ t, v = .str (xs.getD i Str.empty) t
set_option maxHeartbeats 3200000 in
theorem pw_set_list {l : Addr} {items : Array Value} {xs : List Str} {Q : Value → Shared → Prop} (quiet : A.handled = none) (il : s.heap.IsList l items) (isv : strsAre items xs) (small : items.size + 1 < scanBound)
    (fin : ∀ (h' : Heap) (tk : Nat), PW.SetHas prog w h' s.heap.objs.size (PW.onceS (fun i => xs.getD i Str.empty) items.size) → (∀ b o, b < s.heap.objs.size → s.heap.get? b = some o → h'.get? b = some o) → Q (.ref s.heap.objs.size) { s with heap := h', toks := tk }) :
    wpAny (model prog w) A (call (.type "set") [.ref l]) Q E s := by
  obtain ⟨c, tl, hmro⟩ := F.called_set.mro
  have z1 := F.called_set.made
  have z2 := F.called_set.sub
  refine wpAny_call (codeAny_of_tree ?_)
  show wpAny _ _ (callAny (.type "set") _) _ _ _
  refine wpAny_pure ⟨Code.quiet_builtin _ (by decide +kernel), codeAny_builtin F.entry_type_call ?_⟩
  rw [Around.under_plain (weight_type_call_type "set" [.ref l] []) rfl]
  have z3 := F.called_set.notType
  have z4 := F.called_set.canCreate
  have z5 := F.typeCall_set_1 (.ref l)
  repeat (any_goals (first | assumption | wp_step))
  refine codeAny_mono (code_set_new_1 (.ref l) (E := E) (Q₁ := fun obj s₁ => ∃ led : Bool, obj = .ref s.heap.objs.size ∧
    s₁ = { s with heap := s.heap.push { cls := .type "set", dict := none, data := .set #[] 0 (.fresh 0 0 led) } }) fun led => ⟨led, rfl, rfl⟩) fun r s₁ hr => ?_
  cases r with
  | error e => exact hr
  | ok fl =>
    cases fl with
    | ret obj =>
      obtain ⟨led, rfl, rfl⟩ := hr
      have gS : (s.heap.push { cls := .type "set", dict := none, data := .set #[] 0 (.fresh 0 0 led) }).get? s.heap.objs.size = some { cls := .type "set", dict := none, data := .set #[] 0 (.fresh 0 0 led) } := by
        exact Heap.get?_push_size _ rfl
      have hT : Shared.TypeIs { s with heap := s.heap.push { cls := .type "set", dict := none, data := .set #[] 0 (.fresh 0 0 led) } } (.ref s.heap.objs.size) "set" := ⟨_, gS, rfl⟩
      have y1 := F.called_set.init.lookup
      have y2 := F.called_set.init.bind (.ref s.heap.objs.size)
      repeat (any_goals (first | assumption | wp_step))
      refine codeAny_mono (codeAny_call_builtin (R := wants (fun r s₂ => r = .none ∧ ∃ h' tk, s₂ = { s with heap := h', toks := tk } ∧ PW.SetHas prog w h' s.heap.objs.size (PW.onceS (fun i => xs.getD i Str.empty) items.size) ∧
          (∀ b o, b < s.heap.objs.size → s.heap.get? b = some o → h'.get? b = some o)) E) F.called_set.init.plain F.entry_set_init (check_set_init_1 hT ?_)) fun r₂ s₂ hr₂ => ?_
      · obtain ⟨ol, hol, hcl, nl, hdl⟩ := il
        obtain ⟨ocls, odict, odata, oslots⟩ := ol
        simp only at hcl hdl
        subst hcl
        subst hdl
        have hol1 : (s.heap.push { cls := .type "set", dict := none, data := .set #[] 0 (.fresh 0 0 led) }).get? l = some { cls := .type "list", dict := odict, data := .seq items nl, slots := oslots } := Heap.get?_push_of_some _ hol
        have y3 := F.sub_list_set
        have y4 := F.sub_list_frozenset
        have y5 : (Value.type "list" == Value.type "dict") = false := by decide
        have il1 : (s.heap.push { cls := .type "set", dict := none, data := .set #[] 0 (.fresh 0 0 led) }).IsList l items := ⟨_, hol1, rfl, nl, rfl⟩
        unfold Builtin.«set.__init__» noKeywords Builtin.Frozenset.updateFrom
        generalize hPI : pyIter = PI
        wp_walk
        subst hPI
        refine wpAny_pyIter_list il1 ?_
        refine wpAny_bind (wpAny_runValue ?_)
        have lS : l < s.heap.objs.size := Heap.lt_size hol
        have quiet3 : A.in1.in1.in1.handled = none := by simp [quiet]
        have nI : l ≠ (s.heap.push { cls := .type "set", dict := none, data := .set #[] 0 (.fresh 0 0 led) }).objs.size := by
          rw [Heap.size_push]
          exact Nat.ne_of_lt (Nat.lt_succ_of_lt lS)
        have outS : s.heap.objs.size ∉ [(s.heap.push { cls := .type "set", dict := none, data := .set #[] 0 (.fresh 0 0 led) }).objs.size, l] := by
          rw [Heap.size_push]
          simp only [List.mem_cons, List.not_mem_nil, or_false, not_or]
          exact ⟨Nat.ne_of_lt (Nat.lt_succ_self _), Nat.ne_of_gt lS⟩
        refine PW.set_loop_str ((Walks.list quiet3 _ l nI items).toS) s.heap.objs.size outS (fun i => xs.getD i Str.empty) isv small (items.size - 0) 0 _ (by omega) (Nat.zero_le _)
          ⟨⟨_, Heap.get?_push_size _ rfl, rfl, rfl⟩, (il1.push _)⟩ ?first ?last
        case first =>
          have gS2 : ((s.heap.push { cls := .type "set", dict := none, data := .set #[] 0 (.fresh 0 0 led) }).push { cls := .type "list_iterator", data := .fields #[.ref l, .int 0 0] }).get? s.heap.objs.size = some { cls := .type "set", dict := none, data := .set #[] 0 (.fresh 0 0 led) } := Heap.get?_push_of_some _ gS
          exact PyProof.Rows.SetOf_congr ((PyProof.Rows.setObjOf_fresh (knd := PySem.strKind prog w) led).setOf gS2 (by unfold scanBound; omega)) (fun _ => rfl) rfl
        case last =>
          intro s' mv hs'
          obtain ⟨h', g', d', tk', os'⟩ := s'
          have eg : g' = s.gens := mv.gens
          have ed : d' = s.drawn := mv.drawn
          have eo : os' = s.os := mv.os
          subst eg
          subst ed
          subst eo
          show wpAny _ _ _ _ _ _
          refine wpAny_pure ?_
          show wpAny _ _ (ret Value.none) _ _ _
          refine wpAny_pure ⟨rfl, h', tk', rfl, hs', fun b o hb e => ?_⟩
          refine mv.heap b o ?_ (Heap.get?_push_of_some _ (Heap.get?_push_of_some _ e))
          rw [Heap.size_push]
          simp only [List.mem_cons, List.not_mem_nil, or_false, not_or]
          exact ⟨Nat.ne_of_lt hb, Nat.ne_of_lt (Nat.lt_succ_of_lt hb)⟩
      · cases r₂ with
        | error e => exact hr₂
        | ok fl₂ =>
          cases fl₂ with
          | ret r =>
            obtain ⟨rfl, h', tk, rfl, hS', hk'⟩ := hr₂
            repeat (any_goals (first | assumption | wp_step))
            exact fin _ _ hS' hk'
          | _ => exact hr₂.elim
    | _ => exact hr.elim
end
end PySem
namespace PW
open PySem PySem.Spec PyProof.Rows L2
theorem strsAre_vals {xs : List Str} {us : List Value} (h : Vals (xs.map V.str) us) : strsAre us.toArray xs := fun i v e => by
  have e1 : us[i]? = some v := by simpa using e
  have hl := h.length
  rw [List.length_map] at hl
  have hi : i < xs.length := by
    have := (List.getElem?_eq_some_iff.mp e1).1
    omega
  have e2 : (xs.map V.str)[i]? = some (.str xs[i]) := by
    rw [List.getElem?_map, List.getElem?_eq_getElem hi]
    rfl
  obtain ⟨u, e3, r⟩ := h.get e2
  rw [e1] at e3
  have eu : v = u := Option.some.inj e3
  obtain ⟨t, rfl⟩ := r
  refine ⟨t, ?_⟩
  rw [eu, List.getD_eq_getElem?_getD, List.getElem?_eq_getElem hi]
  rfl
/-- how many unlike ones a list of texts has -/
def manyS (xs : List Str) : Nat := (onceS (fun i => xs.getD i Str.empty) xs.length).length
theorem manyS_nodup {xs : List Str} (h : xs.Nodup) : manyS xs = xs.length := by
  unfold manyS
  rw [onceS_nodup h xs.length (Nat.le_refl _), List.take_length]
def tLenSetS (K : PySem.W.Frag) (ta : TE) : TE := fun σ H Q => ta σ H fun x H1 => ∃ (l : Addr) (xs : List Str), x = .ref l ∧ SqL K H1 l (xs.map V.str) ∧ xs.length ≤ 1000 ∧ Q (.int (manyS xs : Nat)) H1
theorem pe_lenSetS {X : Cx} {K : PySem.W.Frag} {a : Expr} {ta : TE} {p p2 q pos : Pos} (hg : Gl X "len") (hm : X.mg "len" = none) (hg2 : Gl X "set") (hm2 : X.mg "set" = none) (ha : PE X a ta) (hc : X.calm = true := by rfl) (hK : X.K = K := by rfl)
    (na : starEach [a] X.env = (false, eval a X.env) :: starEach [] X.env := by rfl) : PE X (.Call (.Name "len" p) [.Call (.Name "set" p2) [a] [] q] [] pos) (tLenSetS K ta) := by
  subst hK
  refine ⟨fun pins s σ H Q I h => Call_ (ld_blt I hg hm boot_len ?_)⟩
  refine PyProof.Rows.callWith_builtin1 (PyProof.Rows.args_cons (Call_ (ld_blt I hg2 hm2 boot_set ?_)) rfl) rfl rfl
  refine PyProof.Rows.callWith_type1 (PyProof.Rows.args_cons (thn (ha.run pins s σ H _ I h) fun v s1 ⟨x, H1, I1, r1, q1⟩ => PyProof.Rows.args_nil ?_) na) na rfl
  obtain ⟨l, xs, rfl, sq, hl, q1⟩ := q1
  cases r1
  obtain ⟨its, r, pl, hz⟩ := I1.list sq
  have el : its.toArray.size = xs.length := by rw [List.size_toArray, ← r.length, List.length_map]
  refine pw_set_list (I1.ok.hd hc) pl.isList (strsAre_vals r) (by rw [el]; unfold scanBound; omega) fun h' tk hS hk => PyProof.Rows.args_nil ?_
  rw [el] at hS
  obtain ⟨o, es, ep, t, ho, hex, hd, _, _, _, hf, hn⟩ := hS
  have I2 : Inv X pins σ H1 { s1 with heap := h', toks := tk } := I1.kept fun b o e => hk b o (Heap.lt_size e) e
  have hml : manyS xs ≤ xs.length := onceS_len _ _
  exact call_len_set ho hex hd hf (by rw [hn]; show ((manyS xs : Nat) : Int) < 2 ^ 63; omega) ⟨.int (manyS xs : Nat), H1, I2.tok _, ⟨_, by rw [hn]; rfl⟩, q1⟩
end PW

namespace PySem
open PySem.Spec
section
variable {prog : Program} {w : World} {A : Around} {E : Value → Shared → Prop} {s : Shared}
set_option maxHeartbeats 3200000 in
theorem pw_set_tuple {l : Addr} {items : Array Value} {xs : List Str} {Q : Value → Shared → Prop} (quiet : A.handled = none) (il : s.heap.IsTuple l items) (isv : strsAre items xs) (small : items.size + 1 < scanBound)
    (fin : ∀ (h' : Heap) (tk : Nat), PW.SetHas prog w h' s.heap.objs.size (PW.onceS (fun i => xs.getD i Str.empty) items.size) → (∀ b o, b < s.heap.objs.size → s.heap.get? b = some o → h'.get? b = some o) → Q (.ref s.heap.objs.size) { s with heap := h', toks := tk }) :
    wpAny (model prog w) A (call (.type "set") [.ref l]) Q E s := by
  obtain ⟨c, tl, hmro⟩ := F.called_set.mro
  have z1 := F.called_set.made
  have z2 := F.called_set.sub
  refine wpAny_call (codeAny_of_tree ?_)
  show wpAny _ _ (callAny (.type "set") _) _ _ _
  refine wpAny_pure ⟨Code.quiet_builtin _ (by decide +kernel), codeAny_builtin F.entry_type_call ?_⟩
  rw [Around.under_plain (weight_type_call_type "set" [.ref l] []) rfl]
  have z3 := F.called_set.notType
  have z4 := F.called_set.canCreate
  have z5 := F.typeCall_set_1 (.ref l)
  repeat (any_goals (first | assumption | wp_step))
  refine codeAny_mono (code_set_new_1 (.ref l) (E := E) (Q₁ := fun obj s₁ => ∃ led : Bool, obj = .ref s.heap.objs.size ∧
    s₁ = { s with heap := s.heap.push { cls := .type "set", dict := none, data := .set #[] 0 (.fresh 0 0 led) } }) fun led => ⟨led, rfl, rfl⟩) fun r s₁ hr => ?_
  cases r with
  | error e => exact hr
  | ok fl =>
    cases fl with
    | ret obj =>
      obtain ⟨led, rfl, rfl⟩ := hr
      have gS : (s.heap.push { cls := .type "set", dict := none, data := .set #[] 0 (.fresh 0 0 led) }).get? s.heap.objs.size = some { cls := .type "set", dict := none, data := .set #[] 0 (.fresh 0 0 led) } := by
        exact Heap.get?_push_size _ rfl
      have hT : Shared.TypeIs { s with heap := s.heap.push { cls := .type "set", dict := none, data := .set #[] 0 (.fresh 0 0 led) } } (.ref s.heap.objs.size) "set" := ⟨_, gS, rfl⟩
      have y1 := F.called_set.init.lookup
      have y2 := F.called_set.init.bind (.ref s.heap.objs.size)
      repeat (any_goals (first | assumption | wp_step))
      refine codeAny_mono (codeAny_call_builtin (R := wants (fun r s₂ => r = .none ∧ ∃ h' tk, s₂ = { s with heap := h', toks := tk } ∧ PW.SetHas prog w h' s.heap.objs.size (PW.onceS (fun i => xs.getD i Str.empty) items.size) ∧
          (∀ b o, b < s.heap.objs.size → s.heap.get? b = some o → h'.get? b = some o)) E) F.called_set.init.plain F.entry_set_init (check_set_init_1 hT ?_)) fun r₂ s₂ hr₂ => ?_
      · obtain ⟨ol, hol, hcl, nl, hdl⟩ := il
        obtain ⟨ocls, odict, odata, oslots⟩ := ol
        simp only at hcl hdl
        subst hcl
        subst hdl
        have hol1 : (s.heap.push { cls := .type "set", dict := none, data := .set #[] 0 (.fresh 0 0 led) }).get? l = some { cls := .type "tuple", dict := odict, data := .seq items nl, slots := oslots } := Heap.get?_push_of_some _ hol
        have y3 := F.sub_tuple_set
        have y4 := F.sub_tuple_frozenset
        have y5 : (Value.type "tuple" == Value.type "dict") = false := by decide
        have il1 : (s.heap.push { cls := .type "set", dict := none, data := .set #[] 0 (.fresh 0 0 led) }).IsTuple l items := ⟨_, hol1, rfl, nl, rfl⟩
        unfold Builtin.«set.__init__» noKeywords Builtin.Frozenset.updateFrom
        generalize hPI : pyIter = PI
        wp_walk
        subst hPI
        refine wpAny_pyIter_tuple il1 ?_
        refine wpAny_bind (wpAny_runValue ?_)
        have lS : l < s.heap.objs.size := Heap.lt_size hol
        have quiet3 : A.in1.in1.in1.handled = none := by simp [quiet]
        have nI : l ≠ (s.heap.push { cls := .type "set", dict := none, data := .set #[] 0 (.fresh 0 0 led) }).objs.size := by
          rw [Heap.size_push]
          exact Nat.ne_of_lt (Nat.lt_succ_of_lt lS)
        have outS : s.heap.objs.size ∉ [(s.heap.push { cls := .type "set", dict := none, data := .set #[] 0 (.fresh 0 0 led) }).objs.size, l] := by
          rw [Heap.size_push]
          simp only [List.mem_cons, List.not_mem_nil, or_false, not_or]
          exact ⟨Nat.ne_of_lt (Nat.lt_succ_self _), Nat.ne_of_gt lS⟩
        refine PW.set_loop_str ((Walks.tuple quiet3 _ l nI items).toS) s.heap.objs.size outS (fun i => xs.getD i Str.empty) isv small (items.size - 0) 0 _ (by omega) (Nat.zero_le _)
          ⟨⟨_, Heap.get?_push_size _ rfl, rfl, rfl⟩, (il1.push _)⟩ ?first ?last
        case first =>
          have gS2 : ((s.heap.push { cls := .type "set", dict := none, data := .set #[] 0 (.fresh 0 0 led) }).push { cls := .type "tuple_iterator", data := .fields #[.ref l, .int 0 0] }).get? s.heap.objs.size = some { cls := .type "set", dict := none, data := .set #[] 0 (.fresh 0 0 led) } := Heap.get?_push_of_some _ gS
          exact PyProof.Rows.SetOf_congr ((PyProof.Rows.setObjOf_fresh (knd := PySem.strKind prog w) led).setOf gS2 (by unfold scanBound; omega)) (fun _ => rfl) rfl
        case last =>
          intro s' mv hs'
          obtain ⟨h', g', d', tk', os'⟩ := s'
          have eg : g' = s.gens := mv.gens
          have ed : d' = s.drawn := mv.drawn
          have eo : os' = s.os := mv.os
          subst eg
          subst ed
          subst eo
          show wpAny _ _ _ _ _ _
          refine wpAny_pure ?_
          show wpAny _ _ (ret Value.none) _ _ _
          refine wpAny_pure ⟨rfl, h', tk', rfl, hs', fun b o hb e => ?_⟩
          refine mv.heap b o ?_ (Heap.get?_push_of_some _ (Heap.get?_push_of_some _ e))
          rw [Heap.size_push]
          simp only [List.mem_cons, List.not_mem_nil, or_false, not_or]
          exact ⟨Nat.ne_of_lt hb, Nat.ne_of_lt (Nat.lt_succ_of_lt hb)⟩
      · cases r₂ with
        | error e => exact hr₂
        | ok fl₂ =>
          cases fl₂ with
          | ret r =>
            obtain ⟨rfl, h', tk, rfl, hS', hk'⟩ := hr₂
            repeat (any_goals (first | assumption | wp_step))
            exact fin _ _ hS' hk'
          | _ => exact hr₂.elim
    | _ => exact hr.elim
end
end PySem
namespace PW
open PySem PySem.Spec PyProof.Rows L2
def tLenSetT (K : PySem.W.Frag) (ta : TE) : TE := fun σ H Q => ta σ H fun x H1 => ∃ (l : Addr) (xs : List Str), x = .ref l ∧ SqT K H1 l (xs.map V.str) ∧ xs.length ≤ 1000 ∧ Q (.int (manyS xs : Nat)) H1
theorem pe_lenSetT {X : Cx} {K : PySem.W.Frag} {a : Expr} {ta : TE} {p p2 q pos : Pos} (hg : Gl X "len") (hm : X.mg "len" = none) (hg2 : Gl X "set") (hm2 : X.mg "set" = none) (ha : PE X a ta) (hc : X.calm = true := by rfl) (hK : X.K = K := by rfl)
    (na : starEach [a] X.env = (false, eval a X.env) :: starEach [] X.env := by rfl) : PE X (.Call (.Name "len" p) [.Call (.Name "set" p2) [a] [] q] [] pos) (tLenSetT K ta) := by
  subst hK
  refine ⟨fun pins s σ H Q I h => Call_ (ld_blt I hg hm boot_len ?_)⟩
  refine PyProof.Rows.callWith_builtin1 (PyProof.Rows.args_cons (Call_ (ld_blt I hg2 hm2 boot_set ?_)) rfl) rfl rfl
  refine PyProof.Rows.callWith_type1 (PyProof.Rows.args_cons (thn (ha.run pins s σ H _ I h) fun v s1 ⟨x, H1, I1, r1, q1⟩ => PyProof.Rows.args_nil ?_) na) na rfl
  obtain ⟨l, xs, rfl, sq, hl, q1⟩ := q1
  cases r1
  obtain ⟨its, r, pl, hz⟩ := I1.tuple sq
  have el : its.toArray.size = xs.length := by rw [List.size_toArray, ← r.length, List.length_map]
  refine pw_set_tuple (I1.ok.hd hc) pl (strsAre_vals r) (by rw [el]; unfold scanBound; omega) fun h' tk hS hk => PyProof.Rows.args_nil ?_
  rw [el] at hS
  obtain ⟨o, es, ep, t, ho, hex, hd, _, _, _, hf, hn⟩ := hS
  have I2 : Inv X pins σ H1 { s1 with heap := h', toks := tk } := I1.kept fun b o e => hk b o (Heap.lt_size e) e
  have hml : manyS xs ≤ xs.length := onceS_len _ _
  exact call_len_set ho hex hd hf (by rw [hn]; show ((manyS xs : Nat) : Int) < 2 ^ 63; omega) ⟨.int (manyS xs : Nat), H1, I2.tok _, ⟨_, by rw [hn]; rfl⟩, q1⟩
/-- of a list or a tuple -/
theorem pe_lenSetR {X : Cx} {K : PySem.W.Frag} {a : Expr} {ta : TE} {p p2 q pos : Pos} (hg : Gl X "len") (hm : X.mg "len" = none) (hg2 : Gl X "set") (hm2 : X.mg "set" = none) (ha : PE X a ta) (hc : X.calm = true := by rfl) (hK : X.K = K := by rfl)
    (na : starEach [a] X.env = (false, eval a X.env) :: starEach [] X.env := by rfl) : PE X (.Call (.Name "len" p) [.Call (.Name "set" p2) [a] [] q] [] pos) (tOrE (tLenSetS K ta) (tLenSetT K ta)) :=
  pe_orE (pe_lenSetS hg hm hg2 hm2 ha hc hK na) (pe_lenSetT hg hm hg2 hm2 ha hc hK na)
end PW

namespace PW
open PySem PySem.Spec PyProof.Rows L2
/-! ### small facts -/
theorem _root_.L2.TyX.same {K : PySem.W.Frag} {H H' : Hp} {v : V} {t : Value} (h : TyX K H v t) (e : Same H H') : TyX K H' v t := by
  cases h with
  | base b =>
    cases b with
    | non => exact .base .non
    | bl x => exact .base (.bl x)
    | int x => exact .base (.int x)
    | str x => exact .base (.str x)
    | flt x => exact .base (.flt x)
    | lst z => exact .base (.lst (e _ _ z))
    | frz z => exact .base (.frz (e _ _ z))
    | tup z => exact .base (.tup (e _ _ z))
    | dK z => exact .base (.dK (e _ _ z))
    | dT z => exact .base (.dT (e _ _ z))
    | ins z a b c d f => exact .base (.ins (e _ _ z) a b c d f)
  | byt b => exact .byt b
  | set z => exact .set (e _ _ z)
  | kList a b => exact .kList a b
  | kTuple a b => exact .kTuple a b
  | kDict a b => exact .kDict a b
  | fTuple z => exact .fTuple (e _ _ z)
  | fDict z => exact .fDict (e _ _ z)
theorem _root_.L2.Same.seqT {K : PySem.W.Frag} {H H' : Hp} {a : Addr} {xs : List V} (e : Same H H') (h : SqT K H a xs) : SqT K H' a xs := by
  rcases h with (h | ⟨o, h⟩) | h
  · exact .inl (.inl (e _ _ h))
  · exact .inl (.inr ⟨o, e _ _ h⟩)
  · exact .inr h
theorem flat_strs (xs : List Str) : (xs.map V.str).all flatV = true := by
  rw [List.all_eq_true]
  intro v hv
  obtain ⟨x, _, rfl⟩ := List.mem_map.mp hv
  rfl
theorem inV_strs (x : Str) (xs : List Str) : inV (.str x) (xs.map V.str) = decide (x ∈ xs) := by
  unfold inV
  rw [List.any_map]
  induction xs with
  | nil => rfl
  | cons y r ih =>
    rw [List.any_cons, ih]
    show ((y == x) || decide (x ∈ r)) = decide (x ∈ y :: r)
    by_cases h : y = x
    · subst h
      simp
    · have h2 : (y == x) = false := beq_eq_false_iff_ne.mpr h
      rw [h2, Bool.false_or]
      have : (x ∈ y :: r) ↔ x ∈ r := by
        rw [List.mem_cons]
        exact ⟨fun z => z.resolve_left fun q => h q.symm, Or.inr⟩
      exact decide_eq_decide.mpr this.symm
theorem bT {p : Prop} [Decidable p] (h : p) : V.bl (decide p) = .bl true := by rw [decide_eq_true h]
theorem bF {p : Prop} [Decidable p] (h : ¬ p) : V.bl (decide p) = .bl false := by rw [decide_eq_false h]
/-! ### the web's object -/
def wf (a b : Addr) : List (Str × V) := putF "own_ties" (.ref b) (putF "own_points" (.ref a) [])
theorem wf_ne : ¬ (("own_points" : Str) = "own_ties") := by decide +kernel
theorem wf_points (a b : Addr) : (wf a b).lookup ("own_points" : Str) = some (.ref a) := by
  unfold wf
  rw [lookup_putF, if_neg wf_ne, lookup_putF, if_pos rfl]
theorem wf_ties (a b : Addr) : (wf a b).lookup ("own_ties" : Str) = some (.ref b) := by
  unfold wf
  rw [lookup_putF, if_pos rfl]
theorem wf_no (a b : Addr) {m : Str} (h1 : ¬ m = "own_ties") (h2 : ¬ m = "own_points") : (wf a b).lookup m = none := by
  unfold wf
  rw [lookup_putF, if_neg h1, lookup_putF, if_neg h2]
  rfl
theorem wf_mp (a b : Addr) : (wf a b).lookup ("points" : Str) = none := wf_no a b (by decide +kernel) (by decide +kernel)
theorem wf_mt (a b : Addr) : (wf a b).lookup ("ties" : Str) = none := wf_no a b (by decide +kernel) (by decide +kernel)
theorem wf_mm (a b : Addr) : (wf a b).lookup ("many" : Str) = none := wf_no a b (by decide +kernel) (by decide +kernel)
def WebAt (K : PySem.W.Frag) (H : Hp) (x : Addr) (ns : List Str) (ats : Ats) : Prop :=
  ∃ dx a b, H x = some (.ins (He.ga K "Web") dx (wf a b)) ∧ H a = some (.lst (ns.map V.str)) ∧ H b = some (.lst ats.vals) ∧ TupsAt H ats
theorem WebAt.same {K : PySem.W.Frag} {H H' : Hp} {x : Addr} {ns : List Str} {ats : Ats} (h : WebAt K H x ns ats) (e : Same H H') : WebAt K H' x ns ats := by
  obtain ⟨dx, a, b, h1, h2, h3, h4⟩ := h
  exact ⟨dx, a, b, e _ _ h1, e _ _ h2, e _ _ h3, h4.same e⟩
theorem WebAt.kp {K : PySem.W.Frag} {H H' : Hp} {x p : Addr} {ns : List Str} {ats : Ats} (h : WebAt K H x ns ats) (hp : Pot H p) (n1 : 1 ≤ ns.length) (e : Kp p H H') : WebAt K H' x ns ats := by
  obtain ⟨dx, a, b, g1, g2, g3, g4⟩ := h
  obtain ⟨u1, u2, h1, h2, u3⟩ := id hp
  refine ⟨dx, a, b, e _ _ (ne_of g1 u3 (by intro z; cases z)) g1, e _ _ ?_ g2, e _ _ ?_ g3, g4.kp hp e⟩
  · intro z
    rw [z, u3] at g2
    have := HO.lst.inj (Option.some.inj g2)
    cases ns with
    | nil => simp at n1
    | cons y r => cases this
  · intro z
    rw [z, u3] at g3
    have := HO.lst.inj (Option.some.inj g3)
    unfold Ats.vals at this
    cases ats with
    | nil => cases this
    | cons y r => cases this
structure WebOk (ns : List Str) (ats : Ats) : Prop where
  names : NamesOk ns
  n1 : 1 ≤ ns.length
  n9 : ns.length ≤ 9
  t20 : ats.length ≤ 20
  ties : ∀ x ∈ ats, TieOk ns x.2
/-! ### promises -/
def spIsRow (K : PySem.W.Frag) : Sp := fun vs H Q _ => ∃ (v : V) (t : Value) (b : Bool), vs = [v] ∧ TyX K H v t ∧ PySem.W.kitAny K t [.type "list", .type "tuple"] = some b ∧ ∀ H', Same H H' → Q (.bl b) H'
def spIsName : Sp := fun vs H Q _ => ∃ x : Str, vs = [.str x] ∧ IsName x ∧ ∀ H', Same H H' → Q (.bl true) H'
def spAreNames (K : PySem.W.Frag) : Sp := fun vs H Q _ => ∃ (a : Addr) (ns : List Str), vs = [.ref a] ∧ H a = some (.lst (ns.map V.str)) ∧ NamesOk ns ∧ 1 ≤ ns.length ∧ ns.length ≤ 9 ∧ ∀ H', Same H H' → Q (.bl true) H'
def spIsPair (K : PySem.W.Frag) : Sp := fun vs H Q _ => ∃ (a t : Addr) (ns : List Str) (x y : Str), vs = [.ref a, .ref t] ∧ H a = some (.lst (ns.map V.str)) ∧ H t = some (.tup [.str x, .str y]) ∧ (∀ z ∈ ns, IsName z) ∧ TieOk ns (x, y) ∧ ∀ H', Same H H' → Q (.bl true) H'
def spWebInit (K : PySem.W.Frag) : Sp := fun vs H Q _ => ∃ (x dx a b : Addr) (ns : List Str) (ats : Ats), vs = [.ref x, .ref a, .ref b] ∧ H x = some (.ins (He.ga K "Web") dx []) ∧ H a = some (.lst (ns.map V.str)) ∧ H b = some (.lst ats.vals) ∧ TupsAt H ats ∧ WebOk ns ats ∧
  ∀ H', (∀ c o, H c = some o → c ≠ x → H' c = some o) → WebAt K H' x ns ats → Q .non H'
def spPoints (K : PySem.W.Frag) : Sp := fun vs H Q _ => ∃ (x : Addr) (ns : List Str) (ats : Ats), vs = [.ref x] ∧ WebAt K H x ns ats ∧ ∀ l, H l = none → Q (.ref l) (upd H l (.lst (ns.map V.str)))
def spTies (K : PySem.W.Frag) : Sp := fun vs H Q _ => ∃ (x : Addr) (ns : List Str) (ats : Ats), vs = [.ref x] ∧ WebAt K H x ns ats ∧ ∀ l, H l = none → Q (.ref l) (upd H l (.lst ats.vals))
def spMany (K : PySem.W.Frag) : Sp := fun vs H Q _ => ∃ (x : Addr) (ns : List Str) (ats : Ats), vs = [.ref x] ∧ WebAt K H x ns ats ∧ Q (.int (ats.length : Nat)) H
theorem small_eq : ("abcdefghijklmnopqrstuvwxyz" : Str).cps.toList = List.range' 97 26 := letters_eq
theorem code_in {c : Nat} (h : Code c) : decide (c ∈ ("abcdefghijklmnopqrstuvwxyz" : Str).cps.toList) = true := by
  rw [letters_eq]
  refine decide_eq_true (List.mem_range'.mpr ⟨c - 97, ?_, ?_⟩)
  · have := h.2
    have := h.1
    omega
  · have := h.1
    omega
/-- making a web -/
theorem make_web {K : PySem.W.Frag} {H : Hp} {a b : Addr} {ns : List Str} {ats : Ats} {Q : Addr → Hp → Prop} {E : XK} (ea : H a = some (.lst (ns.map V.str))) (eb : H b = some (.lst ats.vals)) (hT : TupsAt H ats) (ok : WebOk ns ats)
    (k : ∀ x H', H x = none → Same H H' → WebAt K H' x ns ats → Q x H') :
    ∀ x dx, H x = none → H dx = none → dx ≠ x → spWebInit K [.ref x, .ref a, .ref b] (upd (upd H dx (.own x)) x (.ins (He.ga K "Web") dx [])) (fun v H2 => v = .non ∧ Q x H2) E := fun x dx nx ndx ne => by
  have sM : Same H (upd (upd H dx (.own x)) x (.ins (He.ga K "Web") dx [])) := fun z o h => by
    rw [upd_ne (ne_of_none h nx), upd_ne (ne_of_none h ndx)]
    exact h
  exact ⟨x, dx, a, b, ns, ats, rfl, upd_same, sM _ _ ea, sM _ _ eb, hT.same sM, ok, fun H' k' hW => ⟨rfl, k x H' nx (Same.made nx ndx k') hW⟩⟩
theorem name_of {x : Str} (l : List Nat) (e : x = SX.S l) (h1 : 1 ≤ l.length) (h4 : l.length ≤ 4) (h : l.all (fun c => decide (97 ≤ c ∧ c ≤ 122)) = true) : IsName x :=
  ⟨l, e, h1, h4, fun c hc => (of_decide_eq_true (List.all_eq_true.mp h c hc) : 97 ≤ c ∧ c ≤ 122)⟩
theorem names_lit {ns : List Str} (h : ∀ x ∈ ns, IsName x) (nd : ns.Nodup) : NamesOk ns := ⟨nd, h⟩
end PW

namespace PW
open PySem PySem.Spec PyProof.Rows L2
/-! ### plain data: texts, ints, None, lists and tuples of such -/
inductive Plain : Nat → PyData → Prop
  | str {n : Nat} {x : Str} : PyData.strOk x = true → Plain n (.str x)
  | int {n : Nat} (i : Int) : Plain n (.int i)
  | non {n : Nat} : Plain n .none
  | list {n : Nat} {ds : List PyData} : (∀ d, d ∈ ds → Plain n d) → Plain (n + 1) (.list ds)
  | tuple {n : Nat} {ds : List PyData} : (∀ d, d ∈ ds → Plain n d) → Plain (n + 1) (.tuple ds)
theorem lay_all {ds : List PyData} (h : ∀ d, d ∈ ds → d.canLay0 = true) : PyData.canLayAll0 ds = true := by
  induction ds with
  | nil => rfl
  | cons x r ih =>
    show (x.canLay0 && PyData.canLayAll0 r) = true
    rw [h x List.mem_cons_self, ih fun d hd => h d (List.mem_cons_of_mem _ hd)]
    rfl
theorem depth_all {n : Nat} {ds : List PyData} (h : ∀ d, d ∈ ds → d.depth ≤ n) : PyData.depthAll ds ≤ n := by
  induction ds with
  | nil => exact Nat.zero_le _
  | cons x r ih =>
    show max x.depth (PyData.depthAll r) ≤ n
    exact Nat.max_le.mpr ⟨h x List.mem_cons_self, ih fun d hd => h d (List.mem_cons_of_mem _ hd)⟩
theorem Plain.lay {n : Nat} {d : PyData} (h : Plain n d) : d.canLay0 = true := by
  induction h with
  | str e => exact e
  | int i => rfl
  | non => rfl
  | list _ ih => exact lay_all ih
  | tuple _ ih => exact lay_all ih
theorem Plain.depth_le {n : Nat} {d : PyData} (h : Plain n d) : d.depth ≤ n := by
  induction h with
  | str e => exact Nat.zero_le _
  | int i => exact Nat.zero_le _
  | non => exact Nat.zero_le _
  | list _ ih => exact Nat.succ_le_succ (depth_all ih)
  | tuple _ ih => exact Nat.succ_le_succ (depth_all ih)
theorem Plain.shaped {n : Nat} {d : PyData} (h : Plain n d) (hn : n ≤ 64 := by decide) : SeqAt.shaped d = true := by
  unfold SeqAt.shaped
  rw [h.lay, decide_eq_true (Nat.le_trans h.depth_le hn)]
  rfl
theorem eqvAll_iff {ds es : List PyData} (h : ∀ d, d ∈ ds → ∀ e, e ∈ es → (PyData.eqv d e = true ↔ d = e)) : PyData.eqvAll ds es = true ↔ ds = es := by
  induction ds generalizing es with
  | nil =>
    cases es with
    | nil => exact ⟨fun _ => rfl, fun _ => rfl⟩
    | cons y r => exact ⟨fun z => by simp [PyData.eqvAll] at z, fun z => by cases z⟩
  | cons x r ih =>
    cases es with
    | nil => exact ⟨fun z => by simp [PyData.eqvAll] at z, fun z => by cases z⟩
    | cons y q =>
      rw [PyData.eqvAll, Bool.and_eq_true, h x List.mem_cons_self y List.mem_cons_self, ih fun d hd e he => h d (List.mem_cons_of_mem _ hd) e (List.mem_cons_of_mem _ he)]
      exact ⟨fun ⟨a, b⟩ => by rw [a, b], fun z => ⟨(List.cons.inj z).1, (List.cons.inj z).2⟩⟩
theorem Plain.eqv_iff {n : Nat} {d : PyData} (h : Plain n d) : ∀ {m : Nat} {e : PyData}, Plain m e → (PyData.eqv d e = true ↔ d = e) := by
  induction h with
  | @str n x hx =>
    intro m e g
    cases g with
    | @str _ y _ =>
      rw [PyData.eqv, beq_iff_eq]
      exact ⟨fun z => by rw [z], fun z => PyData.str.inj z⟩
    | int i => exact ⟨fun z => by simp [PyData.eqv] at z, fun z => by cases z⟩
    | non => exact ⟨fun z => by simp [PyData.eqv] at z, fun z => by cases z⟩
    | list _ => exact ⟨fun z => by simp [PyData.eqv] at z, fun z => by cases z⟩
    | tuple _ => exact ⟨fun z => by simp [PyData.eqv] at z, fun z => by cases z⟩
  | @int n i =>
    intro m e g
    cases g with
    | str _ => exact ⟨fun z => by simp [PyData.eqv] at z, fun z => by cases z⟩
    | int j =>
      rw [PyData.eqv, beq_iff_eq]
      exact ⟨fun z => by rw [z], fun z => PyData.int.inj z⟩
    | non => exact ⟨fun z => by simp [PyData.eqv] at z, fun z => by cases z⟩
    | list _ => exact ⟨fun z => by simp [PyData.eqv] at z, fun z => by cases z⟩
    | tuple _ => exact ⟨fun z => by simp [PyData.eqv] at z, fun z => by cases z⟩
  | non =>
    intro m e g
    cases g with
    | str _ => exact ⟨fun z => by simp [PyData.eqv] at z, fun z => by cases z⟩
    | int j => exact ⟨fun z => by simp [PyData.eqv] at z, fun z => by cases z⟩
    | non => exact ⟨fun _ => rfl, fun _ => rfl⟩
    | list _ => exact ⟨fun z => by simp [PyData.eqv] at z, fun z => by cases z⟩
    | tuple _ => exact ⟨fun z => by simp [PyData.eqv] at z, fun z => by cases z⟩
  | @list n ds hd ih =>
    intro m e g
    cases g with
    | str _ => exact ⟨fun z => by simp [PyData.eqv] at z, fun z => by cases z⟩
    | int j => exact ⟨fun z => by simp [PyData.eqv] at z, fun z => by cases z⟩
    | non => exact ⟨fun z => by simp [PyData.eqv] at z, fun z => by cases z⟩
    | @list m es he =>
      rw [PyData.eqv, eqvAll_iff fun d hd e he' => ih d hd (he e he')]
      exact ⟨fun z => by rw [z], fun z => PyData.list.inj z⟩
    | tuple _ => exact ⟨fun z => by simp [PyData.eqv] at z, fun z => by cases z⟩
  | @tuple n ds hd ih =>
    intro m e g
    cases g with
    | str _ => exact ⟨fun z => by simp [PyData.eqv] at z, fun z => by cases z⟩
    | int j => exact ⟨fun z => by simp [PyData.eqv] at z, fun z => by cases z⟩
    | non => exact ⟨fun z => by simp [PyData.eqv] at z, fun z => by cases z⟩
    | list _ => exact ⟨fun z => by simp [PyData.eqv] at z, fun z => by cases z⟩
    | @tuple m es he =>
      rw [PyData.eqv, eqvAll_iff fun d hd e he' => ih d hd (he e he')]
      exact ⟨fun z => by rw [z], fun z => PyData.tuple.inj z⟩
theorem Plain.eqv_self {n : Nat} {d : PyData} (h : Plain n d) : PyData.eqv d d = true := (h.eqv_iff h).mpr rfl
theorem Plain.eqv_ne {n m : Nat} {d e : PyData} (h : Plain n d) (g : Plain m e) (ne : d ≠ e) : PyData.eqv d e = false := by
  cases z : PyData.eqv d e with
  | false => rfl
  | true => exact absurd ((h.eqv_iff g).mp z) ne
/-! ### what stands in the heap, as data -/
theorem dp_map {α : Type} {K : PySem.W.Frag} {H : Hp} {f : α → V} {g : α → PyData} : ∀ {xs : List α}, (∀ x, x ∈ xs → Dp K H (f x) (g x)) → DpAll K H (xs.map f) (xs.map g)
  | [], _ => .nil
  | x :: r, h => .cons (h x List.mem_cons_self) (dp_map fun y hy => h y (List.mem_cons_of_mem _ hy))
def dS (xs : List Str) : PyData := .list (xs.map PyData.str)
def dSS (xs : List (List Str)) : PyData := .list (xs.map dS)
theorem dp_strs {K : PySem.W.Frag} {H : Hp} {a : Addr} {xs : List Str} (h : SqL K H a (xs.map V.str)) : Dp K H (.ref a) (dS xs) := .lst h (dp_map fun x _ => .str x)
theorem strOk_name {x : Str} (h : IsName x) : PyData.strOk x = true := by
  obtain ⟨l, rfl, _, _, hc⟩ := h
  unfold PyData.strOk
  have : (SX.S l).cps = l.toArray := rfl
  simp only [this]
  rw [Array.all_eq_true_iff_forall_mem]
  intro c hcm
  have := hc c (by simpa using hcm)
  unfold Code at this
  simp
  omega
theorem plain_dS {xs : List Str} (h : ∀ x ∈ xs, IsName x) : Plain 1 (dS xs) := .list fun d hd => by
  obtain ⟨x, hx, rfl⟩ := List.mem_map.mp hd
  exact .str (strOk_name (h x hx))
theorem plain_dSS {xs : List (List Str)} (h : ∀ l ∈ xs, ∀ x ∈ l, IsName x) : Plain 2 (dSS xs) := .list fun d hd => by
  obtain ⟨x, hx, rfl⟩ := List.mem_map.mp hd
  exact plain_dS (h x hx)
theorem map_inj {α β : Type} {f : α → β} (hf : ∀ a b, f a = f b → a = b) : ∀ {xs ys : List α}, xs.map f = ys.map f → xs = ys
  | [], [], _ => rfl
  | [], _ :: _, h => by cases h
  | _ :: _, [], h => by cases h
  | x :: xs, y :: ys, h => by
    rw [List.map_cons, List.map_cons] at h
    obtain ⟨h1, h2⟩ := List.cons.inj h
    rw [hf _ _ h1, map_inj hf h2]
theorem dS_inj {xs ys : List Str} (h : dS xs = dS ys) : xs = ys := map_inj (fun _ _ z => PyData.str.inj z) (PyData.list.inj h)
theorem dSS_inj {xs ys : List (List Str)} (h : dSS xs = dSS ys) : xs = ys := map_inj (fun _ _ z => dS_inj z) (PyData.list.inj h)
/-- lists of texts at addresses -/
abbrev Als := List (Addr × List Str)
def Als.vals (l : Als) : List V := l.map fun c => V.ref c.1
def Als.lists (l : Als) : List (List Str) := l.map fun c => c.2
def LstsAt (H : Hp) (l : Als) : Prop := ∀ c ∈ l, H c.1 = some (.lst (c.2.map V.str))
theorem LstsAt.same {H H' : Hp} {l : Als} (h : LstsAt H l) (e : Same H H') : LstsAt H' l := fun c hc => e _ _ (h c hc)
theorem dp_als {K : PySem.W.Frag} {H : Hp} {a : Addr} {l : Als} (h : SqL K H a l.vals) (g : LstsAt H l) : Dp K H (.ref a) (dSS l.lists) := by
  unfold dSS Als.lists
  rw [List.map_map]
  exact .lst h (dp_map fun c hc => dp_strs (SqL.of (g c hc)))
theorem Als.vals_len (l : Als) : l.vals.length = l.length := by
  unfold Als.vals
  rw [List.length_map]
theorem Als.vals_snoc (l : Als) (x : Addr × List Str) : Als.vals (l ++ [x]) = l.vals ++ [V.ref x.1] := by
  unfold Als.vals
  rw [List.map_append]
  rfl
theorem Als.lists_snoc (l : Als) (x : Addr × List Str) : Als.lists (l ++ [x]) = l.lists ++ [x.2] := by
  unfold Als.lists
  rw [List.map_append]
  rfl
theorem Als.vals_at {l : Als} {i : Nat} {v : V} (h : l.vals[i]? = some v) : ∃ x, l[i]? = some x ∧ v = V.ref x.1 := by
  unfold Als.vals at h
  rw [List.getElem?_map] at h
  cases e : l[i]? with
  | none =>
    rw [e] at h
    cases h
  | some x =>
    rw [e] at h
    exact ⟨x, rfl, (Option.some.inj h).symm⟩
def dI (xs : List Int) : PyData := .list (xs.map PyData.int)
theorem dp_ints {K : PySem.W.Frag} {H : Hp} {a : Addr} {xs : List Int} (h : SqL K H a (xs.map V.int)) : Dp K H (.ref a) (dI xs) := .lst h (dp_map fun x _ => .int x)
theorem plain_dI (xs : List Int) : Plain 1 (dI xs) := .list fun d hd => by
  obtain ⟨x, _, rfl⟩ := List.mem_map.mp hd
  exact .int x
theorem dI_inj {xs ys : List Int} (h : dI xs = dI ys) : xs = ys := map_inj (fun _ _ z => PyData.int.inj z) (PyData.list.inj h)
def dBar (p : Nat × List Str) : PyData := .tuple [.int (p.1 : Nat), dS p.2]
def dBars (l : List (Nat × List Str)) : PyData := .list (l.map dBar)
theorem plain_dBar {p : Nat × List Str} (h : ∀ x ∈ p.2, IsName x) : Plain 2 (dBar p) := .tuple fun d hd => by
  rcases List.mem_cons.mp hd with rfl | hd
  · exact .int _
  · rw [List.mem_singleton.mp hd]
    exact plain_dS h
theorem plain_dBars {l : List (Nat × List Str)} (h : ∀ p ∈ l, ∀ x ∈ p.2, IsName x) : Plain 3 (dBars l) := .list fun d hd => by
  obtain ⟨p, hp, rfl⟩ := List.mem_map.mp hd
  exact plain_dBar (h p hp)
end PW

namespace PW
open PySem PySem.Spec PyProof.Rows L2
/-! ### loops by what holds at each turn -/
theorem loop_inv {α : Type} {g : DGW} {tb : DSW} {X : XC} {E : DEnds} (f : α → Bool × D) (xs : List α) (Pv : Nat → DEnv → Prop) {ρ : DEnv} (h0 : Pv 0 ρ)
    (hs : ∀ (i : Nat) (x : α) (ρ : DEnv) (k : DEnv → Prop), xs[i]? = some x → Pv i ρ → (∀ ρ', Pv (i + 1) ρ' → k ρ') → g (f x) ρ fun ρ1 => tb X { E with nx := k, ct := k, bk := E.nx } ρ1)
    (hd : ∀ ρ, Pv xs.length ρ → E.nx ρ) : loopC g tb X E (xs.map f) ρ := by
  rw [loopC_eq]
  have key : ∀ (n i : Nat) (ρ : DEnv), xs.length - i = n → i ≤ xs.length → Pv i ρ → dLoop g tb X E ((xs.drop i).map f) ρ := by
    intro n
    induction n with
    | zero =>
      intro i ρ e hi h
      have : i = xs.length := by omega
      subst this
      rw [List.drop_length]
      exact hd ρ h
    | succ n ih =>
      intro i ρ e hi h
      have hlt : i < xs.length := by omega
      rw [List.drop_eq_getElem_cons hlt, List.map_cons]
      exact hs i xs[i] ρ _ (List.getElem?_eq_getElem hlt) h fun ρ' h' => ih (i + 1) ρ' (by omega) hlt h'
  exact key _ 0 ρ rfl (Nat.zero_le _) h0
/-- .. over numbers -/
theorem range_inv {g : DGW} {tb : DSW} {X : XC} {E : DEnds} (lo : Int) (n : Nat) (Pv : Nat → DEnv → Prop) {ρ : DEnv} (h0 : Pv 0 ρ)
    (hs : ∀ (i : Nat) (ρ : DEnv) (k : DEnv → Prop), i < n → Pv i ρ → (∀ ρ', Pv (i + 1) ρ' → k ρ') → g (true, .int (lo + (i : Nat))) ρ fun ρ1 => tb X { E with nx := k, ct := k, bk := E.nx } ρ1)
    (hd : ∀ ρ, Pv n ρ → E.nx ρ) : loopC g tb X E (rangeD lo n) ρ := by
  unfold rangeD
  refine loop_inv (fun i : Nat => (true, D.int (lo + (i : Nat)))) (List.range n) Pv h0 (fun i x ρ k hx h hk => ?_) fun ρ h => hd ρ (by rw [List.length_range] at h; exact h)
  obtain ⟨hl, e⟩ := List.getElem?_eq_some_iff.mp hx
  rw [List.getElem_range] at e
  subst e
  exact hs i ρ k (by rw [List.length_range] at hl; exact hl) h hk
/-! ### comprehensions -/
/-- one turn -/
def lcTurn (g : DGW) (tt : DTW) (te : DW) (vs : List Nat) (p : Bool × D) (ρ : DEnv) (k1 : Bool → D → DEnv → Prop) (k2 : DEnv → Prop) : Prop :=
  g p ρ fun ρ2 => tt noX ρ2 fun b ρ3 => ifC b (te noX ρ3 fun y ρ4 => match st ρ4 y.tmp with
      | some (r, d, ρ5) => noPots ρ5 vs = true ∧ k1 r d (wipeD ρ5 vs)
      | none => False)
    (noPots ρ3 vs = true ∧ k2 (wipeD ρ3 vs))
/-- by what holds of the list made so far -/
theorem lc_inv {α : Type} {g : DGW} {tt : DTW} {te : DW} {vs : List Nat} {kk : Bool → List D → DEnv → Prop} (f : α → Bool × D) (xs : List α) (Pv : Nat → Bool → List D → DEnv → Prop) {ra : Bool} {acc : List D} {ρ : DEnv} (h0 : Pv 0 ra acc ρ)
    (hs : ∀ (i : Nat) (x : α) (ra : Bool) (acc : List D) (ρ : DEnv) (k1 : Bool → D → DEnv → Prop) (k2 : DEnv → Prop), xs[i]? = some x → Pv i ra acc ρ → (∀ r d ρ', Pv (i + 1) (ra && r) (acc ++ [d]) ρ' → k1 r d ρ') → (∀ ρ', Pv (i + 1) ra acc ρ' → k2 ρ') → lcTurn g tt te vs (f x) ρ k1 k2)
    (hd : ∀ ra acc ρ, Pv xs.length ra acc ρ → kk ra acc ρ) : dLcL g tt te vs kk (xs.map f) ra acc ρ := by
  have key : ∀ (n i : Nat) (ra : Bool) (acc : List D) (ρ : DEnv), xs.length - i = n → i ≤ xs.length → Pv i ra acc ρ → dLcL g tt te vs kk ((xs.drop i).map f) ra acc ρ := by
    intro n
    induction n with
    | zero =>
      intro i ra acc ρ e hi h
      have : i = xs.length := by omega
      subst this
      rw [List.drop_length]
      exact hd ra acc ρ h
    | succ n ih =>
      intro i ra acc ρ e hi h
      have hlt : i < xs.length := by omega
      rw [List.drop_eq_getElem_cons hlt, List.map_cons]
      exact hs i xs[i] ra acc ρ (fun r d ρ' => dLcL g tt te vs kk ((xs.drop (i + 1)).map f) (ra && r) (acc ++ [d]) ρ') (fun ρ' => dLcL g tt te vs kk ((xs.drop (i + 1)).map f) ra acc ρ') (List.getElem?_eq_getElem hlt) h
        (fun r d ρ' h' => ih (i + 1) _ _ ρ' (by omega) hlt h') fun ρ' h' => ih (i + 1) _ _ ρ' (by omega) hlt h'
  exact key _ 0 ra acc ρ rfl (Nat.zero_le _) h0
/-- [h(x) for x in xs if p(x)], nothing else changes -/
theorem lc_pure {α : Type} {g : DGW} {tt : DTW} {te : DW} {vs : List Nat} {kk : Bool → List D → DEnv → Prop} (f : α → Bool × D) (xs : List α) (p : α → Bool) (h : α → D) {ρ : DEnv}
    (hs : ∀ x, x ∈ xs → ∀ (k1 : Bool → D → DEnv → Prop) (k2 : DEnv → Prop), (p x = true → k1 true (h x) ρ) → (p x = false → k2 ρ) → lcTurn g tt te vs (f x) ρ k1 k2)
    (hd : kk true ((xs.filter p).map h) ρ) : lcC g tt te vs kk (xs.map f) ρ := by
  rw [lcC_eq]
  refine lc_inv f xs (fun i ra acc ρ' => ra = true ∧ acc = ((xs.take i).filter p).map h ∧ ρ' = ρ) ⟨rfl, rfl, rfl⟩ (fun i x ra acc ρ' k1 k2 hx ⟨e1, e2, e3⟩ h1 h2 => ?_) fun ra acc ρ' ⟨e1, e2, e3⟩ => ?_
  · subst e1 e2 e3
    have tk : xs.take (i + 1) = xs.take i ++ [x] := by
      rw [List.take_add_one, hx]
      rfl
    refine hs x (List.mem_of_getElem? hx) k1 k2 (fun e => h1 _ _ _ ⟨rfl, ?_, rfl⟩) fun e => h2 _ ⟨rfl, ?_, rfl⟩
    · rw [tk, List.filter_append, List.filter_cons_of_pos e, List.filter_nil, List.map_append]
      rfl
    · rw [tk, List.filter_append, List.filter_cons_of_neg (by rw [e]; exact Bool.false_ne_true), List.filter_nil, List.append_nil]
  · subst e1 e2 e3
    rw [List.take_length]
    exact hd
/-- [h(x) for x in xs] -/
theorem lc_map {α : Type} {g : DGW} {tt : DTW} {te : DW} {vs : List Nat} {kk : Bool → List D → DEnv → Prop} (f : α → Bool × D) (xs : List α) (h : α → D) {ρ : DEnv}
    (hs : ∀ x, x ∈ xs → ∀ (k1 : Bool → D → DEnv → Prop) (k2 : DEnv → Prop), k1 true (h x) ρ → lcTurn g tt te vs (f x) ρ k1 k2)
    (hd : kk true (xs.map h) ρ) : lcC g tt te vs kk (xs.map f) ρ := by
  refine lc_pure f xs (fun _ => true) h (fun x hx k1 k2 h1 _ => hs x hx k1 k2 (h1 rfl)) ?_
  rw [List.filter_eq_self.mpr fun _ _ => rfl]
  exact hd
/-- .. the things as a list of data -/
theorem lcm {α : Type} {g : DGW} {tt : DTW} {te : DW} {vs : List Nat} {kk : Bool → List D → DEnv → Prop} {e : α → D} {xs : List α} {r : Bool} {ρ : DEnv} (h : lcC g tt te vs kk (xs.map fun x => (r, e x)) ρ) : lcC g tt te vs kk ((xs.map e).map fun d => (r, d)) ρ := by
  rw [List.map_map]
  exact h
theorem loopm {α : Type} {g : DGW} {tb : DSW} {X : XC} {E : DEnds} {e : α → D} {xs : List α} {r : Bool} {ρ : DEnv} (h : loopC g tb X E (xs.map fun x => (r, e x)) ρ) : loopC g tb X E ((xs.map e).map fun d => (r, d)) ρ := by
  rw [List.map_map]
  exact h
/-- each by a draw: Rl tells what may come of x -/
theorem lc_drawn {α β : Type} {g : DGW} {tt : DTW} {te : DW} {vs : List Nat} {kk : Bool → List D → DEnv → Prop} (f : α → Bool × D) (xs : List α) (Rl : α → β → Prop) (h : β → D) {ρ : DEnv}
    (hs : ∀ x, x ∈ xs → ∀ (k1 : Bool → D → DEnv → Prop) (k2 : DEnv → Prop), (∀ y, Rl x y → k1 true (h y) ρ) → lcTurn g tt te vs (f x) ρ k1 k2)
    (hd : ∀ ys : List β, ys.length = xs.length → (∀ (i : Nat) (x : α) (y : β), xs[i]? = some x → ys[i]? = some y → Rl x y) → kk true (ys.map h) ρ) : lcC g tt te vs kk (xs.map f) ρ := by
  rw [lcC_eq]
  refine lc_inv f xs (fun i ra acc ρ' => ra = true ∧ ρ' = ρ ∧ i ≤ xs.length ∧ ∃ ys : List β, acc = ys.map h ∧ ys.length = i ∧ ∀ (j : Nat) (x : α) (y : β), xs[j]? = some x → ys[j]? = some y → Rl x y) ⟨rfl, rfl, Nat.zero_le _, [], rfl, rfl, fun _ _ _ _ z => by cases z⟩ (fun i x ra acc ρ' k1 k2 hx ⟨e1, e3, hi, ys, e2, e4, e5⟩ h1 h2 => ?_) fun ra acc ρ' ⟨e1, e3, hi, ys, e2, e4, e5⟩ => ?_
  · subst e1 e2 e3
    refine hs x (List.mem_of_getElem? hx) k1 k2 fun y hy => h1 _ _ _ ⟨rfl, rfl, (List.getElem?_eq_some_iff.mp hx).1, ys ++ [y], by rw [List.map_append]; rfl, by rw [List.length_append, List.length_singleton, e4], fun j x' y' hj hj' => ?_⟩
    by_cases z : j < ys.length
    · rw [List.getElem?_append_left z] at hj'
      exact e5 j x' y' hj hj'
    · rw [List.getElem?_append_right (by omega)] at hj'
      have hji : j = i := by
        have : j - ys.length = 0 := by
          cases q : j - ys.length with
          | zero => rfl
          | succ m =>
            rw [q] at hj'
            cases hj'
        omega
      subst hji
      rw [e4, Nat.sub_self] at hj'
      cases hj'
      rw [hx] at hj
      cases hj
      exact hy
  · subst e1 e2 e3
    exact hd ys e4 e5
/-! ### small facts of data -/
theorem immL_map {α : Type} {f : α → D} (h : ∀ x, (f x).imm = true) : ∀ xs : List α, D.immL (xs.map f) = true
  | [] => by rw [List.map_nil, D.immL]
  | x :: xs => by rw [List.map_cons, D.immL, h x, immL_map h xs]; rfl
theorem imm_str (s : Str) : (D.str s).imm = true := by simp [D.imm]
theorem imm_int (s : Int) : (D.int s).imm = true := by simp [D.imm]
theorem imm_bl (s : Bool) : (D.bl s).imm = true := by simp [D.imm]
theorem immL_str (ns : List Str) : D.immL (ns.map D.str) = true := immL_map imm_str ns
theorem immL_int (ns : List Int) : D.immL (ns.map D.int) = true := immL_map imm_int ns
theorem immL_bl (ns : List Bool) : D.immL (ns.map D.bl) = true := immL_map imm_bl ns
def nmsD (ns : List Str) : D := .lst (ns.map D.str)
def tieD (t : Str × Str) : D := .tup [.str t.1, .str t.2]
def tiesD (ts : List (Str × Str)) : D := .lst (ts.map tieD)
def intsL (ns : List Int) : D := .lst (ns.map D.int)
def webD (ns : List Str) (ts : List (Str × Str)) : D := .ins "Web" [("own_points", nmsD ns), ("own_ties", tiesD ts)]
theorem imm_tie (t : Str × Str) : (tieD t).imm = true := by simp [tieD, D.imm, D.immL]
theorem immL_tie (ts : List (Str × Str)) : D.immL (ts.map tieD) = true := immL_map imm_tie ts
theorem immL_app : ∀ xs ys : List D, D.immL (xs ++ ys) = (D.immL xs && D.immL ys)
  | [], ys => by rw [List.nil_append, D.immL, Bool.true_and]
  | x :: xs, ys => by rw [List.cons_append, D.immL, D.immL, immL_app xs ys, Bool.and_assoc]
theorem flat_str (ns : List Str) : (ns.map D.str).all D.flat = true := by
  rw [List.all_map]
  exact List.all_eq_true.mpr fun _ _ => rfl
theorem flat_int (ns : List Int) : (ns.map D.int).all D.flat = true := by
  rw [List.all_map]
  exact List.all_eq_true.mpr fun _ _ => rfl
theorem inF_str (s : Str) (ns : List Str) : inF (.str s) (ns.map D.str) = decide (s ∈ ns) := by
  unfold inF inV
  rw [List.map_map, List.any_map, Bool.eq_iff_iff, List.any_eq_true, decide_eq_true_iff]
  constructor
  · rintro ⟨x, hx, e⟩
    have e : (x == s) = true := e
    rw [beq_iff_eq] at e
    exact e ▸ hx
  · intro h
    exact ⟨s, h, (beq_self_eq_true s : (s == s) = true)⟩
theorem inF_int (s : Int) (ns : List Int) : inF (.int s) (ns.map D.int) = decide (s ∈ ns) := by
  unfold inF inV
  rw [List.map_map, List.any_map, Bool.eq_iff_iff, List.any_eq_true, decide_eq_true_iff]
  constructor
  · rintro ⟨x, hx, e⟩
    have e : (x == s) = true := e
    rw [beq_iff_eq] at e
    exact e ▸ hx
  · intro h
    exact ⟨s, h, (beq_self_eq_true s : (s == s) = true)⟩
theorem boolsD_map (bs : List Bool) : boolsD (bs.map D.bl) = some bs := by
  induction bs with
  | nil => rfl
  | cons b bs ih => rw [List.map_cons, boolsD, ih]; rfl
theorem boolsD_fn {α : Type} (f : α → Bool) (xs : List α) : boolsD (xs.map fun x => D.bl (f x)) = some (xs.map f) := by
  have := boolsD_map (xs.map f)
  rw [List.map_map] at this
  exact this
theorem all_fn {α : Type} (f : α → Bool) (xs : List α) : (xs.map f).all id = xs.all f := by
  rw [List.all_map]
  rfl
theorem all_t {α : Type} (xs : List α) : (xs.map fun _ => true).all id = true := by
  rw [List.all_map]
  exact List.all_eq_true.mpr fun _ _ => rfl
theorem intsD_map (bs : List Int) : intsD (bs.map D.int) = some bs := by
  induction bs with
  | nil => rfl
  | cons b bs ih => rw [List.map_cons, intsD, ih]; rfl
theorem isi_NoneType_int : isiN "NoneType" "int" = false := by decide
theorem isi_NoneType_bool : isiN "NoneType" "bool" = false := by decide
theorem isi_NoneType_str : isiN "NoneType" "str" = false := by decide
theorem isi_NoneType_list : isiN "NoneType" "list" = false := by decide
theorem isi_NoneType_tuple : isiN "NoneType" "tuple" = false := by decide
theorem isi_NoneType_dict : isiN "NoneType" "dict" = false := by decide
theorem isi_bool_int : isiN "bool" "int" = true := by decide
theorem isi_bool_bool : isiN "bool" "bool" = true := by decide
theorem isi_bool_str : isiN "bool" "str" = false := by decide
theorem isi_bool_list : isiN "bool" "list" = false := by decide
theorem isi_bool_tuple : isiN "bool" "tuple" = false := by decide
theorem isi_bool_dict : isiN "bool" "dict" = false := by decide
theorem isi_int_int : isiN "int" "int" = true := by decide
theorem isi_int_bool : isiN "int" "bool" = false := by decide
theorem isi_int_str : isiN "int" "str" = false := by decide
theorem isi_int_list : isiN "int" "list" = false := by decide
theorem isi_int_tuple : isiN "int" "tuple" = false := by decide
theorem isi_int_dict : isiN "int" "dict" = false := by decide
theorem isi_str_int : isiN "str" "int" = false := by decide
theorem isi_str_bool : isiN "str" "bool" = false := by decide
theorem isi_str_str : isiN "str" "str" = true := by decide
theorem isi_str_list : isiN "str" "list" = false := by decide
theorem isi_str_tuple : isiN "str" "tuple" = false := by decide
theorem isi_str_dict : isiN "str" "dict" = false := by decide
theorem isi_list_int : isiN "list" "int" = false := by decide
theorem isi_list_bool : isiN "list" "bool" = false := by decide
theorem isi_list_str : isiN "list" "str" = false := by decide
theorem isi_list_list : isiN "list" "list" = true := by decide
theorem isi_list_tuple : isiN "list" "tuple" = false := by decide
theorem isi_list_dict : isiN "list" "dict" = false := by decide
theorem isi_tuple_int : isiN "tuple" "int" = false := by decide
theorem isi_tuple_bool : isiN "tuple" "bool" = false := by decide
theorem isi_tuple_str : isiN "tuple" "str" = false := by decide
theorem isi_tuple_list : isiN "tuple" "list" = false := by decide
theorem isi_tuple_tuple : isiN "tuple" "tuple" = true := by decide
theorem isi_tuple_dict : isiN "tuple" "dict" = false := by decide
theorem isi_dict_int : isiN "dict" "int" = false := by decide
theorem isi_dict_bool : isiN "dict" "bool" = false := by decide
theorem isi_dict_str : isiN "dict" "str" = false := by decide
theorem isi_dict_list : isiN "dict" "list" = false := by decide
theorem isi_dict_tuple : isiN "dict" "tuple" = false := by decide
theorem isi_dict_dict : isiN "dict" "dict" = true := by decide
theorem known_int : known "int" = true := by decide
theorem known_bool : known "bool" = true := by decide
theorem known_str : known "str" = true := by decide
theorem known_list : known "list" = true := by decide
theorem known_tuple : known "tuple" = true := by decide
theorem known_dict : known "dict" = true := by decide
theorem tyN_non : tyN .non = some "NoneType" := rfl
theorem tyN_bl (b : Bool) : tyN (.bl b) = some "bool" := rfl
theorem tyN_int (b : Int) : tyN (.int b) = some "int" := rfl
theorem tyN_str (b : Str) : tyN (.str b) = some "str" := rfl
theorem tyN_lst (b : List D) : tyN (.lst b) = some "list" := rfl
theorem tyN_tup (b : List D) : tyN (.tup b) = some "tuple" := rfl
theorem tyN_dK (b : List (Key × D)) : tyN (.dK b) = some "dict" := rfl
theorem notT_non : notT .non = true := rfl
theorem notT_bl (b : Bool) : notT (.bl b) = true := rfl
theorem notT_int (b : Int) : notT (.int b) = true := rfl
theorem notT_str (b : Str) : notT (.str b) = true := rfl
theorem notT_lst (b : List D) : notT (.lst b) = true := rfl
theorem notT_tup (b : List D) : notT (.tup b) = true := rfl
theorem notT_dK (b : List (Key × D)) : notT (.dK b) = true := rfl
theorem ps_fldK {X : Cx} {K : PySem.W.Frag} {o value : Expr} {f : Str} {ta tv : TE} {pos pos' : Pos} (ho : PE X o ta) (hv : PE X value tv) (hs : swapsWith value (some (.Attribute o f pos')) pos.line X.env = pure false) (h : X.K = K := by rfl) : PS X (.Assign [.Attribute o f pos'] value pos) (sFld K ta tv f) := by
  subst h
  exact ps_fld ho hv hs
def strsOf : List D → Option (List Str)
  | [] => some []
  | .str b :: ds => (strsOf ds).map (b :: ·)
  | _ => none
theorem strsOf_v {K : PySem.W.Frag} {H : Hp} : ∀ {vs : List V} {ds : List D} {bs : List Str}, RepL K H vs ds → strsOf ds = some bs → vs = bs.map V.str
  | _, _, _, .nil, e => by cases e; rfl
  | _, _, _, .cons (d := d) h g, e => by
    cases d with
    | str b =>
      simp only [strsOf, Option.map_eq_some_iff] at e
      obtain ⟨bs, e, rfl⟩ := e
      rw [strsOf_v g e]
      cases h
      rfl
    | _ => cases e
theorem strsOf_map (bs : List Str) : strsOf (bs.map D.str) = some bs := by
  induction bs with
  | nil => rfl
  | cons b bs ih => rw [List.map_cons, strsOf, ih]; rfl
theorem small {n : Nat} (h : n ≤ 100000) : n ≤ sizeLine := by
  have : sizeLine = 16777216 := by decide
  omega
theorem smallL {n : Nat} (h : n ≤ 100000) : n < sizeLine := by
  have : sizeLine = 16777216 := by decide
  omega
theorem r62a {j : Int} (h : -1000000 ≤ j) : -(2 ^ 62) ≤ j := by omega
theorem r62b {j : Int} (h : j ≤ 1000000) : j < 2 ^ 62 := by omega
theorem r63a {j : Int} (h : -1000000 ≤ j) : -(2 ^ 63) ≤ j := by omega
theorem r63b {j : Int} (h : j ≤ 1000000) : j < 2 ^ 63 := by omega
theorem rangeD_len (lo : Int) (n : Nat) : (rangeD lo n).length = n := by
  unfold rangeD
  rw [List.length_map, List.length_range]
theorem signs_len (z : Str) : (signs z).length = z.length := by
  unfold signs
  rw [List.length_map, Array.length_toList]
  rfl
theorem ex_some {α : Type} {o : Option α} {a : α} {P : α → Prop} (h : o = some a) (p : P a) : ∃ x, o = some x ∧ P x := ⟨a, h, p⟩
theorem nd_f {p : Prop} [Decidable p] (h : p) : (!decide p) = false := by rw [decide_eq_true h]; rfl
theorem nd_t {p : Prop} [Decidable p] (h : ¬ p) : (!decide p) = true := by rw [decide_eq_false h]; rfl
theorem callC_of {fs : FS} {ds : List D} {k : D → Prop} {x : Exn → Prop} (h : fs ds k x) : callC fs ds k x := callC_eq.mpr h
theorem takeC_of {n : Int} {k : Int → Prop} (h1 : 0 < n) (h2 : n < 1073741824) (h3 : ∀ i, 0 ≤ i → i < n → k i) : takeC n k := takeC_eq.mpr ⟨h1, h2, h3⟩
/-! ### in and == of things of known kinds -/
theorem inC_strs {s : Str} {ns : List Str} {k : Bool → Prop} (h : k (decide (s ∈ ns))) : inC (.str s) (.lst (ns.map D.str)) k := by
  unfold inC
  exact .inl ⟨_, rfl, rfl, flat_str ns, by rw [inF_str]; exact h⟩
theorem inC_strsT {s : Str} {ns : List Str} {k : Bool → Prop} (h : k (decide (s ∈ ns))) : inC (.str s) (.tup (ns.map D.str)) k := by
  unfold inC
  exact .inl ⟨_, rfl, rfl, flat_str ns, by rw [inF_str]; exact h⟩
theorem inC_tie {s : Str} {t : Str × Str} {k : Bool → Prop} (h : k (decide (s = t.1 ∨ s = t.2))) : inC (.str s) (tieD t) k := by
  have : inC (.str s) (.tup ([t.1, t.2].map D.str)) k := inC_strsT (by simpa using h)
  exact this
theorem inC_ints {s : Int} {ns : List Int} {k : Bool → Prop} (h : k (decide (s ∈ ns))) : inC (.int s) (.lst (ns.map D.int)) k := by
  unfold inC
  exact .inl ⟨_, rfl, rfl, flat_int ns, by rw [inF_int]; exact h⟩
theorem inC_intsT {s : Int} {ns : List Int} {k : Bool → Prop} (h : k (decide (s ∈ ns))) : inC (.int s) (.tup (ns.map D.int)) k := by
  unfold inC
  exact .inl ⟨_, rfl, rfl, flat_int ns, by rw [inF_int]; exact h⟩
theorem inC_sign {c : Nat} {z : Str} {k : Bool → Prop} (h : k (decide (c ∈ z.cps.toList))) : inC (.str ⟨#[c]⟩) (.str z) k := by
  unfold inC
  exact .inr (.inl ⟨c, z, rfl, rfl, h⟩)
theorem eqC_str {a b : Str} {k : Bool → Prop} (h : k (decide (a = b))) : eqC (.str a) (.str b) k := by
  unfold eqC
  refine .inl ⟨rfl, rfl, rfl, ?_⟩
  have : decide (toV (.str a) = toV (.str b)) = decide (a = b) := by
    rw [Bool.eq_iff_iff, decide_eq_true_iff, decide_eq_true_iff]
    exact ⟨fun e => V.str.inj e, fun e => by rw [e]⟩
  rw [this]
  exact h
theorem eqC_int {a b : Int} {k : Bool → Prop} (h : k (decide (a = b))) : eqC (.int a) (.int b) k := by
  unfold eqC
  refine .inl ⟨rfl, rfl, rfl, ?_⟩
  have : decide (toV (.int a) = toV (.int b)) = decide (a = b) := by
    rw [Bool.eq_iff_iff, decide_eq_true_iff, decide_eq_true_iff]
    exact ⟨fun e => V.int.inj e, fun e => by rw [e]⟩
  rw [this]
  exact h
theorem eqC_bl {a b : Bool} {k : Bool → Prop} (h : k (decide (a = b))) : eqC (.bl a) (.bl b) k := by
  unfold eqC
  refine .inl ⟨rfl, rfl, rfl, ?_⟩
  have : decide (toV (.bl a) = toV (.bl b)) = decide (a = b) := by
    rw [Bool.eq_iff_iff, decide_eq_true_iff, decide_eq_true_iff]
    exact ⟨fun e => V.bl.inj e, fun e => by rw [e]⟩
  rw [this]
  exact h
/-- data for data: Plain tells when == is = -/
theorem eqC_plain {d e : D} {n m : Nat} {k : Bool → Prop} (h1 : d.pl = true) (h2 : e.pl = true) (g1 : Plain n d.py) (g2 : Plain m e.py) (hn : n ≤ 64) (hm : m ≤ 64) (h : ∀ b : Bool, (b = true ↔ d.py = e.py) → k b) : eqC d e k := by
  unfold eqC
  exact .inr ⟨⟨h1, g1.shaped hn⟩, ⟨h2, g2.shaped hm⟩, h _ (g1.eqv_iff g2)⟩
end PW

namespace PW
open PySem PySem.Spec PyProof.Rows L2
/-! ### what is proved of the draws and of Web, by data -/
theorem cal_imp {P : Program} {w : World} {K : PySem.W.Frag} {mg : Str → Option Value} {base : Heap} {k : Nat} {x : Str} {sp sp' : Sp} {dvs : List V} (c : C8.Cal P w K mg base k x sp dvs) (h : ∀ vs H Q E, sp' vs H Q E → sp vs H Q E) : C8.Cal P w K mg base k x sp' dvs := by
  obtain ⟨f, fd, ps, ds, F, r⟩ := c.ex
  exact ⟨f, fd, ps, ds, F.imp h, r⟩
theorem met_imp {P : Program} {w : World} {K : PySem.W.Frag} {mg : Str → Option Value} {base : Heap} {k : Nat} {C : Addr} {m : Str} {sp sp' : Sp} {dvs : List V} (c : C8.Met P w K mg base k C m sp dvs) (h : ∀ vs H Q E, sp' vs H Q E → sp vs H Q E) : C8.Met P w K mg base k C m sp' dvs := by
  obtain ⟨f, fd, ps, ds, c1, c2, F, r⟩ := c.ex
  exact ⟨f, fd, ps, ds, c1, c2, F.imp h, r⟩
structure OkWeb (ns : List Str) (ts : List (Str × Str)) : Prop where
  names : NamesOk ns
  n1 : 1 ≤ ns.length
  n9 : ns.length ≤ 9
  t20 : ts.length ≤ 20
  ties : ∀ t ∈ ts, TieOk ns t
section
variable {K : PySem.W.Frag} {H H' : Hp}
theorem rep_strs {vs : List V} {ns : List Str} (h : RepL K H vs (ns.map D.str)) : vs = ns.map V.str := by
  have := flat_all h (flat_str ns)
  rw [this, List.map_map]
  rfl
theorem strs_rep : ∀ ns : List Str, RepL K H (ns.map V.str) (ns.map D.str)
  | [] => .nil
  | x :: r => .cons (.str x) (strs_rep r)
theorem ints_rep : ∀ ns : List Int, RepL K H (ns.map V.int) (ns.map D.int)
  | [] => .nil
  | x :: r => .cons (.int x) (ints_rep r)
theorem rep_nms {v : V} {ns : List Str} (h : Rep K H v (nmsD ns)) : ∃ a, v = .ref a ∧ H a = some (.lst (ns.map V.str)) := by
  cases h with
  | lst h1 h2 =>
    rw [rep_strs h2] at h1
    exact ⟨_, rfl, h1⟩
theorem rep_tie {v : V} {t : Str × Str} (h : Rep K H v (tieD t)) : ∃ a, v = .ref a ∧ H a = some (.tup [.str t.1, .str t.2]) := by
  cases h with
  | tup h1 h2 =>
    cases h2 with
    | cons a b =>
      cases b with
      | cons b c =>
        cases c
        cases a
        cases b
        exact ⟨_, rfl, h1⟩
theorem rep_ties : ∀ {vs : List V} {ts : List (Str × Str)}, RepL K H vs (ts.map tieD) → ∃ ats : Ats, vs = ats.vals ∧ ats.ties = ts ∧ TupsAt H ats
  | _, [], h => by
    cases h
    exact ⟨[], rfl, rfl, TupsAt.nil H⟩
  | _, t :: ts, h => by
    cases h with
    | cons h1 h2 =>
      obtain ⟨a, rfl, ha⟩ := rep_tie h1
      obtain ⟨ats, rfl, rfl, h3⟩ := rep_ties h2
      refine ⟨(a, t) :: ats, rfl, rfl, fun x hx => ?_⟩
      rcases List.mem_cons.mp hx with rfl | hx
      · exact ha
      · exact h3 x hx
theorem ties_rep {ats : Ats} (h : TupsAt H ats) : RepL K H ats.vals (ats.ties.map tieD) := by
  induction ats with
  | nil => exact .nil
  | cons x r ih => exact .cons (.tup (h x List.mem_cons_self) (.cons (.str _) (.one (.str _)))) (ih fun y hy => h y (List.mem_cons_of_mem _ hy))
end
def fsNames : FS := fun ds Q _ => ∃ n : Int, ds = [.int n] ∧ 1 ≤ n ∧ n ≤ 9 ∧ ∀ ns : List Str, NamesOk ns → ns.length = n.toNat → Q (nmsD ns)
def fsMixed : FS := fun ds Q _ => ∃ xs : List D, ds = [.lst xs] ∧ xs.length ≤ 1000 ∧ D.immL xs = true ∧ ∀ ys : List D, ys.Perm xs → Q (.lst ys)
def fsTie : FS := fun ds Q _ => ∃ ns : List Str, ds = [nmsD ns] ∧ ns.Nodup ∧ 2 ≤ ns.length ∧ ns.length ≤ 1000 ∧ ∀ t, TieOk ns t → Q (tieD t)
def fsWeb : FS := fun ds Q _ => ∃ pts most : Int, ds = [.int pts, .int most] ∧ 1 ≤ pts ∧ pts ≤ 9 ∧ pts ≤ most ∧ most ≤ 20 ∧ ∀ ns ts, OkWeb ns ts → (ns.length : Int) ≤ pts → (ts.length : Int) ≤ most → Q (.tup [nmsD ns, tiesD ts])
theorem new_cut {H H' : Hp} {a : Addr} {o : HO} (h : H a = none) (h' : H' a = some o) : newH H H' a = some o := cut_of h' fun z => z h
theorem sp_names {K : PySem.W.Frag} : ∀ vs H Q E, spP K fsNames vs H Q E → spNames vs H Q E := by
  rintro vs H Q E ⟨p, us, ds, R, Xd, rfl, hp, h1, ⟨n, rfl, n1, n2, h2⟩, h3, _⟩
  cases h1 with
  | cons a b =>
    cases b
    cases a
    exact ⟨p, n, rfl, hp, n1, n2, fun r ns H' ok hl hr k hp' e => h3 _ _ H' (h2 ns ok hl) k hp' (.lst (new_cut hr e) (strs_rep ns))⟩
theorem sp_tie {K : PySem.W.Frag} : ∀ vs H Q E, spP K fsTie vs H Q E → spTie vs H Q E := by
  rintro vs H Q E ⟨p, us, ds, R, Xd, rfl, hp, h1, ⟨ns, rfl, n1, n2, n3, h2⟩, h3, _⟩
  cases h1 with
  | cons a b =>
    cases b
    obtain ⟨l, rfl, hl⟩ := rep_nms a
    obtain ⟨z1, z2⟩ := cut_inv hl
    refine ⟨p, l, ns, rfl, hp, ?_, z1, n1, n2, n3, fun t x y H' ok ht k hp' e => h3 _ _ H' (h2 (x, y) ok) k hp' (.tup (new_cut ht e) (.cons (.str _) (.one (.str _))))⟩
    rcases z2 with z2 | ⟨_, z⟩
    · exact z2
    · cases z
theorem perm_rep {K : PySem.W.Frag} {H : Hp} {ys xs : List V} (h : ys.Perm xs) : ∀ {ds : List D}, RepL K H xs ds → ∃ es : List D, es.Perm ds ∧ RepL K H ys es := by
  induction h with
  | nil =>
    intro ds g
    cases g
    exact ⟨[], .nil, .nil⟩
  | cons x _ ih =>
    intro ds g
    cases g with
    | cons g1 g2 =>
      obtain ⟨es, e1, e2⟩ := ih g2
      exact ⟨_, e1.cons _, .cons g1 e2⟩
  | swap x y l =>
    intro ds g
    cases g with
    | cons g1 g2 =>
      cases g2 with
      | cons g2 g3 => exact ⟨_, .swap _ _ _, .cons g2 (.cons g1 g3)⟩
  | trans _ _ ih1 ih2 =>
    intro ds g
    obtain ⟨es, e1, e2⟩ := ih2 g
    obtain ⟨fs, f1, f2⟩ := ih1 e2
    exact ⟨fs, f1.trans e1, f2⟩
theorem sp_mixed {K : PySem.W.Frag} : ∀ vs H Q E, spP K fsMixed vs H Q E → spMixed vs H Q E := by
  rintro vs H Q E ⟨p, us, ds, R, Xd, rfl, hp, h1, ⟨xs, rfl, n1, n2, h2⟩, h3, _⟩
  cases h1 with
  | cons a b =>
    cases b
    cases a with
    | @lst l ws _ g1 g2 =>
      obtain ⟨z1, z2⟩ := cut_inv g1
      refine ⟨p, l, ws, rfl, hp, ?_, z1, by rw [g2.len]; exact n1, fun r ys H' pm hr k hp' e => ?_⟩
      · rcases z2 with z2 | ⟨_, z⟩
        · exact z2
        · cases z
      · obtain ⟨es, e1, e2⟩ := perm_rep pm g2
        have im : D.immL es = true := by
          have key : ∀ (l : List D), D.immL l = l.all D.imm := fun l => by
            induction l with
            | nil => rfl
            | cons d r ih => rw [D.immL, List.all_cons, ih]
          rw [key] at n2 ⊢
          exact List.all_eq_true.mpr fun d hd => List.all_eq_true.mp n2 d (e1.mem_iff.mp hd)
        refine h3 _ _ H' (h2 es e1) k hp' (.lst (new_cut hr e) ?_)
        have e3 : RepL K (cut (· = p) H') ys es := (e2.imm (bad := fun _ => True) im).mono fun c o hc => by
          obtain ⟨k1, k2⟩ := cut_inv hc
          rcases k2 with k2 | ⟨zs, rfl⟩
          · exact absurd trivial k2
          · have hc1 := cut_le _ _ k1
            exact cut_tup (k c _ (fun z => by
              subst z
              obtain ⟨x, y, _, _, q⟩ := hp
              rw [hc1] at q
              cases q) hc1)
        exact (e3.mono cut_le).imm im
theorem sp_web {K : PySem.W.Frag} : ∀ vs H Q E, spP K fsWeb vs H Q E → spWeb vs H Q E := by
  rintro vs H Q E ⟨p, us, ds, R, Xd, rfl, hp, h1, ⟨pts, most, rfl, n1, n2, n3, n4, h2⟩, h3, _⟩
  cases h1 with
  | cons a b =>
    cases b with
    | cons b c =>
      cases c
      cases a
      cases b
      refine ⟨p, pts, most, rfl, hp, n1, n2, n3, n4, fun t a b ns ats H' ok l1 l2 l3 ti ht ha hb ne k hp' e1 e2 e3 e4 => ?_⟩
      have hl : ats.ties.length = ats.length := Ats.ties_len ats
      refine h3 _ _ H' (h2 ns ats.ties ⟨ok, l1, by omega, by omega, fun t ht => ?_⟩ l2 (by rw [hl]; exact l3)) k hp' (.tup (new_cut ht e1) (.cons (.lst (new_cut ha e2) (strs_rep ns)) (.one (.lst (new_cut hb e3) ?_))))
      · obtain ⟨x, hx, rfl⟩ := List.mem_map.mp ht
        exact ti x hx
      · exact (ties_rep e4).imm (immL_tie _)
end PW

namespace PW
open PySem PySem.Spec PyProof.Rows L2
/-! ### len(set(..)) -/
def manyI (ns : List Int) : Nat := (PyProof.Rows.firstMet (fun i => ns.getD i 0) ns.length).length
theorem any_beqI {l : List Int} {v : Int} : (l.any (· == v)) = true ↔ v ∈ l := by
  rw [List.any_eq_true]
  exact ⟨fun ⟨x, hx, e⟩ => (beq_iff_eq.mp e : x = v) ▸ hx, fun h => ⟨v, h, beq_iff_eq.mpr rfl⟩⟩
theorem fm_in (val : Nat → Int) : ∀ k i, i < k → val i ∈ PyProof.Rows.firstMet val k
  | 0, i, h => by omega
  | k + 1, i, h => by
    rw [PyProof.Rows.firstMet_succ]
    unfold PyProof.Rows.step_dedup
    by_cases e : i = k
    · subst e
      split
      · rename_i z
        exact any_beqI.mp z
      · exact List.mem_append_right _ (List.mem_singleton.mpr rfl)
    · have := fm_in val k i (by omega)
      split
      · exact this
      · exact List.mem_append_left _ this
theorem fm_full (val : Nat → Int) : ∀ k, (PyProof.Rows.firstMet val k).length = k → ∀ i j, i < j → j < k → val i ≠ val j
  | 0, _, i, j, _, h => by omega
  | k + 1, e, i, j, hij, h => by
    have hl := PyProof.Rows.firstMet_length_le val k
    rw [PyProof.Rows.firstMet_succ] at e
    unfold PyProof.Rows.step_dedup at e
    split at e
    · omega
    · rename_i hn
      rw [List.length_append, List.length_singleton] at e
      by_cases z : j = k
      · subst z
        intro y
        exact hn (any_beqI.mpr (y ▸ fm_in val j i hij))
      · exact fm_full val k (by omega) i j hij (by omega)
theorem manyI_le (ns : List Int) : manyI ns ≤ ns.length := PyProof.Rows.firstMet_length_le _ _
theorem manyI_iff {ns : List Int} : manyI ns = ns.length ↔ ns.Nodup := by
  constructor
  · intro h
    have := fm_full _ _ h
    refine List.pairwise_iff_getElem.mpr fun i j hi hj hij z => this i j hij hj ?_
    show ns.getD i 0 = ns.getD j 0
    rw [List.getD_eq_getElem?_getD, List.getD_eq_getElem?_getD, List.getElem?_eq_getElem hi, List.getElem?_eq_getElem hj, z]
  · intro h
    unfold manyI
    rw [RZ.firstMet_nodup h ns.length (Nat.le_refl _), List.take_length]
theorem fm_sub (val : Nat → Int) : ∀ k v, v ∈ PyProof.Rows.firstMet val k → ∃ i, i < k ∧ v = val i
  | 0, v, h => by
    have h' : v ∈ ([] : List Int) := h
    cases h'
  | k + 1, v, h => by
    rw [PyProof.Rows.firstMet_succ] at h
    unfold PyProof.Rows.step_dedup at h
    split at h
    · obtain ⟨i, h1, h2⟩ := fm_sub val k v h
      exact ⟨i, by omega, h2⟩
    · rcases List.mem_append.mp h with h | h
      · obtain ⟨i, h1, h2⟩ := fm_sub val k v h
        exact ⟨i, by omega, h2⟩
      · exact ⟨k, by omega, List.mem_singleton.mp h⟩
theorem fm_nd (val : Nat → Int) : ∀ k, (PyProof.Rows.firstMet val k).Nodup
  | 0 => List.nodup_nil
  | k + 1 => by
    rw [PyProof.Rows.firstMet_succ]
    unfold PyProof.Rows.step_dedup
    split
    · exact fm_nd val k
    · rename_i hn
      refine List.nodup_append.mpr ⟨fm_nd val k, List.pairwise_singleton _ _, fun a ha b hb e => ?_⟩
      rw [List.mem_singleton.mp hb] at e
      exact hn (any_beqI.mpr (e ▸ ha))
theorem manyI_of {ns ks : List Int} (nd : ks.Nodup) (h : ∀ k, k ∈ ns ↔ k ∈ ks) : ks.length = manyI ns := by
  refine ((List.perm_ext_iff_of_nodup nd (fm_nd _ _)).mpr fun a => ⟨fun ha => ?_, fun ha => ?_⟩).length_eq
  · obtain ⟨i, hi, e⟩ := List.mem_iff_getElem.mp ((h a).mpr ha)
    have := fm_in (fun i => ns.getD i 0) ns.length i hi
    rw [List.getD_eq_getElem?_getD, List.getElem?_eq_getElem hi, e] at this
    exact this
  · obtain ⟨i, hi, e⟩ := fm_sub _ _ a ha
    rw [List.getD_eq_getElem?_getD, List.getElem?_eq_getElem hi] at e
    exact (h a).mp (e ▸ List.getElem_mem hi)
def tLenSetG (K : PySem.W.Frag) (ta : TE) : TE := fun σ H Q => ta σ H fun x H1 => (∃ (l : Addr) (xs : List Str), x = .ref l ∧ SqL K H1 l (xs.map V.str) ∧ xs.length ≤ 1000 ∧ Q (.int (manyS xs : Nat)) H1) ∨ (∃ (l : Addr) (xs : List Str), x = .ref l ∧ SqT K H1 l (xs.map V.str) ∧ xs.length ≤ 1000 ∧ Q (.int (manyS xs : Nat)) H1) ∨ (∃ (l : Addr) (ns : List Int), x = .ref l ∧ SqL K H1 l (ns.map V.int) ∧ ns.length ≤ 1000 ∧ Q (.int (manyI ns : Nat)) H1) ∨ (∃ (l : Addr) (ns : List Int), x = .ref l ∧ SqT K H1 l (ns.map V.int) ∧ ns.length ≤ 1000 ∧ Q (.int (manyI ns : Nat)) H1)
theorem pe_lenSetG {X : Cx} {K : PySem.W.Frag} {a : Expr} {ta : TE} {p p2 q pos : Pos} (hg : Gl X "len") (hm : X.mg "len" = none) (hg2 : Gl X "set") (hm2 : X.mg "set" = none) (ha : PE X a ta) (hc : X.calm = true := by rfl) (hK : X.K = K := by rfl)
    (na : starEach [a] X.env = (false, eval a X.env) :: starEach [] X.env := by rfl) : PE X (.Call (.Name "len" p) [.Call (.Name "set" p2) [a] [] q] [] pos) (tLenSetG K ta) := by
  subst hK
  refine ⟨fun pins s σ H Q I h => Call_ (ld_blt I hg hm boot_len ?_)⟩
  refine PyProof.Rows.callWith_builtin1 (PyProof.Rows.args_cons (Call_ (ld_blt I hg2 hm2 boot_set ?_)) rfl) rfl rfl
  refine PyProof.Rows.callWith_type1 (PyProof.Rows.args_cons (thn (ha.run pins s σ H _ I h) fun v s1 ⟨x, H1, I1, r1, q1⟩ => PyProof.Rows.args_nil ?_) na) na rfl
  rcases q1 with ⟨l, xs, rfl, sq, hl, q1⟩ | ⟨l, xs, rfl, sq, hl, q1⟩ | ⟨l, ns, rfl, sq, hl, q1⟩ | ⟨l, ns, rfl, sq, hl, q1⟩
  · cases r1
    obtain ⟨its, r, pl, hz⟩ := I1.list sq
    have el : its.toArray.size = xs.length := by rw [List.size_toArray, ← r.length, List.length_map]
    refine pw_set_list (I1.ok.hd hc) pl.isList (strsAre_vals r) (by rw [el]; unfold scanBound; omega) fun h' tk hS hk => PyProof.Rows.args_nil ?_
    rw [el] at hS
    obtain ⟨o, es, ep, t, ho, hex, hd, _, _, _, hf, hn⟩ := hS
    have I2 : Inv X pins σ H1 { s1 with heap := h', toks := tk } := I1.kept fun b o e => hk b o (Heap.lt_size e) e
    have hml : manyS xs ≤ xs.length := onceS_len _ _
    exact call_len_set ho hex hd hf (by rw [hn]; show ((manyS xs : Nat) : Int) < 2 ^ 63; omega) ⟨.int (manyS xs : Nat), H1, I2.tok _, ⟨_, by rw [hn]; rfl⟩, q1⟩
  · cases r1
    obtain ⟨its, r, pl, hz⟩ := I1.tuple sq
    have el : its.toArray.size = xs.length := by rw [List.size_toArray, ← r.length, List.length_map]
    refine pw_set_tuple (I1.ok.hd hc) pl (strsAre_vals r) (by rw [el]; unfold scanBound; omega) fun h' tk hS hk => PyProof.Rows.args_nil ?_
    rw [el] at hS
    obtain ⟨o, es, ep, t, ho, hex, hd, _, _, _, hf, hn⟩ := hS
    have I2 : Inv X pins σ H1 { s1 with heap := h', toks := tk } := I1.kept fun b o e => hk b o (Heap.lt_size e) e
    have hml : manyS xs ≤ xs.length := onceS_len _ _
    exact call_len_set ho hex hd hf (by rw [hn]; show ((manyS xs : Nat) : Int) < 2 ^ 63; omega) ⟨.int (manyS xs : Nat), H1, I2.tok _, ⟨_, by rw [hn]; rfl⟩, q1⟩
  · cases r1
    obtain ⟨its, r, pl, hz⟩ := I1.list sq
    have el : its.toArray.size = ns.length := by rw [List.size_toArray, ← r.length, List.length_map]
    refine PySem.call_set_list (I1.ok.hd hc) pl.isList (by simpa using RZ.intsAre_vals r) (by rw [el]; unfold scanBound; omega) fun h' tk hS hk => PyProof.Rows.args_nil ?_
    rw [el] at hS
    obtain ⟨o, es, ep, t, ho, hex, hd, _, _, _, hf, hn⟩ := hS
    have I2 : Inv X pins σ H1 { s1 with heap := h', toks := tk } := I1.kept fun b o e => hk b o (Heap.lt_size e) e
    have hml := manyI_le ns
    exact call_len_set ho hex hd hf (by rw [hn]; show ((manyI ns : Nat) : Int) < 2 ^ 63; omega) ⟨.int (manyI ns : Nat), H1, I2.tok _, ⟨_, by rw [hn]; rfl⟩, q1⟩
  · cases r1
    obtain ⟨its, r, pl, hz⟩ := I1.tuple sq
    refine call_set_tupI ns (I1.ok.hd hc) pl (by simpa using RZ.intsAre_vals r) (by unfold scanBound; omega) fun h' tk c hS hcn hk => PyProof.Rows.args_nil ?_
    obtain ⟨o, es, ep, t, ho, hex, hd, _, nd, mem, _, hf, hn, _⟩ := hS
    have I2 : Inv X pins σ H1 { s1 with heap := h', toks := tk } := I1.kept hk
    have e1 : manyI ns = c := by
      have z := manyI_of (ns := ns) nd fun k => by rw [← mem k, decide_eq_true_iff]
      rw [List.length_map, Array.length_toList, hn] at z
      exact z.symm
    rw [e1] at q1
    exact call_len_set ho hex hd hf (by rw [hn]; show ((c : Nat) : Int) < 2 ^ 63; omega) ⟨.int (c : Nat), H1, I2.tok _, ⟨_, by rw [hn]⟩, q1⟩
def dLenSet (w : DW) : DW := fun X ρ R => w X ρ fun x ρ1 => match rd ρ1 x with
  | some (_, .lst ds) => (∃ ns, strsOf ds = some ns ∧ ns.length ≤ 1000 ∧ R (.v true (.int (manyS ns : Nat))) ρ1) ∨ (∃ ns, intsD ds = some ns ∧ ns.length ≤ 1000 ∧ R (.v true (.int (manyI ns : Nat))) ρ1)
  | some (_, .tup ds) => (∃ ns, strsOf ds = some ns ∧ ns.length ≤ 1000 ∧ R (.v true (.int (manyS ns : Nat))) ρ1) ∨ (∃ ns, intsD ds = some ns ∧ ns.length ≤ 1000 ∧ R (.v true (.int (manyI ns : Nat))) ρ1)
  | _ => False
instance {K : PySem.W.Frag} {W : WXT} {t : TE} {w : DW} [A : DE K W t w] : DE K W (tLenSetG K t) (dLenSet w) where
  ok := fun {F σ H ρ X R Q} hK E L h q => A.ok hK E L h fun x ρ1 v H1 h1 E1 s1 r1 => by
    subst hK
    split at h1
    · rename_i r ds e
      obtain ⟨a, vs, rfl, g1, g2⟩ := r1.top E1 e
      rcases h1 with ⟨ns, hn, hl, h1⟩ | ⟨ns, hn, hl, h1⟩
      · rw [strsOf_v g2 hn] at g1
        exact .inl ⟨a, ns, rfl, SqL.of g1, hl, q _ ρ1 _ H1 h1 E1 s1 (.int _)⟩
      · rw [ints_v g2 hn] at g1
        exact .inr (.inr (.inl ⟨a, ns, rfl, SqL.of g1, hl, q _ ρ1 _ H1 h1 E1 s1 (.int _)⟩))
    · rename_i r ds e
      obtain ⟨a, vs, rfl, g1, g2⟩ := r1.top E1 e
      rcases h1 with ⟨ns, hn, hl, h1⟩ | ⟨ns, hn, hl, h1⟩
      · rw [strsOf_v g2 hn] at g1
        exact .inr (.inl ⟨a, ns, rfl, SqT.of g1, hl, q _ ρ1 _ H1 h1 E1 s1 (.int _)⟩)
      · rw [ints_v g2 hn] at g1
        exact .inr (.inr (.inr ⟨a, ns, rfl, SqT.of g1, hl, q _ ρ1 _ H1 h1 E1 s1 (.int _)⟩))
    · exact h1.elim
end PW

namespace PW
open PySem PySem.Spec PyProof.Rows L2
/-! ### zip of a list and a tuple -/
def ItzM (K : PySem.W.Frag) (a b : Addr) : It where
  go := fun i H => ∃ (us vs : List V) (u v : V), SqL K H a us ∧ SqT K H b vs ∧ us[i]? = some u ∧ vs[i]? = some v
  yld := fun i H r H' => ∃ T u v, r = .ref T ∧ H T = none ∧ H' = upd H T (.tup [u, v]) ∧ (∀ us, SqL K H a us → us[i]? = some u) ∧ ∀ vs, SqT K H b vs → vs[i]? = some v
  stop := fun i H => ∃ us vs : List V, SqL K H a us ∧ SqT K H b vs ∧ us.length = vs.length ∧ us.length = i
theorem five {c z t o i j : Addr} (h : c ∈ [z, t, o, i, j]) : c = z ∨ c = t ∨ c = o ∨ c = i ∨ c = j := by
  simpa using h
theorem turn_zipM {P : Program} {w : World} {K : PySem.W.Frag} {elts : List Expr} {kk : Nat} {tpos : Pos} {a b z TI TO i1 i2 : Addr} (S : ZipSep2 z TI TO i1 i2 [i1, a] [i2, b]) (na : a ≠ i1) (nb : b ≠ i2) :
    Turn P w K (.Tuple elts kk tpos) (ItzM K a b) [z, TI, TO, i1, i2] z (fun i h => IsZip h z TI TO .none ∧ IsTupOf2 h TI (.ref i1) (.ref i2) ∧ (∃ p q, IsTupOf2 h TO p q) ∧ h.IsListIter i1 a i ∧ h.IsTupleIter i2 b i) where
  mem := by simp
  obj := fun i h st c hc => by
    obtain ⟨e0, e1, ⟨p, q, e2⟩, ⟨o3, e3, _, d3⟩, ⟨o4, e4, _, d4⟩⟩ := st
    rcases five hc with rfl | rfl | rfl | rfl | rfl
    · exact ⟨_, e0, fun v r => nomatch r⟩
    · exact ⟨_, e1, fun v r => nomatch r⟩
    · exact ⟨_, e2, fun v r => nomatch r⟩
    · exact ⟨o3, e3, fun v r => by rw [d3] at r; cases r⟩
    · exact ⟨o4, e4, fun v r => by rw [d4] at r; cases r⟩
  keep := fun i h h' st k => by
    obtain ⟨e0, e1, ⟨p, q, e2⟩, e3, e4⟩ := st
    exact ⟨k z (by simp) _ e0, k TI (by simp) _ e1, ⟨p, q, k TO (by simp) _ e2⟩, e3.at fun o r => k i1 (by simp) o r, e4.at fun o r => k i2 (by simp) o r⟩
  item := by
    intro X hP hw hK hc i pins s σ H E I hf st hg
    subst hP hw hK
    obtain ⟨e0, e1, e2, e3, e4⟩ := st
    obtain ⟨us, vs, u, v, qu, qv, hu, hv⟩ := hg
    obtain ⟨l1, r1, p1, _⟩ := I.list qu
    obtain ⟨l2, r2, p2, _⟩ := I.tuple qv
    obtain ⟨y1, g1, t1⟩ := r1.get hu
    obtain ⟨y2, g2, t2⟩ := r2.get hv
    have hh : X.A.in1.handled = none := I.ok.hd hc
    have W := WalksT.zipD2 (prog := X.prog) (w := X.w) (A := X.A) S (Draws.list hh i1 a na l1.toArray) (Draws.tuple hh i2 b nb l2.toArray)
    have i1l : i < l1.toArray.size := by
      have := (List.getElem?_eq_some_iff.mp g1).1
      simpa using this
    have i2l : i < l2.toArray.size := by
      have := (List.getElem?_eq_some_iff.mp g2).1
      simpa using this
    have five_lt : ∀ c ∈ [z, TI, TO, i1, i2], c < s.heap.objs.size := fun c hcm => by
      obtain ⟨_, _, e2'⟩ := id e2
      obtain ⟨_, e3', _⟩ := id e3
      obtain ⟨_, e4', _⟩ := id e4
      rcases five hcm with rfl | rfl | rfl | rfl | rfl
      · exact Heap.lt_size e0
      · exact Heap.lt_size e1
      · exact Heap.lt_size e2'
      · exact Heap.lt_size e3'
      · exact Heap.lt_size e4'
    refine W.item i s _ _ (by omega) ⟨e0, e1, e2, ⟨e3, p1.isList⟩, ⟨e4, p2⟩⟩ fun T vals h' tk hPt hTl hT hMid hk => ?_
    obtain ⟨x1, x2, hx1, hx2, rfl⟩ := hPt
    have ex1 : x1 = y1 := by
      have e : l1[i]? = some x1 := by simpa using hx1
      rw [g1] at e
      exact (Option.some.inj e).symm
    have ex2 : x2 = y2 := by
      have e : l2[i]? = some x2 := by simpa using hx2
      rw [g2] at e
      exact (Option.some.inj e).symm
    subst ex1 ex2
    refine ⟨_, rfl, W.go elts kk tpos i T { s with heap := h', toks := tk } _ _ hMid fun h'' st'' hk'' => ?_⟩
    have nT : T ∉ [z, TO, i1, i2] := W.apart i T h' hMid
    have hT'' : h''.IsTuple T #[x1, x2] := hT.at fun o e => hk'' T o nT e
    have new : ObjOk X.prog X.w (upd H T (.tup [u, v])) h'' T (.tup [u, v]) := ⟨by show 2 ≤ sizeLine; decide, [x1, x2], .cons t1 (.cons t2 .nil), hT''⟩
    have kk' : ∀ c o, c ∉ [z, TI, TO, i1, i2] → s.heap.get? c = some o → h''.get? c = some o := fun c o hb e => by
      have n4 : c ∉ [z, TO, i1, i2] := fun m => hb (by
        have : c = z ∨ c = TO ∨ c = i1 ∨ c = i2 := by simpa using m
        rcases this with r | r | r | r <;> simp [r])
      exact hk'' c o n4 (hk c o n4 e)
    have I1 : Inv X pins σ (upd H T (.tup [u, v])) { s with heap := h'', toks := tk } := I.turnedNew (t' := tk) (ch := [z, TI, TO, i1, i2]) kk' hf hTl new
    obtain ⟨f0, f1, f2, f3, f4⟩ := st''
    refine ⟨.ref T, _, I1, rfl, ⟨T, u, v, rfl, I.hok.fresh hTl, rfl, fun l hl => by rw [I.list_inj hl qu]; exact hu, fun l hl => by rw [I.tuple_inj hl qv]; exact hv⟩, ⟨f0, f1, f2, f3.1, f4.1⟩, fun c hcm => ?_⟩
    rw [upd_ne (Nat.ne_of_lt (Nat.lt_of_lt_of_le (five_lt c hcm) hTl))]
    exact (hf c hcm).1
  done := by
    intro X hP hw hK hc i pins s σ H E I hf st hg
    subst hP hw hK
    obtain ⟨e0, e1, e2, e3, e4⟩ := st
    obtain ⟨us, vs, qu, qv, hl, hi⟩ := hg
    obtain ⟨l1, r1, p1, _⟩ := I.list qu
    obtain ⟨l2, r2, p2, _⟩ := I.tuple qv
    have hh : X.A.in1.handled = none := I.ok.hd hc
    have W := WalksT.zipD2 (prog := X.prog) (w := X.w) (A := X.A) S (Draws.list hh i1 a na l1.toArray) (Draws.tuple hh i2 b nb l2.toArray)
    have n1 := r1.length
    have n2 := r2.length
    have en : i = min l1.toArray.size l2.toArray.size := by
      simp
      omega
    refine W.done s _ _ (by rw [← en]; exact ⟨e0, e1, e2, ⟨e3, p1.isList⟩, ⟨e4, p2⟩⟩) fun h' tk hk => ⟨rfl, I.turnedL (t' := tk) (ch := [z, TI, TO, i1, i2]) (fun c o hb e => hk c o (fun m => hb ?_) e) hf⟩
    have : c = z ∨ c = TO ∨ c = i1 ∨ c = i2 := by simpa using m
    rcases this with r | r | r | r <;> simp [r]
  self := fun A i s Q E st h => wpAny_pyIter_zip st.1 h
def iZipM (K : PySem.W.Frag) (ta : TA) : TI := fun σ H R => ta σ H fun ws H1 => ∃ a b us vs, ws = [.ref a, .ref b] ∧ SqL K H1 a us ∧ SqT K H1 b vs ∧ R (ItzM K a b) H1
theorem neM {m n : Nat} (h : m ≠ n) : (m : Addr) ≠ n := h
theorem notin2 {x y z : Addr} (h1 : x ≠ y) (h2 : x ≠ z) : x ∉ [y, z] := fun h => by
  rcases List.mem_cons.mp h with h | h
  · exact h1 h
  · exact h2 (List.mem_singleton.mp h)
theorem pi_zipM {X : Cx} {K : PySem.W.Frag} {e e2 : Expr} {ta : TA} {p pos tpos : Pos} {elts : List Expr} {kk : Nat} (hg : Gl X "zip") (hm : X.mg "zip" = none) (ha : PA X [e, e2] ta) (hK : X.K = K := by rfl)
    (hs : starEach [e, e2] X.env = (false, eval e X.env) :: starEach [e2] X.env := by rfl) (hpl : (backTo pos (starEach [e2] X.env)).any (·.1) = false := by rfl) : PI X (.Tuple elts kk tpos) (.Call (.Name "zip" p) [e, e2] [] pos) (iZipM K ta) := by
  subst hK
  refine ⟨fun pins s σ H R I h => Call_ (ld_blt I hg hm PyProof.Rows.boot_zip (PyProof.Rows.callWith_type1 (thn (ha.run pos pins s σ H _ I h) fun us s1 ⟨vs, H1, I1, r1, q1⟩ => ?_) hs hpl))⟩
  obtain ⟨a, b, xs, ys, rfl, qu, qv, q⟩ := q1
  cases r1 with
  | cons r rr => cases rr with
    | cons r' rr =>
      cases rr
      cases r
      cases r'
      obtain ⟨l1, k1, p1, _⟩ := I1.list qu
      obtain ⟨l2, k2, p2, _⟩ := I1.tuple qv
      obtain ⟨o2, ho2, _⟩ := id p2
      have la : a < s1.heap.objs.size := p1.lt
      have lb : b < s1.heap.objs.size := Heap.lt_size ho2
      refine zip_begins2 (begins_list a l1.toArray) (begins_tuple b l2.toArray) p1.isList p2 fun h' hz hTI hTO g1 g2 hsz hk => wpAny_pyIter_zip hz ?_
      have I2 : Inv X pins σ H1 { s1 with heap := h' } := I1.kept (t' := s1.toks) hk
      have S : ZipSep2 (s1.heap.objs.size + 4) (s1.heap.objs.size + 2) (s1.heap.objs.size + 3) s1.heap.objs.size (s1.heap.objs.size + 1) [s1.heap.objs.size, a] [s1.heap.objs.size + 1, b] := by
        generalize s1.heap.objs.size = n at la lb
        have la' : (a : Nat) < n := la
        have lb' : (b : Nat) < n := lb
        have e1 : ∀ k : Nat, n + k ≠ a := fun k e => Nat.lt_irrefl a (Nat.lt_of_lt_of_le la (e ▸ Nat.le_add_right n k))
        have e2 : ∀ k : Nat, n + k ≠ b := fun k e => Nat.lt_irrefl b (Nat.lt_of_lt_of_le lb (e ▸ Nat.le_add_right n k))
        exact ⟨neM (by omega), neM (by omega), neM (by omega), neM (by omega), List.mem_cons_self, notin2 (neM (by omega)) (e1 4), notin2 (neM (by omega)) (e1 3), neM (by omega), List.mem_cons_self, notin2 (neM (by omega)) (e2 4), notin2 (neM (by omega)) (e2 3), notin2 (neM (by omega)) (e2 0), notin2 (neM (by omega)) (e1 1)⟩
      refine ⟨s1.heap.objs.size + 4, [s1.heap.objs.size + 4, s1.heap.objs.size + 2, s1.heap.objs.size + 3, s1.heap.objs.size, s1.heap.objs.size + 1], _, _, H1, rfl, I2, turn_zipM S (Nat.ne_of_lt la) (Nat.ne_of_lt (Nat.lt_succ_of_lt lb)), ⟨hz, hTI, ⟨_, _, hTO⟩, ⟨_, g1, rfl, rfl⟩, ⟨_, g2, rfl, rfl⟩⟩, fun c hcm => ?_, q⟩
      have hle : s1.heap.objs.size ≤ c := by
        rcases five hcm with r | r | r | r | r <;> rw [r] <;> first | exact Nat.le_refl _ | exact Nat.le_add_right _ _
      exact I1.fpOk hle (I1.hok.fresh hle)
theorem walk_zipM {K : PySem.W.Frag} {a b : Addr} {xs ys : List V} {n : Nat} (h1 : xs.length = n) (h2 : ys.length = n) : Walk (ItzM K a b) n (fun H => SqL K H a xs ∧ SqT K H b ys) (YPair (fun i => xs[i]?) (fun i => ys[i]?)) where
  goes := fun i H hi ⟨q1, q2⟩ => ⟨xs, ys, xs[i]'(by omega), ys[i]'(by omega), q1, q2, by simp, by simp⟩
  stops := fun H ⟨q1, q2⟩ => ⟨xs, ys, q1, q2, by omega, h1⟩
  yields := fun i H x H' hi ⟨q1, q2⟩ ⟨T, u, v, e, n, e2, z1, z2⟩ => ⟨T, u, v, e, n, e2, z1 xs q1, z2 ys q2⟩
end PW

namespace PW
open PySem PySem.Spec PyProof.Rows L2
/-! ### zip of a list and a list or a tuple -/
def iZipG (K : PySem.W.Frag) (ta : TA) : TI := fun σ H R => ta σ H fun ws H1 => ∃ a b us vs, ws = [.ref a, .ref b] ∧ SqL K H1 a us ∧ ((SqL K H1 b vs ∧ R (Itz K a b) H1) ∨ (SqT K H1 b vs ∧ R (ItzM K a b) H1))
theorem pi_zipG {X : Cx} {K : PySem.W.Frag} {e e2 : Expr} {ta : TA} {p pos tpos : Pos} {elts : List Expr} {kk : Nat} (hg : Gl X "zip") (hm : X.mg "zip" = none) (ha : PA X [e, e2] ta) (hK : X.K = K := by rfl)
    (hs : starEach [e, e2] X.env = (false, eval e X.env) :: starEach [e2] X.env := by rfl) (hpl : (backTo pos (starEach [e2] X.env)).any (·.1) = false := by rfl) : PI X (.Tuple elts kk tpos) (.Call (.Name "zip" p) [e, e2] [] pos) (iZipG K ta) := by
  subst hK
  refine ⟨fun pins s σ H R I h => Call_ (ld_blt I hg hm PyProof.Rows.boot_zip (PyProof.Rows.callWith_type1 (thn (ha.run pos pins s σ H _ I h) fun us s1 ⟨vs, H1, I1, r1, q1⟩ => ?_) hs hpl))⟩
  obtain ⟨a, b, xs, ys, rfl, qu, q1⟩ := q1
  obtain ⟨ua, ub, rfl, ra, rb⟩ := vals2 r1
  cases ra
  cases rb
  obtain ⟨l1, k1, p1, _⟩ := I1.list qu
  have la : a < s1.heap.objs.size := p1.lt
  rcases q1 with ⟨qv, q⟩ | ⟨qv, q⟩
  · obtain ⟨l2, k2, p2, _⟩ := I1.list qv
    have lb : b < s1.heap.objs.size := p2.lt
    refine call_zip_2 p1.isList p2.isList fun h' hz hTI hTO g1 g2 hsz hk => wpAny_pyIter_zip hz ?_
    have I2 : Inv X pins σ H1 { s1 with heap := h' } := I1.kept (t' := s1.toks) hk
    refine ⟨s1.heap.objs.size + 4, [s1.heap.objs.size + 4, s1.heap.objs.size + 2, s1.heap.objs.size + 3, s1.heap.objs.size, s1.heap.objs.size + 1], _, _, H1, rfl, I2, turn_zip (PySem.W.ktu_apart _ a b la lb), ⟨hz, hTI, ⟨_, _, hTO⟩, g1, g2⟩, fun c hcm => ?_, q⟩
    have hle : s1.heap.objs.size ≤ c := by
      rcases five hcm with r | r | r | r | r <;> rw [r] <;> first | exact Nat.le_refl _ | exact Nat.le_add_right _ _
    exact I1.fpOk hle (I1.hok.fresh hle)
  · obtain ⟨l2, k2, p2, _⟩ := I1.tuple qv
    obtain ⟨o2, ho2, _⟩ := id p2
    have lb : b < s1.heap.objs.size := Heap.lt_size ho2
    refine zip_begins2 (begins_list a l1.toArray) (begins_tuple b l2.toArray) p1.isList p2 fun h' hz hTI hTO g1 g2 hsz hk => wpAny_pyIter_zip hz ?_
    have I2 : Inv X pins σ H1 { s1 with heap := h' } := I1.kept (t' := s1.toks) hk
    have S : ZipSep2 (s1.heap.objs.size + 4) (s1.heap.objs.size + 2) (s1.heap.objs.size + 3) s1.heap.objs.size (s1.heap.objs.size + 1) [s1.heap.objs.size, a] [s1.heap.objs.size + 1, b] := by
      generalize s1.heap.objs.size = n at la lb
      have la' : (a : Nat) < n := la
      have lb' : (b : Nat) < n := lb
      have e1 : ∀ k : Nat, n + k ≠ a := fun k e => Nat.lt_irrefl a (Nat.lt_of_lt_of_le la (e ▸ Nat.le_add_right n k))
      have e2 : ∀ k : Nat, n + k ≠ b := fun k e => Nat.lt_irrefl b (Nat.lt_of_lt_of_le lb (e ▸ Nat.le_add_right n k))
      exact ⟨neM (by omega), neM (by omega), neM (by omega), neM (by omega), List.mem_cons_self, notin2 (neM (by omega)) (e1 4), notin2 (neM (by omega)) (e1 3), neM (by omega), List.mem_cons_self, notin2 (neM (by omega)) (e2 4), notin2 (neM (by omega)) (e2 3), notin2 (neM (by omega)) (e2 0), notin2 (neM (by omega)) (e1 1)⟩
    refine ⟨s1.heap.objs.size + 4, [s1.heap.objs.size + 4, s1.heap.objs.size + 2, s1.heap.objs.size + 3, s1.heap.objs.size, s1.heap.objs.size + 1], _, _, H1, rfl, I2, turn_zipM S (Nat.ne_of_lt la) (Nat.ne_of_lt (Nat.lt_succ_of_lt lb)), ⟨hz, hTI, ⟨_, _, hTO⟩, ⟨_, g1, rfl, rfl⟩, ⟨_, g2, rfl, rfl⟩⟩, fun c hcm => ?_, q⟩
    have hle : s1.heap.objs.size ≤ c := by
      rcases five hcm with r | r | r | r | r <;> rw [r] <;> first | exact Nat.le_refl _ | exact Nat.le_add_right _ _
    exact I1.fpOk hle (I1.hok.fresh hle)
theorem wk_zipM {F : Fr} {O : Addr → Prop} {H : Hp} {a b : Addr} {vs ws : List V} {ds es : List D} {r : Bool} (hl : ds.length = es.length) (h1 : F.RH O H r a = some (.lst vs)) (h2 : RepL F.K (F.RH O H r) vs ds) (h3 : F.RH O H r b = some (.tup ws)) (h4 : RepL F.K (F.RH O H r) ws es) : Wk (ItzM F.K a b) (zipD r ds es) F O H := by
  have hz : (zipD r ds es).length = ds.length := by simp [zipD, hl]
  refine ⟨fun G O H => G.K = F.K ∧ (G.RH O H r a = some (.lst vs) ∧ RepL F.K (G.RH O H r) vs ds) ∧ G.RH O H r b = some (.tup ws) ∧ RepL F.K (G.RH O H r) ws es, ⟨rfl, ⟨h1, h2⟩, h3, h4⟩, fun G O H O' H' h s _ => ⟨h.1, ⟨s r _ _ h.2.1.1, h.2.1.2.mono (s r)⟩, s r _ _ h.2.2.1, h.2.2.2.mono (s r)⟩,
    fun G O H b o h hb => ⟨h.1, ⟨rh_hide hb r _ _ h.2.1.1, h.2.1.2.mono (rh_hide hb r)⟩, rh_hide hb r _ _ h.2.2.1, h.2.2.2.mono (rh_hide hb r)⟩,
    fun G O H b u o h hh hb nt => ⟨h.1, ⟨rh_hid hh hb nt r _ _ h.2.1.1, h.2.1.2.mono (rh_hid hh hb nt r)⟩, rh_hid hh hb nt r _ _ h.2.2.1, h.2.2.2.mono (rh_hid hh hb nt r)⟩, fun G O H i h hi => ?_, fun G O H i h hi => ?_, fun G O H i r' d x H' h hi y => ?_⟩
  · rw [hz, ← h2.len] at hi
    exact ⟨vs, ws, SqL.of (cut_le _ _ h.2.1.1), SqT.of (cut_le _ _ h.2.2.1), by rw [h2.len, h4.len, hl], hi.symm⟩
  · rw [hz, ← h2.len] at hi
    have g2 : i < ws.length := by
      rw [h4.len, ← hl, ← h2.len]
      exact hi
    exact ⟨vs, ws, vs[i], ws[i], SqL.of (cut_le _ _ h.2.1.1), SqT.of (cut_le _ _ h.2.2.1), by simp [hi], by simp [g2]⟩
  · obtain ⟨T, v, u, rfl, nT, rfl, y1, y2⟩ := y
    have sm : Same H (upd H T (.tup [v, u])) := same_new nT
    refine ⟨sm, ?_⟩
    unfold zipD at hi
    rw [List.getElem?_zipWith] at hi
    cases e1 : ds[i]? with
    | none =>
      rw [e1] at hi
      cases hi
    | some d1 =>
      cases e2 : es[i]? with
      | none =>
        rw [e1, e2] at hi
        cases hi
      | some d2 =>
        rw [e1, e2] at hi
        cases hi
        obtain ⟨w1, g1, g2⟩ := h.2.1.2.get e1
        obtain ⟨w2, g3, g4⟩ := h.2.2.2.get e2
        have z1 := y1 vs (SqL.of (cut_le _ _ h.2.1.1))
        have z2 := y2 ws (SqT.of (cut_le _ _ h.2.2.1))
        rw [g1] at z1
        cases z1
        rw [g3] at z2
        cases z2
        have up : Same (G.RH O H r) (G.RH O (upd H T (.tup [v, u])) r) := cut_mono (fun b u hb nb => ⟨sm _ _ hb, nb⟩) fun b xs hb _ => sm _ _ hb
        rw [h.1]
        exact .tup (cut_tup upd_same) (.cons (g2.mono up) (.one (g4.mono up)))
def dZipG (u : DAW) : DIW := fun X ρ R => u X ρ fun xs ρ1 => match sts ρ1 (xs.map DV.tmp) with
  | some (r, [.lst ds, .lst es], ρ2) => R (zipD r ds es) ρ2
  | some (r, [.lst ds, .tup es], ρ2) => ds.length = es.length ∧ R (zipD r ds es) ρ2
  | _ => False
instance {K : PySem.W.Frag} {W : WXT} {t : TA} {u : DAW} [A : DA K W t u] : DI K W (iZipG K t) (dZipG u) where
  ok := fun {F σ H ρ X R Q} hK E L h q => A.ok hK E L h fun xs ρ1 vs H1 h1 E1 s1 r1 => by
    subst hK
    split at h1
    · rename_i r ds es ρ2 e
      obtain ⟨E2, s2, p2⟩ := sts_rep E1 (dCons_tmp r1) e
      cases p2 with
      | cons g g' =>
        cases g' with
        | cons g' g'' =>
          cases g''
          cases g with
          | lst g1 g2 =>
            cases g' with
            | lst g3 g4 => exact ⟨_, _, _, _, rfl, SqL.of (cut_le _ _ g1), .inl ⟨SqL.of (cut_le _ _ g3), q _ ρ2 H1 _ h1 E2 (s1.trans s2) (wk_zip g1 g2 g3 g4)⟩⟩
    · rename_i r ds es ρ2 e
      obtain ⟨E2, s2, p2⟩ := sts_rep E1 (dCons_tmp r1) e
      cases p2 with
      | cons g g' =>
        cases g' with
        | cons g' g'' =>
          cases g''
          cases g with
          | lst g1 g2 =>
            cases g' with
            | tup g3 g4 => exact ⟨_, _, _, _, rfl, SqL.of (cut_le _ _ g1), .inr ⟨SqT.of (cut_le _ _ g3), q _ ρ2 H1 _ h1.2 E2 (s1.trans s2) (wk_zipM h1.1 g1 g2 g3 g4)⟩⟩
    · exact h1.elim
theorem pg_tupG {X : Cx} {K : PySem.W.Frag} {pos : Pos} {es : List Expr} {k : Nat} {t : TGs} {n : Nat} (hc : X.calm = true) (h : PGs X es t)
    (hn : (assignEach es X.env).length = n := by rfl) (hst : (assignEach es X.env).findIdx? (·.1) = none := by rfl) (hK : X.K = K := by rfl) : PG X (.Tuple es k pos) (gTup K n t) := by
  subst hK
  exact pg_tup hc h hn hst
/-! ### {k: v, ..} -/
abbrev DPW := XC → DEnv → (List (DV × DV) → DEnv → Prop) → Prop
class DPr (K : PySem.W.Frag) (W : WXT) (t : List (TE × TE)) (w : outParam DPW) : Prop where
  ok : ∀ {F : Fr} {σ : L2.St} {H : Hp} {ρ : DEnv} {X : XC} {R : List (DV × DV) → DEnv → Prop} {Q : List (V × V) → Hp → Prop}, F.K = K → Env F σ ρ H → XLink F W X σ ρ H → w X ρ R →
    (∀ ps ρ' vs H', R ps ρ' → Env F σ ρ' H' → Stp (OwnA σ ρ) H (OwnA σ ρ') H' → Paired (fun v p => RepV F H σ ρ' H' v.1 p.1 ∧ RepV F H σ ρ' H' v.2 p.2) vs ps → Q vs H') → tPairs t σ H Q
def dpNil : DPW := fun _ ρ R => R [] ρ
def dpCons (wk wv : DW) (u : DPW) : DPW := fun X ρ R => wk X ρ fun x ρ1 => wv X ρ1 fun y ρ2 => u X ρ2 fun ps ρ3 => R ((x.tmp, y.tmp) :: ps) ρ3
section
variable {K : PySem.W.Frag} {W : WXT}
instance : DPr K W [] dpNil where
  ok := fun {F σ H ρ X R Q} hK E L h q => q [] ρ [] H h E (.refl _ _) .nil
instance {tk tv : TE} {r : List (TE × TE)} {wk wv : DW} {u : DPW} [A : DE K W tk wk] [B : DE K W tv wv] [C : DPr K W r u] : DPr K W ((tk, tv) :: r) (dpCons wk wv u) where
  ok := fun {F σ H ρ X R Q} hK E L h q => by
    refine A.ok hK E L h fun x ρ1 v H1 h1 E1 s1 r1 => ?_
    refine B.ok hK E1 (L.stp s1) h1 fun y ρ2 w H2 h2 E2 s2 r2 => ?_
    refine C.ok hK E2 (L.stp (s1.trans s2)) h2 fun ps ρ3 vs H3 h3 E3 s3 r3 => ?_
    refine q _ ρ3 _ H3 h3 E3 ((s1.trans s2).trans s3) (.cons ⟨r1.stp E1 (s2.trans s3), r2.stp E2 s3⟩ (paired_imp (fun a b z => ⟨z.1.early (s1.trans s2), z.2.early (s1.trans s2)⟩) r3))
/-- the pairs, stored -/
def stp2 (ρ : DEnv) : List (DV × DV) → Option (Bool × List (Key × D) × DEnv)
  | [] => some (true, [], ρ)
  | (x, y) :: ps => match rd ρ x with
    | some (_, dx) => match keyOf dx with
      | some k => match st ρ y with
        | some (r, d, ρ1) => match stp2 ρ1 ps with
          | some (r', es, ρ2) => some (r && r', (k, d) :: es, ρ2)
          | none => none
        | none => none
      | none => none
    | none => none
def mergeD (es more : List (Key × D)) : List (Key × D) := more.foldl (fun acc kv => putD acc kv.1 kv.2) es
theorem merge_rep {K : PySem.W.Frag} {H : Hp} : ∀ {more : List (Key × V)} {more' : List (Key × D)}, KRep K H more more' → ∀ {kvs : List (Key × V)} {es : List (Key × D)}, KRep K H kvs es → KRep K H (mergeK kvs more) (mergeD es more') := fun {more more'} h => by
  refine h.ind (P := fun more more' => ∀ {kvs : List (Key × V)} {es : List (Key × D)}, KRep K H kvs es → KRep K H (mergeK kvs more) (mergeD es more')) (fun g => g) fun k v d m m' hv _ ih kvs es g => ?_
  exact ih (g.put k hv)
theorem stp2_rep {F : Fr} {Hs : Hp} {σ : L2.St} {H : Hp} : ∀ {vs : List (V × V)} {ps : List (DV × DV)} {ρ : DEnv} {r : Bool} {es : List (Key × D)} {ρ' : DEnv}, Env F σ ρ H → Paired (fun v p => (RepV F Hs σ ρ H v.1 p.1 ∧ p.1.tmp = p.1) ∧ RepV F Hs σ ρ H v.2 p.2 ∧ p.2.tmp = p.2) vs ps → stp2 ρ ps = some (r, es, ρ') →
    Env F σ ρ' H ∧ Stp (OwnA σ ρ) H (OwnA σ ρ') H ∧ ∃ kvs : List (Key × V), vs = kvs.map (fun kv => (kV kv.1, kv.2)) ∧ KRep F.K (F.RH (OwnA σ ρ') H r) kvs es
  | _, _, ρ, _, _, _, E, .nil, e => by
    cases e
    exact ⟨E, .refl _ _, [], rfl, .nil⟩
  | _, _, ρ, _, _, _, E, .cons (a := v) (b := p) h g, e => by
    obtain ⟨x, y⟩ := p
    obtain ⟨v1, v2⟩ := v
    simp only [stp2] at e
    split at e
    · rename_i rx dx hx
      split at e
      · rename_i k hk
        split at e
        · rename_i r d ρ1 h1
          split at e
          · rename_i r' es ρ2 h2
            cases e
            obtain ⟨E1, s1, p1⟩ := h.2.1.st E h1
            have hv1 : v1 = kV k := keyOf_v (h.1.1.top E hx) hk
            obtain ⟨E2, s2, kvs, ek, kr⟩ := stp2_rep E1 (paired_imp (fun v dv z => ⟨⟨RepV.stp0 E z.1.1 s1 z.1.2, z.1.2⟩, RepV.stp0 E z.2.1 s1 z.2.2, z.2.2⟩) g) h2
            refine ⟨E2, s1.trans s2, (k, v2) :: kvs, by rw [List.map_cons, ek, hv1], .cons ((p1.mono (E1.rh s2)).weak fun z => ?_) ⟨kr.1, kr.2.weak fun z => ?_⟩⟩
            · rw [Bool.and_eq_true] at z
              exact z.1
            · rw [Bool.and_eq_true] at z
              exact z.2
          · cases e
        · cases e
      · cases e
    · cases e
@[irreducible] def mergeC (es : List (Key × D)) : List (Key × D) := mergeD [] es
theorem mergeC_eq (es : List (Key × D)) : mergeC es = mergeD [] es := by unfold mergeC; rfl
def dDisp (u : DPW) : DW := fun X ρ R => u noX ρ fun ps ρ1 => match stp2 ρ1 (ps.map fun p => (p.1.tmp, p.2.tmp)) with
  | some (r, es, ρ2) => es.length ≤ 15 ∧ R (.fr r (.dK (mergeC es))) ρ2
  | none => False
theorem pairs_tmp {F : Fr} {Hs : Hp} {σ : L2.St} {ρ : DEnv} {H : Hp} : ∀ {vs : List (V × V)} {ps : List (DV × DV)}, Paired (fun v p => RepV F Hs σ ρ H v.1 p.1 ∧ RepV F Hs σ ρ H v.2 p.2) vs ps → Paired (fun v p => (RepV F Hs σ ρ H v.1 p.1 ∧ p.1.tmp = p.1) ∧ RepV F Hs σ ρ H v.2 p.2 ∧ p.2.tmp = p.2) vs (ps.map fun p => (p.1.tmp, p.2.tmp))
  | _, _, .nil => .nil
  | _, _, .cons (b := p) h g => by
    have one : ∀ {v : V} {x : DV}, RepV F Hs σ ρ H v x → RepV F Hs σ ρ H v x.tmp ∧ x.tmp.tmp = x.tmp := fun {v x} z => by
      cases x with
      | v r d => exact ⟨z, rfl⟩
      | al i => exact ⟨z, rfl⟩
      | fr r d => exact ⟨z.fr_rep, rfl⟩
    exact .cons ⟨one h.1, one h.2⟩ (pairs_tmp g)
instance {t : List (TE × TE)} {u : DPW} [A : DPr K W t u] : DE K W (tDisp t) (dDisp u) where
  ok := fun {F σ H ρ X R Q} hK E L h q => fun a ha => by
    obtain ⟨n0, nh, nO, npt⟩ := E.new ha
    have E1 : Env (F.hide a) σ ρ (upd H a (.dK [])) := E.hideNew ha (same_new ha) ⟨_, upd_same⟩
    refine A.ok (F := F.hide a) hK E1 XLink.no h fun ps ρ1 vs H1 h1 E2 s2 r2 => ?_
    obtain ⟨k1, k2⟩ := s2.kp a _ upd_same nO
    refine ⟨k1, ?_⟩
    split at h1
    · rename_i r es ρ2 e
      obtain ⟨E3, s3, kvs, rfl, kr⟩ := stp2_rep E2 (pairs_tmp r2) e
      refine ⟨kvs, rfl, by rw [kr.len]; exact h1.1, ?_⟩
      have nt : ∀ xs, HO.dK [] ≠ .tup xs := fun _ z => by cases z
      have E4 : Env (F.hide a) σ ρ2 (upd H1 a (.dK (mergeK [] kvs))) := E3.hidUpd n0 k1 nt
      have mr := (merge_rep kr .nil).mono (rh_hid (F := F.hide a) (o := .dK (mergeK [] kvs)) (Or.inl rfl) k1 nt r)
      have st : Stp (OwnA σ ρ) H (OwnA σ ρ2) (upd H1 a (.dK (mergeK [] kvs))) := by
        have s1 : Stp (OwnA σ ρ) H (OwnA σ ρ) (upd H a (.dK [])) := .same (same_new ha)
        exact ((s1.trans s2).trans s3).updNew ha
      refine q _ ρ2 _ _ h1.2 E4.unhide st ⟨a, rfl, ha, nh, n0, rfl, E4, ?_⟩
      rw [upd_same]
      rw [mergeC_eq]
      exact ⟨_, rfl, mr.1, mr.2⟩
    · exact h1.elim
end
end PW

namespace PW
open PySem PySem.Spec PyProof.Rows L2
/-! ### dicts by texts -/
def strE {α : Type} (f : α → D) (l : List (Str × α)) : List (Key × D) := l.map fun e => ((Sum.inr e.1 : Key), f e.2)
section
variable {α : Type} {f : α → D} {l : List (Str × α)}
theorem strE_val (nd : (l.map Prod.fst).Nodup) {e : Str × α} (h : e ∈ l) : valC (strE f l) (Sum.inr e.1) = some (f e.2) := by
  rw [valC_eq]
  unfold valD strE
  induction l with
  | nil => cases h
  | cons a l ih =>
    rw [List.map_cons, List.nodup_cons] at nd
    rw [List.map_cons, List.find?_cons]
    rcases List.mem_cons.mp h with rfl | h
    · rw [decide_eq_true (rfl : (Sum.inr e.1 : Key) = Sum.inr e.1)]
      rfl
    · have ne : ¬ (Sum.inr a.1 : Key) = Sum.inr e.1 := fun z => nd.1 (by rw [Sum.inr.inj z]; exact List.mem_map_of_mem h)
      rw [decide_eq_false ne]
      exact ih nd.2 h
theorem strE_none {x : Str} (h : x ∉ l.map Prod.fst) : valC (strE f l) (Sum.inr x) = none := by
  rw [valC_eq]
  unfold valD strE
  induction l with
  | nil => rfl
  | cons a l ih =>
    rw [List.map_cons, List.mem_cons, not_or] at h
    rw [List.map_cons, List.find?_cons, decide_eq_false (fun z => h.1 (Sum.inr.inj z).symm : ¬ (Sum.inr a.1 : Key) = Sum.inr x)]
    exact ih h.2
theorem strE_put {x : Str} {a : α} {d : D} (hd : d = f a) (h : x ∉ l.map Prod.fst) : putC (strE f l) (Sum.inr x) d = strE f (l ++ [(x, a)]) := by
  subst hd
  rw [putC_eq]
  unfold putD strE
  rw [if_neg, List.map_append]
  · rfl
  · intro z
    obtain ⟨e, he, z⟩ := List.any_eq_true.mp z
    obtain ⟨e', he', rfl⟩ := List.mem_map.mp he
    exact h (by rw [← Sum.inr.inj (of_decide_eq_true z)]; exact List.mem_map_of_mem he')
theorem strE_len : (strE f l).length = l.length := by
  unfold strE
  rw [List.length_map]
end
theorem getD_some {α : Type} {f : α → D} {l : List (Str × α)} (nd : (l.map Prod.fst).Nodup) {e : Str × α} (h : e ∈ l) (r r' : Bool) : getD (r, .dK (strE f l)) (r', .str e.1) = some (some (f e.2)) := by
  show some (valC (strE f l) (Sum.inr e.1)) = _
  rw [strE_val nd h]
theorem getD_none {α : Type} {f : α → D} {l : List (Str × α)} {x : Str} (h : x ∉ l.map Prod.fst) (r r' : Bool) : getD (r, .dK (strE f l)) (r', .str x) = some none := by
  show some (valC (strE f l) (Sum.inr x)) = _
  rw [strE_none h]
theorem while_inv {c : DTW} {tb : DSW} {X : XC} {E : DEnds} {ρ : DEnv} (V : Nat → DEnv → Prop) (m : Nat) (h0 : V m ρ) (turn : ∀ m ρ, V m ρ → c X ρ fun b ρ1 =>
  ifC b (tb X { E with nx := fun ρ' => ∃ m', m' < m ∧ V m' ρ', ct := fun ρ' => ∃ m', m' < m ∧ V m' ρ', bk := E.nx } ρ1) (E.nx ρ1)) : whileC c tb X E ρ := by
  unfold whileC
  exact ⟨V, ⟨m, h0⟩, turn⟩
/-! ### more ways on -/
theorem ifC_d {p : Prop} [Decidable p] {A B : Prop} (h1 : p → A) (h2 : ¬ p → B) : ifC (decide p) A B := ifC_of (fun e => h1 (of_decide_eq_true e)) fun e => h2 (of_decide_eq_false e)
theorem ifC_nd {p : Prop} [Decidable p] {A B : Prop} (h1 : ¬ p → A) (h2 : p → B) : ifC (!decide p) A B := ifC_of (fun e => h1 fun z => by rw [decide_eq_true z] at e; cases e) fun e => h2 (Classical.byContradiction fun z => by rw [decide_eq_false z] at e; cases e)
/-- a test of several parts: what follows where one of them fails is shown once -/
theorem ifC_s {b : Bool} {A B : Prop} {c : Prop} (hB : ¬ c → B) (hb : b = false → ¬ c) (hA : b = true → A) : ifC b A B := ifC_of hA fun e => hB (hb e)
theorem ifC_o {b : Bool} {A B : Prop} {c : Prop} (hA : c → A) (hb : b = true → c) (hB : b = false → B) : ifC b A B := ifC_of (fun e => hA (hb e)) hB
/-- a walk that carries a state -/
theorem loop_fold {α S : Type} {g : DGW} {tb : DSW} {X : XC} {E : DEnds} (f : α → Bool × D) (xs : List α) (step : S → α → S) (Iv : S → Prop) (Rf : S → DEnv → Prop) (s0 : S) {ρ : DEnv} (hi : Iv s0) (h0 : Rf s0 ρ)
    (hs : ∀ (s : S) (x : α) (ρ : DEnv) (k : DEnv → Prop), x ∈ xs → Iv s → Rf s ρ → (Iv (step s x) → ∀ ρ', Rf (step s x) ρ' → k ρ') → g (f x) ρ fun ρ1 => tb X { E with nx := k, ct := k, bk := E.nx } ρ1)
    (hv : ∀ s x, x ∈ xs → Iv s → Iv (step s x))
    (hd : ∀ ρ, Iv (xs.foldl step s0) → Rf (xs.foldl step s0) ρ → E.nx ρ) : loopC g tb X E (xs.map f) ρ := by
  refine loop_inv f xs (fun i ρ => Iv ((xs.take i).foldl step s0) ∧ Rf ((xs.take i).foldl step s0) ρ) ⟨hi, h0⟩ (fun i x ρ k hx h hk => ?_) fun ρ h => ?_
  · have hm := List.mem_of_getElem? hx
    refine hs _ x ρ k hm h.1 h.2 fun _ ρ' h' => hk ρ' ?_
    rw [List.take_add_one, hx, Option.toList_some, List.foldl_append]
    exact ⟨hv _ x hm h.1, h'⟩
  · rw [List.take_length] at h
    exact hd ρ h.1 h.2
/-- the first thing that ends a walk: found by p -/
theorem loop_find {α : Type} {g : DGW} {tb : DSW} {X : XC} {E : DEnds} (f : α → Bool × D) (xs : List α) (p : α → Bool) (Rf : DEnv → Prop) {ρ : DEnv} (h0 : Rf ρ)
    (hs : ∀ (x : α) (ρ : DEnv) (k : DEnv → Prop), x ∈ xs → Rf ρ → (p x = false → ∀ ρ', Rf ρ' → k ρ') → g (f x) ρ fun ρ1 => tb X { E with nx := k, ct := k, bk := E.nx } ρ1)
    (hd : ∀ ρ, (∀ x ∈ xs, p x = false) → Rf ρ → E.nx ρ) : loopC g tb X E (xs.map f) ρ := by
  refine loop_inv f xs (fun i ρ => (∀ x ∈ xs.take i, p x = false) ∧ Rf ρ) ⟨(fun x hx => by cases hx), h0⟩ (fun i x ρ k hx h hk => ?_) fun ρ h => ?_
  · refine hs x ρ k (List.mem_of_getElem? hx) h.2 fun e ρ' h' => hk ρ' ⟨fun y hy => ?_, h'⟩
    rw [List.take_add_one, hx, Option.toList_some] at hy
    rcases List.mem_append.mp hy with hy | hy
    · exact h.1 y hy
    · rw [List.mem_singleton.mp hy]
      exact e
  · rw [List.take_length] at h
    exact hd ρ h.1 h.2
theorem loopR {α : Type} {g : DGW} {tb : DSW} {X : XC} {E : DEnds} {f : α → Bool × D} {xs : List α} {its : Items} {ρ : DEnv} (e : its = xs.map f) (h : loopC g tb X E (xs.map f) ρ) : loopC g tb X E its ρ := e ▸ h
theorem lcR {α : Type} {g : DGW} {tt : DTW} {te : DW} {vs : List Nat} {kk : Bool → List D → DEnv → Prop} {f : α → Bool × D} {xs : List α} {its : Items} {ρ : DEnv} (e : its = xs.map f) (h : lcC g tt te vs kk (xs.map f) ρ) : lcC g tt te vs kk its ρ := e ▸ h
/-! dicts by texts: whether a text is a key -/
theorem valC_has {α : Type} {f : α → D} {l : List (Str × α)} (x : Str) : (valC (strE f l) (Sum.inr x)).isSome = decide (x ∈ l.map Prod.fst) := by
  rw [valC_eq]
  unfold valD strE
  induction l with
  | nil => rfl
  | cons a l ih =>
    rw [List.map_cons, List.find?_cons]
    by_cases h : a.1 = x
    · rw [decide_eq_true (show (Sum.inr a.1 : Key) = Sum.inr x by rw [h])]
      rw [decide_eq_true]
      · rfl
      · rw [List.map_cons, h]
        exact List.mem_cons_self
    · rw [decide_eq_false (fun z => h (Sum.inr.inj z) : ¬ (Sum.inr a.1 : Key) = Sum.inr x)]
      show (Option.map _ (List.find? _ _)).isSome = _
      rw [ih]
      rw [Bool.eq_iff_iff, decide_eq_true_iff, decide_eq_true_iff, List.map_cons, List.mem_cons]
      exact ⟨.inr, fun z => z.resolve_left fun y => h y.symm⟩
theorem ifC_key {α : Type} {f : α → D} {l : List (Str × α)} {x : Str} {A B : Prop} (h : ifC (decide (x ∈ l.map Prod.fst)) A B) : ifC (valC (strE f l) (Sum.inr x)).isSome A B := by
  rw [valC_has]
  exact h
theorem ifC_nkey {α : Type} {f : α → D} {l : List (Str × α)} {x : Str} {A B : Prop} (h : ifC (!decide (x ∈ l.map Prod.fst)) A B) : ifC (!(valC (strE f l) (Sum.inr x)).isSome) A B := by
  rw [valC_has]
  exact h
theorem atI_hd {α : Type} (x : α) (xs : List α) : atI (x :: xs) 0 = some x := atI_nat (j := 0) rfl
theorem atI_map_hd {α β : Type} (f : α → β) (x : α) (xs : List α) : atI (List.map f (x :: xs)) 0 = some (f x) := atI_nat (j := 0) rfl
def fsPoints : FS := fun ds Q _ => ∃ ns ts, ds = [webD ns ts] ∧ Q (nmsD ns)
def fsTies : FS := fun ds Q _ => ∃ ns ts, ds = [webD ns ts] ∧ Q (tiesD ts)
def fsMany : FS := fun ds Q _ => ∃ ns ts, ds = [webD ns ts] ∧ Q (.int (ts.length : Nat))
theorem call_points {ns : List Str} {ts : List (Str × Str)} {Q : D → Prop} {x : Exn → Prop} (h : Q (nmsD ns)) : fsPoints [webD ns ts] Q x := ⟨ns, ts, rfl, h⟩
theorem call_ties {ns : List Str} {ts : List (Str × Str)} {Q : D → Prop} {x : Exn → Prop} (h : Q (tiesD ts)) : fsTies [webD ns ts] Q x := ⟨ns, ts, rfl, h⟩
theorem call_many {ns : List Str} {ts : List (Str × Str)} {Q : D → Prop} {x : Exn → Prop} (h : Q (.int (ts.length : Nat))) : fsMany [webD ns ts] Q x := ⟨ns, ts, rfl, h⟩
/-! ### == of lists of names, of numbers -/
theorem py_nms (ns : List Str) : (nmsD ns).py = dS ns := by
  unfold nmsD dS
  rw [D.py, pyL_eq, List.map_map]
  have : (D.py ∘ D.str) = PyData.str := funext fun x => by
    show (D.str x).py = _
    rw [D.py]
  rw [this]
theorem pl_map {α : Type} {f : α → D} (h : ∀ x, (f x).pl = true) : ∀ xs : List α, D.plL (xs.map f) = true
  | [] => by rw [List.map_nil, D.plL]
  | x :: xs => by rw [List.map_cons, D.plL, h x, pl_map h xs]; rfl
theorem pl_nms (ns : List Str) : (nmsD ns).pl = true := by
  unfold nmsD
  rw [D.pl]
  exact pl_map (fun x => by rw [D.pl]) ns
theorem eqC_nms {ns ms : List Str} {k : Bool → Prop} (h1 : ∀ x ∈ ns, IsName x) (h2 : ∀ x ∈ ms, IsName x) (h : k (decide (ns = ms))) : eqC (nmsD ns) (nmsD ms) k := by
  refine eqC_plain (n := 1) (m := 1) (pl_nms _) (pl_nms _) (by rw [py_nms]; exact plain_dS h1) (by rw [py_nms]; exact plain_dS h2) (by decide) (by decide) fun b hb => ?_
  have : b = decide (ns = ms) := by
    rw [Bool.eq_iff_iff, hb, decide_eq_true_iff, py_nms, py_nms]
    exact ⟨fun e => map_inj (fun a b e => PyData.str.inj e) (PyData.list.inj e), fun e => by rw [e]⟩
  rw [this]
  exact h
theorem py_ints (ns : List Int) : (intsL ns).py = dI ns := by
  unfold intsL dI
  rw [D.py, pyL_eq, List.map_map]
  have : (D.py ∘ D.int) = PyData.int := funext fun x => by
    show (D.int x).py = _
    rw [D.py]
  rw [this]
theorem pl_ints (ns : List Int) : (intsL ns).pl = true := by
  unfold intsL
  rw [D.pl]
  exact pl_map (fun x => by rw [D.pl]) ns
theorem eqC_intsL {ns ms : List Int} {k : Bool → Prop} (h : k (decide (ns = ms))) : eqC (intsL ns) (intsL ms) k := by
  refine eqC_plain (n := 1) (m := 1) (pl_ints _) (pl_ints _) (by rw [py_ints]; exact plain_dI _) (by rw [py_ints]; exact plain_dI _) (by decide) (by decide) fun b hb => ?_
  have : b = decide (ns = ms) := by
    rw [Bool.eq_iff_iff, hb, decide_eq_true_iff, py_ints, py_ints]
    exact ⟨fun e => map_inj (fun a b e => PyData.int.inj e) (PyData.list.inj e), fun e => by rw [e]⟩
  rw [this]
  exact h
theorem imm_intsT (ps : List Int) : (D.tup (ps.map D.int)).imm = true := by
  rw [D.imm]
  exact immL_int _
theorem seqIx {i : Int} {n : Nat} (h0 : 0 ≤ i) (h1 : i < n) : seqIndex? i n = some i.toNat := by
  unfold seqIndex?
  simp only [Int.not_lt.mpr h0, if_false]
  rw [if_pos (by simp [h0, h1])]
theorem seqIx0 {α : Type} (x : α) (xs : List α) : seqIndex? 0 (x :: xs).length = some 0 := seqIx (by omega) (by rw [List.length_cons]; omega)
theorem zipD_tie (r : Bool) (ts : List (Str × Str)) (ps : List Int) : zipD r (ts.map tieD) (ps.map D.int) = (List.zip ts ps).map fun p => (r, .tup [tieD p.1, .int p.2]) := by
  unfold zipD
  rw [List.zipWith_map, List.zip, List.map_zipWith]
theorem nms_app (xs : List Str) (x : Str) : nmsD (xs ++ [x]) = .lst (xs.map D.str ++ [.str x]) := by
  unfold nmsD
  rw [List.map_append]
  rfl
end PW

namespace PW
open PySem PySem.Spec PyProof.Rows L2
/-! ### small things about data, for the draws -/
theorem atI_mapN {α β : Type} (f : α → β) {xs : List α} {i : Int} {x : α} (h0 : 0 ≤ i) (h : xs[i.toNat]? = some x) : atI (xs.map f) i = some (f x) := by
  refine atI_of (show i = ((i.toNat : Nat) : Int) by omega) ?_
  rw [List.getElem?_map, h]
  rfl
theorem atI_N {α : Type} {xs : List α} {i : Int} {x : α} (h0 : 0 ≤ i) (h : xs[i.toNat]? = some x) : atI xs i = some x := atI_of (show i = ((i.toNat : Nat) : Int) by omega) h
/-- the tie from the one ahead (the last, ahead of the first) to the k-th -/
theorem ring_atD {xs : List Str} (hn : 2 ≤ xs.length) (nd : xs.Nodup) {k : Int} (h0 : 0 ≤ k) (h1 : k < xs.length) :
    ∃ x y, atI (xs.map D.str) (k - 1) = some (.str x) ∧ atI (xs.map D.str) k = some (.str y) ∧ TieOk xs (x, y) := by
  obtain ⟨x, y, e1, e2, ok⟩ := ring_at hn nd h0 h1
  have key : ∀ {i : Int} {z : Str}, atI (xs.map V.str) i = some (.str z) → atI (xs.map D.str) i = some (.str z) := fun {i z} e => by
    unfold atI at e ⊢
    rw [List.length_map] at e ⊢
    cases q : ixN xs.length i with
    | none =>
      rw [q] at e
      cases e
    | some j =>
      rw [q] at e
      have e : (xs.map V.str)[j]? = some (.str z) := e
      show (xs.map D.str)[j]? = some (.str z)
      rw [List.getElem?_map] at e ⊢
      cases w : xs[j]? with
      | none =>
        rw [w] at e
        cases e
      | some u =>
        rw [w] at e
        cases e
        rfl
  exact ⟨x, y, key e1, key e2, ok⟩
theorem cutD_from {α : Type} {xs : List α} {n : Nat} (h : n ≤ xs.length) : cutD xs (some (n : Int)) none = xs.drop n := by
  unfold cutD
  rw [HT.sIx_nat, HT.sIx_none, Nat.min_eq_left h]
  exact List.take_of_length_le (by rw [List.length_drop]; exact Nat.le_refl _)
theorem cutD_to {α : Type} {xs : List α} {n : Nat} : cutD xs none (some (n : Int)) = xs.take n := by
  unfold cutD
  rw [HT.sIx_nat, HT.sIx_none, List.drop_zero, Nat.sub_zero]
  by_cases h : n ≤ xs.length
  · rw [Nat.min_eq_left h]
  · rw [Nat.min_eq_right (by omega), List.take_length, List.take_of_length_le (by omega)]
theorem rep_flat {α : Type} (n : Nat) (x : α) : (List.replicate n [x]).flatten = List.replicate n x := by
  induction n with
  | zero => rfl
  | succ n ih => rw [List.replicate_succ, List.flatten_cons, ih, List.replicate_succ]; rfl
theorem perm_strs {ys : List D} {ns : List Str} (h : ys.Perm (ns.map D.str)) : ∃ rs : List Str, ys = rs.map D.str ∧ rs.Perm ns := perm_of_map h ns rfl
theorem ties_app (ts : List (Str × Str)) (t : Str × Str) : tiesD (ts ++ [t]) = .lst (ts.map tieD ++ [tieD t]) := by
  unfold tiesD
  rw [List.map_append]
  rfl
/-- by a draw for each number -/
theorem lc_drawnR {β : Type} {g : DGW} {tt : DTW} {te : DW} {vs : List Nat} {kk : Bool → List D → DEnv → Prop} (lo : Int) (n : Nat) (Rl : Nat → β → Prop) (h : β → D) {ρ : DEnv}
    (hs : ∀ i, i < n → ∀ (k1 : Bool → D → DEnv → Prop) (k2 : DEnv → Prop), (∀ y, Rl i y → k1 true (h y) ρ) → lcTurn g tt te vs (true, .int (lo + (i : Nat))) ρ k1 k2)
    (hd : ∀ ys : List β, ys.length = n → (∀ (i : Nat) (y : β), ys[i]? = some y → Rl i y) → kk true (ys.map h) ρ) : lcC g tt te vs kk (rangeD lo n) ρ := by
  unfold rangeD
  refine lc_drawn (fun i : Nat => (true, D.int (lo + (i : Nat)))) (List.range n) Rl h (fun i hi k1 k2 z => hs i (List.mem_range.mp hi) k1 k2 z) fun ys hl hy => hd ys (by rw [hl, List.length_range]) fun i y e => ?_
  have hi : i < n := by
    have := (List.getElem?_eq_some_iff.mp e).1
    rw [hl, List.length_range] at this
    exact this
  exact hy i i y (by rw [List.getElem?_range hi]) e
/-- by all numbers -/
theorem lc_mapR {g : DGW} {tt : DTW} {te : DW} {vs : List Nat} {kk : Bool → List D → DEnv → Prop} (lo : Int) (n : Nat) (h : Nat → D) {ρ : DEnv}
    (hs : ∀ i, i < n → ∀ (k1 : Bool → D → DEnv → Prop) (k2 : DEnv → Prop), k1 true (h i) ρ → lcTurn g tt te vs (true, .int (lo + (i : Nat))) ρ k1 k2)
    (hd : kk true ((List.range n).map h) ρ) : lcC g tt te vs kk (rangeD lo n) ρ := by
  unfold rangeD
  exact lc_map (fun i : Nat => (true, D.int (lo + (i : Nat)))) (List.range n) h (fun i hi k1 k2 z => hs i (List.mem_range.mp hi) k1 k2 z) hd
end PW

namespace PW
open PySem PySem.Spec PyProof.Rows L2
/-! ### loops, the frame told by what changes -/
def upF : DEnv → List (Nat × Option Sl) → DEnv
  | ρ, [] => ρ
  | ρ, (i, s) :: l => upF (ρ.set i s) l
theorem loopU {α : Type} {g : DGW} {tb : DSW} {X : XC} {E : DEnds} (f : α → Bool × D) (xs : List α) (Pv : DEnv → Nat → DEnv → Prop) {ρ : DEnv} (h0 : Pv ρ 0 ρ)
    (hs : ∀ (i : Nat) (x : α) (ρ' : DEnv) (k : DEnv → Prop), xs[i]? = some x → Pv ρ i ρ' → (∀ ρ2, Pv ρ (i + 1) ρ2 → k ρ2) → g (f x) ρ' fun ρ1 => tb X { E with nx := k, ct := k, bk := E.nx } ρ1)
    (hd : ∀ ρ', Pv ρ xs.length ρ' → E.nx ρ') : loopC g tb X E (xs.map f) ρ := loop_inv f xs (Pv ρ) h0 hs hd
theorem rangeU {g : DGW} {tb : DSW} {X : XC} {E : DEnds} (lo : Int) (n : Nat) (Pv : DEnv → Nat → DEnv → Prop) {ρ : DEnv} (h0 : Pv ρ 0 ρ)
    (hs : ∀ (i : Nat) (ρ' : DEnv) (k : DEnv → Prop), i < n → Pv ρ i ρ' → (∀ ρ2, Pv ρ (i + 1) ρ2 → k ρ2) → g (true, .int (lo + (i : Nat))) ρ' fun ρ1 => tb X { E with nx := k, ct := k, bk := E.nx } ρ1)
    (hd : ∀ ρ', Pv ρ n ρ' → E.nx ρ') : loopC g tb X E (rangeD lo n) ρ := range_inv lo n (Pv ρ) h0 hs hd
theorem foldU {α S : Type} {g : DGW} {tb : DSW} {X : XC} {E : DEnds} (f : α → Bool × D) (xs : List α) (step : S → α → S) (Iv : S → Prop) (Rf : DEnv → S → DEnv → Prop) (s0 : S) {ρ : DEnv} (hi : Iv s0) (h0 : Rf ρ s0 ρ)
    (hs : ∀ (s : S) (x : α) (ρ' : DEnv) (k : DEnv → Prop), x ∈ xs → Iv s → Rf ρ s ρ' → (Iv (step s x) → ∀ ρ2, Rf ρ (step s x) ρ2 → k ρ2) → g (f x) ρ' fun ρ1 => tb X { E with nx := k, ct := k, bk := E.nx } ρ1)
    (hv : ∀ s x, x ∈ xs → Iv s → Iv (step s x))
    (hd : ∀ ρ', Iv (xs.foldl step s0) → Rf ρ (xs.foldl step s0) ρ' → E.nx ρ') : loopC g tb X E (xs.map f) ρ := loop_fold f xs step Iv (Rf ρ) s0 hi h0 hs hv hd
theorem findU {α : Type} {g : DGW} {tb : DSW} {X : XC} {E : DEnds} (f : α → Bool × D) (xs : List α) (p : α → Bool) (Rf : DEnv → DEnv → Prop) {ρ : DEnv} (h0 : Rf ρ ρ)
    (hs : ∀ (x : α) (ρ' : DEnv) (k : DEnv → Prop), x ∈ xs → Rf ρ ρ' → (p x = false → ∀ ρ2, Rf ρ ρ2 → k ρ2) → g (f x) ρ' fun ρ1 => tb X { E with nx := k, ct := k, bk := E.nx } ρ1)
    (hd : ∀ ρ', (∀ x ∈ xs, p x = false) → Rf ρ ρ' → E.nx ρ') : loopC g tb X E (xs.map f) ρ := loop_find f xs p (Rf ρ) h0 hs hd
theorem whileU {c : DTW} {tb : DSW} {X : XC} {E : DEnds} {ρ : DEnv} (V : DEnv → Nat → DEnv → Prop) (m : Nat) (h0 : V ρ m ρ) (turn : ∀ m ρ', V ρ m ρ' → c X ρ' fun b ρ1 =>
  ifC b (tb X { E with nx := fun ρ2 => ∃ m', m' < m ∧ V ρ m' ρ2, ct := fun ρ2 => ∃ m', m' < m ∧ V ρ m' ρ2, bk := E.nx } ρ1) (E.nx ρ1)) : whileC c tb X E ρ := while_inv (V ρ) m h0 turn
/-! ### truths told -/
theorem blq {R : D → Prop} {b c : Bool} (e : b = c) (q : R (.bl c)) : R (.bl (negB false b)) := by
  rw [e]
  exact q
theorem blqn {R : D → Prop} {b c : Bool} (e : b = !c) (q : R (.bl c)) : R (.bl (negB true b)) := by
  rw [e]
  cases c <;> exact q
theorem blq0 {R : D → Prop} {b c : Bool} (e : b = c) (q : R (.bl c)) : R (.bl b) := by
  rw [e]
  exact q
theorem npx {e : Bool × D} {ps : List (Bool × D)} (h : noPotL [e] = true) (g : noPotL ps = true) : noPotL (e :: ps) = true := by
  unfold noPotL at h g ⊢
  rw [List.all_cons] at h ⊢
  rw [Bool.and_eq_true] at h ⊢
  exact ⟨h.1, g⟩
/-- a slot that has nothing to itself -/
def slN (s : Option Sl) : Bool := match (some s : Option (Option Sl)) with
  | some (some (.ow _ _)) => false
  | _ => true
/-! the frame written out -/
theorem frL {g : DGW} {tb : DSW} {X : XC} {E : DEnds} {items : Items} {ρ : DEnv} (ρ' : DEnv) (e : ρ = ρ') (h : loopC g tb X E items ρ') : loopC g tb X E items ρ := e ▸ h
theorem frWh {c : DTW} {tb : DSW} {X : XC} {E : DEnds} {ρ : DEnv} (ρ' : DEnv) (e : ρ = ρ') (h : whileC c tb X E ρ') : whileC c tb X E ρ := e ▸ h
theorem frS {w : DSW} {X : XC} {E : DEnds} {ρ : DEnv} (ρ' : DEnv) (e : ρ = ρ') (h : w X E ρ') : w X E ρ := e ▸ h
/-! ### enumerate -/
theorem enumD_map {α : Type} (r : Bool) (e : α → D) (xs : List α) : enumD r (xs.map e) = xs.zipIdx.map fun p => (r, D.tup [.int (p.2 : Nat), e p.1]) := by
  unfold enumD
  refine List.ext_getElem? fun i => ?_
  rw [List.getElem?_zipWith, List.getElem?_map, List.getElem?_map, List.getElem?_zipIdx, List.length_map]
  cases h : xs[i]? with
  | none =>
    have hl := List.getElem?_eq_none_iff.mp h
    rw [List.getElem?_eq_none (by rw [List.length_range]; exact hl)]
    rfl
  | some x =>
    have hl := (List.getElem?_eq_some_iff.mp h).1
    rw [List.getElem?_range hl]
    show some _ = some _
    congr 2
    simp
theorem zipIdx_at {α : Type} {xs : List α} {i : Nat} {p : α × Nat} (h : xs.zipIdx[i]? = some p) : xs[i]? = some p.1 ∧ p.2 = i := by
  rw [List.getElem?_zipIdx] at h
  cases e : xs[i]? with
  | none =>
    rw [e] at h
    cases h
  | some x =>
    rw [e] at h
    cases h
    exact ⟨rfl, by simp⟩
theorem loopE {α : Type} {g : DGW} {tb : DSW} {X : XC} {E : DEnds} {r : Bool} (e : α → D) (xs : List α) (Pv : DEnv → Nat → DEnv → Prop) {ρ : DEnv} (h0 : Pv ρ 0 ρ)
    (hs : ∀ (i : Nat) (x : α) (ρ' : DEnv) (k : DEnv → Prop), xs[i]? = some x → Pv ρ i ρ' → (∀ ρ2, Pv ρ (i + 1) ρ2 → k ρ2) → g (r, .tup [.int (i : Nat), e x]) ρ' fun ρ1 => tb X { E with nx := k, ct := k, bk := E.nx } ρ1)
    (hd : ∀ ρ', Pv ρ xs.length ρ' → E.nx ρ') : loopC g tb X E (enumD r (xs.map e)) ρ := by
  rw [enumD_map]
  refine loopU (fun p : α × Nat => (r, D.tup [.int (p.2 : Nat), e p.1])) xs.zipIdx Pv h0 (fun i p ρ' k hp h hk => ?_) fun ρ' h => hd ρ' (by rw [List.length_zipIdx] at h; exact h)
  obtain ⟨h1, h2⟩ := zipIdx_at hp
  have := hs i p.1 ρ' k h1 h hk
  rw [h2]
  exact this
/-- the places at which p holds, rising -/
def idxs {α : Type} (p : Nat → α → Bool) (xs : List α) : List Nat := (xs.zipIdx.filter fun q => p q.2 q.1).map (·.2)
theorem mem_idxs {α : Type} {p : Nat → α → Bool} {xs : List α} {i : Nat} : i ∈ idxs p xs ↔ ∃ x, xs[i]? = some x ∧ p i x = true := by
  unfold idxs
  rw [List.mem_map]
  constructor
  · rintro ⟨q, hq, rfl⟩
    rw [List.mem_filter] at hq
    obtain ⟨j, hj⟩ := List.getElem?_of_mem hq.1
    obtain ⟨h1, h2⟩ := zipIdx_at hj
    exact ⟨q.1, by rw [h2]; exact h1, hq.2⟩
  · rintro ⟨x, hx, hp⟩
    refine ⟨(x, i), List.mem_filter.mpr ⟨List.mem_of_getElem? (i := i) ?_, hp⟩, rfl⟩
    rw [List.getElem?_zipIdx, hx]
    simp
theorem idxs_len {α : Type} (p : Nat → α → Bool) (xs : List α) : (idxs p xs).length ≤ xs.length := by
  unfold idxs
  rw [List.length_map]
  exact Nat.le_trans (List.length_filter_le ..) (by rw [List.length_zipIdx]; exact Nat.le_refl _)
theorem lcE {α : Type} {g : DGW} {tt : DTW} {te : DW} {vs : List Nat} {kk : Bool → List D → DEnv → Prop} {r : Bool} (e : α → D) (xs : List α) (p : Nat → α → Bool) (h : Nat → α → D) {ρ : DEnv}
    (hs : ∀ i x, xs[i]? = some x → ∀ (k1 : Bool → D → DEnv → Prop) (k2 : DEnv → Prop), (p i x = true → k1 true (h i x) ρ) → (p i x = false → k2 ρ) → lcTurn g tt te vs (r, .tup [.int (i : Nat), e x]) ρ k1 k2)
    (hd : kk true ((xs.zipIdx.filter fun q => p q.2 q.1).map fun q => h q.2 q.1) ρ) : lcC g tt te vs kk (enumD r (xs.map e)) ρ := by
  rw [enumD_map]
  refine lc_pure (fun q : α × Nat => (r, D.tup [.int (q.2 : Nat), e q.1])) xs.zipIdx (fun q => p q.2 q.1) (fun q => h q.2 q.1) (fun q hq k1 k2 h1 h2 => ?_) hd
  obtain ⟨i, hi⟩ := List.getElem?_of_mem hq
  obtain ⟨e1, e2⟩ := zipIdx_at hi
  have := hs i q.1 e1 k1 k2
  rw [← e2] at this
  exact this h1 h2
/-- [i for i, x in enumerate(xs) if p] -/
theorem lcEi {α : Type} {g : DGW} {tt : DTW} {te : DW} {vs : List Nat} {kk : Bool → List D → DEnv → Prop} {r : Bool} (e : α → D) (xs : List α) (p : Nat → α → Bool) {ρ : DEnv}
    (hs : ∀ i x, xs[i]? = some x → ∀ (k1 : Bool → D → DEnv → Prop) (k2 : DEnv → Prop), (p i x = true → k1 true (.int (i : Nat)) ρ) → (p i x = false → k2 ρ) → lcTurn g tt te vs (r, .tup [.int (i : Nat), e x]) ρ k1 k2)
    (hd : kk true ((idxs p xs).map fun i : Nat => D.int i) ρ) : lcC g tt te vs kk (enumD r (xs.map e)) ρ := by
  refine lcE e xs p (fun i _ => .int (i : Nat)) hs ?_
  unfold idxs at hd
  rw [List.map_map] at hd
  exact hd
/-- [h(i) for i in range(..) if p(i)] -/
theorem lc_pureR {g : DGW} {tt : DTW} {te : DW} {vs : List Nat} {kk : Bool → List D → DEnv → Prop} (lo : Int) (n : Nat) (p : Nat → Bool) (h : Nat → D) {ρ : DEnv}
    (hs : ∀ i, i < n → ∀ (k1 : Bool → D → DEnv → Prop) (k2 : DEnv → Prop), (p i = true → k1 true (h i) ρ) → (p i = false → k2 ρ) → lcTurn g tt te vs (true, .int (lo + (i : Nat))) ρ k1 k2)
    (hd : kk true (((List.range n).filter p).map h) ρ) : lcC g tt te vs kk (rangeD lo n) ρ := by
  unfold rangeD
  exact lc_pure (fun i : Nat => (true, D.int (lo + (i : Nat)))) (List.range n) p h (fun i hi k1 k2 h1 h2 => hs i (List.mem_range.mp hi) k1 k2 h1 h2) hd
/-! a comprehension's frame written out -/
theorem frC {g : DGW} {tt : DTW} {te : DW} {vs : List Nat} {kk : Bool → List D → DEnv → Prop} {its : Items} {ρ : DEnv} (ρ' : DEnv) (e : ρ = ρ') (h : lcC g tt te vs kk its ρ') : lcC g tt te vs kk its ρ := e ▸ h
theorem frG {g : DGW} {p : Bool × D} {ρ : DEnv} {R : DEnv → Prop} (ρ' : DEnv) (e : ρ = ρ') (h : g p ρ' R) : g p ρ R := e ▸ h
theorem frT {c : DTW} {X : XC} {ρ : DEnv} {R : Bool → DEnv → Prop} (ρ' : DEnv) (e : ρ = ρ') (h : c X ρ' R) : c X ρ R := e ▸ h
end PW

namespace PW
open PySem PySem.Spec PyProof.Rows L2
/-! ### == of plain data is = -/
inductive PlD : Nat → D → Prop
  | str {n : Nat} {x : Str} : PyData.strOk x = true → PlD n (.str x)
  | int {n : Nat} (i : Int) : PlD n (.int i)
  | non {n : Nat} : PlD n .non
  | lst {n : Nat} {ds : List D} : (∀ d, d ∈ ds → PlD n d) → PlD (n + 1) (.lst ds)
  | tup {n : Nat} {ds : List D} : (∀ d, d ∈ ds → PlD n d) → PlD (n + 1) (.tup ds)
theorem plL_all {ds : List D} (h : ∀ d, d ∈ ds → d.pl = true) : D.plL ds = true := by
  induction ds with
  | nil => rw [D.plL]
  | cons x r ih => rw [D.plL, h x List.mem_cons_self, ih fun d hd => h d (List.mem_cons_of_mem _ hd)]; rfl
theorem PlD.ok {n : Nat} {d : D} (h : PlD n d) : d.pl = true ∧ Plain n d.py := by
  induction h with
  | str e => exact ⟨by rw [D.pl], by rw [D.py]; exact .str e⟩
  | int i => exact ⟨by rw [D.pl], by rw [D.py]; exact .int i⟩
  | non => exact ⟨by rw [D.pl], by rw [D.py]; exact .non⟩
  | lst h ih =>
    refine ⟨by rw [D.pl]; exact plL_all fun d hd => (ih d hd).1, ?_⟩
    rw [D.py, pyL_eq]
    exact .list fun p hp => by
      obtain ⟨d, hd, rfl⟩ := List.mem_map.mp hp
      exact (ih d hd).2
  | tup h ih =>
    refine ⟨by rw [D.pl]; exact plL_all fun d hd => (ih d hd).1, ?_⟩
    rw [D.py, pyL_eq]
    exact .tuple fun p hp => by
      obtain ⟨d, hd, rfl⟩ := List.mem_map.mp hp
      exact (ih d hd).2
theorem py_lists {ds es : List D} (h : ∀ d, d ∈ ds → ∀ e, e ∈ es → d.py = e.py → d = e) (q : ds.map D.py = es.map D.py) : ds = es := by
  induction ds generalizing es with
  | nil =>
    cases es with
    | nil => rfl
    | cons e es => cases q
  | cons d ds ih =>
    cases es with
    | nil => cases q
    | cons e es =>
      rw [List.map_cons, List.map_cons] at q
      injection q with q1 q2
      rw [h d List.mem_cons_self e List.mem_cons_self q1, ih (fun x hx y hy => h x (List.mem_cons_of_mem _ hx) y (List.mem_cons_of_mem _ hy)) q2]
theorem PlD.inj {n : Nat} {d : D} (h : PlD n d) : ∀ {m : Nat} {e : D}, PlD m e → d.py = e.py → d = e := by
  induction h with
  | str x => intro m e g q; cases g <;> simp [D.py] at q ⊢ <;> exact q
  | int i => intro m e g q; cases g <;> simp [D.py] at q ⊢ <;> exact q
  | non => intro m e g q; cases g <;> simp [D.py] at q ⊢
  | lst h ih =>
    intro m e g q
    cases g with
    | lst g =>
      rw [D.py, D.py, pyL_eq, pyL_eq] at q
      rw [py_lists (fun d hd e he z => ih d hd (g e he) z) (PyData.list.inj q)]
    | _ => simp [D.py] at q
  | tup h ih =>
    intro m e g q
    cases g with
    | tup g =>
      rw [D.py, D.py, pyL_eq, pyL_eq] at q
      rw [py_lists (fun d hd e he z => ih d hd (g e he) z) (PyData.tuple.inj q)]
    | _ => simp [D.py] at q
theorem eqC_pl {d e : D} {n m : Nat} {k : Bool → Prop} (h1 : PlD n d) (h2 : PlD m e) (hn : n ≤ 64) (hm : m ≤ 64) (h : ∀ b : Bool, (b = true ↔ d = e) → k b) : eqC d e k :=
  eqC_plain h1.ok.1 h2.ok.1 h1.ok.2 h2.ok.2 hn hm fun b hb => h b ⟨fun z => h1.inj h2 (hb.mp z), fun z => hb.mpr (by rw [z])⟩
theorem eqC_t {d : D} {n : Nat} {k : Bool → Prop} (h1 : PlD n d) (hn : n ≤ 64) (h : k true) : eqC d d k := eqC_pl h1 h1 hn hn fun b hb => by
  rw [hb.mpr rfl]
  exact h
theorem eqC_f {d e : D} {n m : Nat} {k : Bool → Prop} (h1 : PlD n d) (h2 : PlD m e) (hn : n ≤ 64) (hm : m ≤ 64) (ne : d ≠ e) (h : k false) : eqC d e k := eqC_pl h1 h2 hn hm fun b hb => by
  cases b with
  | true => exact absurd (hb.mp rfl) ne
  | false => exact h
theorem name_strOk {x : Str} (h : IsName x) : PyData.strOk x = true := by
  have := plain_dS (xs := [x]) fun y hy => by rw [List.mem_singleton.mp hy]; exact h
  cases this with
  | list g =>
    cases g _ (List.mem_cons_self) with
    | str e => exact e
theorem PlD.nms {ns : List Str} (h : ∀ x ∈ ns, IsName x) {n : Nat} : PlD (n + 1) (nmsD ns) := .lst fun d hd => by
  obtain ⟨x, hx, rfl⟩ := List.mem_map.mp hd
  exact .str (name_strOk (h x hx))
theorem PlD.tie {t : Str × Str} (h : IsName t.1 ∧ IsName t.2) {n : Nat} : PlD (n + 1) (tieD t) := .tup fun d hd => by
  rcases List.mem_cons.mp hd with rfl | hd
  · exact .str (name_strOk h.1)
  · rw [List.mem_singleton.mp hd]
    exact .str (name_strOk h.2)
theorem PlD.ties {ts : List (Str × Str)} (h : ∀ t ∈ ts, IsName t.1 ∧ IsName t.2) {n : Nat} : PlD (n + 2) (tiesD ts) := .lst fun d hd => by
  obtain ⟨t, ht, rfl⟩ := List.mem_map.mp hd
  exact .tie (h t ht)
theorem PlD.nil {n : Nat} : PlD (n + 1) (.lst []) := .lst fun d hd => by cases hd
theorem PlD.ints {ns : List Int} {n : Nat} : PlD (n + 1) (intsL ns) := .lst fun d hd => by
  obtain ⟨x, hx, rfl⟩ := List.mem_map.mp hd
  exact .int x
theorem nmsD_inj {ns ms : List Str} (h : nmsD ns = nmsD ms) : ns = ms := by
  unfold nmsD at h
  exact map_inj (fun a b z => by cases z; rfl) (D.lst.inj h)
theorem tieD_inj {t u : Str × Str} (h : tieD t = tieD u) : t = u := by
  unfold tieD at h
  simp only [D.tup.injEq, List.cons.injEq, D.str.injEq, and_true] at h
  exact Prod.ext h.1 h.2
theorem tiesD_inj {ts us : List (Str × Str)} (h : tiesD ts = tiesD us) : ts = us := by
  unfold tiesD at h
  exact map_inj (fun a b z => tieD_inj z) (D.lst.inj h)
theorem eqC_bls {bs cs : List Bool} {k : Bool → Prop} (h : k (decide (bs = cs))) : eqC (.lst (bs.map D.bl)) (.lst (cs.map D.bl)) k := by
  have okb : ∀ xs : List Bool, (D.lst (xs.map D.bl)).okD := fun xs => by
    have hpl : D.plL (xs.map D.bl) = true := plL_all fun d hd => by
      obtain ⟨b, _, rfl⟩ := List.mem_map.mp hd
      rw [D.pl]
    refine ⟨by rw [D.pl]; exact hpl, ?_⟩
    unfold SeqAt.shaped
    have e : (D.lst (xs.map D.bl)).py = .list (xs.map PyData.bool) := by
      rw [D.py, pyL_eq, List.map_map]
      refine congrArg PyData.list (List.map_congr_left fun b _ => ?_)
      show (D.bl b).py = _
      rw [D.py]
    have e1 : (PyData.list (xs.map PyData.bool)).canLay0 = true := lay_all fun d hd => by
      obtain ⟨b, _, rfl⟩ := List.mem_map.mp hd
      rfl
    have e2 : (PyData.list (xs.map PyData.bool)).depth ≤ 64 := by
      show PyData.depthAll _ + 1 ≤ 64
      have := depth_all (n := 0) (ds := xs.map PyData.bool) fun d hd => by
        obtain ⟨b, _, rfl⟩ := List.mem_map.mp hd
        exact Nat.le_refl _
      omega
    rw [e, e1, decide_eq_true e2]
    rfl
  unfold eqC
  refine .inr ⟨okb bs, okb cs, ?_⟩
  have e : PyData.eqv (D.lst (bs.map D.bl)).py (D.lst (cs.map D.bl)).py = decide (bs = cs) := by
    have e0 : ∀ xs : List Bool, (D.lst (xs.map D.bl)).py = .list (xs.map PyData.bool) := fun xs => by
      rw [D.py, pyL_eq, List.map_map]
      refine congrArg PyData.list (List.map_congr_left fun b _ => ?_)
      show (D.bl b).py = _
      rw [D.py]
    rw [e0, e0, PyData.eqv, Bool.eq_iff_iff, eqvAll_iff, decide_eq_true_iff]
    · exact ⟨fun z => map_inj (fun a b q => PyData.bool.inj q) z, fun z => by rw [z]⟩
    · intro d hd e he
      obtain ⟨b, _, rfl⟩ := List.mem_map.mp hd
      obtain ⟨c, _, rfl⟩ := List.mem_map.mp he
      rw [PyData.eqv, beq_iff_eq]
      exact ⟨fun z => by rw [z], fun z => PyData.bool.inj z⟩
  rw [e]
  exact h
theorem eqC_blsF {α β : Type} {f : α → Bool} {g : β → Bool} {xs : List α} {ys : List β} {k : Bool → Prop} (h : k (decide (xs.map f = ys.map g))) : eqC (.lst (xs.map fun x => D.bl (f x))) (.lst (ys.map fun x => D.bl (g x))) k := by
  have := eqC_bls h
  rw [List.map_map, List.map_map] at this
  exact this
/-- names of one letter -/
theorem name1 {c : Nat} (h : Code c) : IsName (SX.S [c]) := ⟨[c], rfl, Nat.le_refl 1, Nat.le_add_left 1 3, fun x hx => by rw [List.mem_singleton.mp hx]; exact h⟩
theorem PlD.strs {xs : List Str} (h : ∀ x ∈ xs, PyData.strOk x = true) {n : Nat} : PlD (n + 1) (.lst (xs.map D.str)) := .lst fun d hd => by
  obtain ⟨x, hx, rfl⟩ := List.mem_map.mp hd
  exact .str (h x hx)
theorem perm_unmap {α : Type} {f : α → D} {zs ys : List D} (h : zs.Perm ys) : ∀ xs : List α, zs = xs.map f → ∃ us : List α, us.Perm xs ∧ ys = us.map f := by
  induction h with
  | nil =>
    intro xs e
    have : xs = [] := List.map_eq_nil_iff.mp e.symm
    subst this
    exact ⟨[], .nil, rfl⟩
  | cons d _ ih =>
    intro xs e
    cases xs with
    | nil => cases e
    | cons x xs =>
      rw [List.map_cons] at e
      injection e with e1 e2
      obtain ⟨us, h1, h2⟩ := ih xs e2
      exact ⟨x :: us, .cons x h1, by rw [List.map_cons, ← e1, h2]⟩
  | swap a b l =>
    intro xs e
    match xs, e with
    | x :: y :: xs, e =>
      rw [List.map_cons, List.map_cons] at e
      injection e with e1 e2
      injection e2 with e2 e3
      exact ⟨y :: x :: xs, .swap .., by rw [List.map_cons, List.map_cons, ← e1, ← e2, ← e3]⟩
    | [_], e => simp at e
    | [], e => cases e
  | trans _ _ ih1 ih2 =>
    intro xs e
    obtain ⟨us, h1, h2⟩ := ih1 xs e
    obtain ⟨vs, h3, h4⟩ := ih2 us h2
    exact ⟨vs, h3.trans h1, h4⟩
end PW

namespace PW
open PySem PySem.Spec PyProof.Rows L2
/-! ### the law itself: its slot holds the script -/
def spLaw (K : PySem.W.Frag) : Sp := fun vs H Q _ => ∃ (a : Addr) (ns : List Int), vs = [.ref a] ∧ SqL K H a (ns.map V.int) ∧ ns.length ≤ 63 ∧ ∀ H', Q (.bl true) H'
def slotsS (ns : List Int) (n : Nat) : DEnv := some (Sl.scr ns) :: List.replicate (n - 1) none
theorem sS_at {ns : List Int} {n i : Nat} {s : Sl} (h : (slotsS ns n)[i]? = some (some s)) : i = 0 ∧ s = .scr ns := by
  cases i with
  | zero =>
    cases h
    exact ⟨rfl, rfl⟩
  | succ i =>
    have h : (List.replicate (n - 1) (none : Option Sl))[i]? = some (some s) := h
    have := List.mem_of_getElem? h
    rw [List.mem_replicate] at this
    cases this.2
/-- the frame of a law: its script -/
def frameS (K : PySem.W.Frag) (H : Hp) (a : Addr) (ns : List Int) : Fr := { frame K H none with sc := fun b ms => b = a ∧ ms = ns }
theorem envS {K : PySem.W.Frag} {H : Hp} {N : List Str} {a : Addr} {ns : List Int} (h : SqL K H a (ns.map V.int)) (hN : 1 ≤ N.length) : Env (frameS K H a ns) (start N [.ref a]) (slotsS ns N.length) H := by
  have noo : ∀ {i : Nat} {r : Bool} {d : D}, (slotsS ns N.length)[i]? ≠ some (some (.ow r d)) := fun {i r d} z => by
    obtain ⟨_, z⟩ := sS_at z
    cases z
  refine ⟨?_, fun a o z _ _ => .inl z, fun i r d z => ?_, fun i r d z => absurd z noo, fun i j a ⟨r, d, z, _⟩ => absurd z noo, fun a z => (by cases z), fun a z => z.elim, fun i r d z => absurd z noo, fun i r d b z => absurd z noo, fun a z => z.elim, fun a xs z => z, fun a o z _ => z, fun a xs z => z, fun b ms z => ?_, fun i v z => ?_⟩
  · unfold L2.start slotsS
    simp only [List.length_cons, List.length_append, List.length_map, List.length_replicate, List.length_nil]
    omega
  · obtain ⟨_, z⟩ := sS_at z
    cases z
  · obtain ⟨rfl, rfl⟩ := z
    rcases h with h | h
    · exact .inl ⟨h, (fun y => by cases y), (fun y => y), fun y => y⟩
    · exact .inr (.inr h)
  · obtain ⟨rfl, z⟩ := sS_at z
    cases z
    exact ⟨a, st_at rfl, rfl, rfl⟩
theorem runS {K : PySem.W.Frag} {t : TS} {w : DSW} {N : List Str} {vs : List V} {H : Hp} {Q : VK} {E : XK} (A : DS K (fun _ _ _ _ => False) t w) (hN : 1 ≤ N.length) (h : spLaw K vs H Q E)
    (k : ∀ ns : List Int, ns.length ≤ 63 → w noX ⟨fun _ => False, fun d _ => d = .bl true, fun _ => False, fun _ => False⟩ (slotsS ns N.length)) : t { nx := fun _ H' => Q .non H', rt := Q } (start N vs) H := by
  obtain ⟨a, ns, rfl, h1, h2, h3⟩ := h
  refine A.ok (F := frameS K H a ns) rfl (envS h1 hN) XLink.no (k ns h2) (fun ρ' σ' H' z E' _ => z.elim) (fun _ _ _ z => z.elim) (fun _ _ _ z => z.elim) fun d ρ' σ' v H' z E' _ r' => ?_
  subst z
  cases r'
  exact h3 H'
/-! ### dict(pairs) -/
def pairOf : D → Option (Key × D)
  | .tup [k, v] => match keyOf k with
    | some q => some (q, v)
    | none => none
  | _ => none
def pairsOf : List D → Option (List (Key × D))
  | [] => some []
  | d :: ds => match pairOf d, pairsOf ds with
    | some p, some ps => some (p :: ps)
    | _, _ => none
theorem pair_rep {K : PySem.W.Frag} {H : Hp} {v : V} {d : D} {e : Key × D} (h : Rep K H v d) (q : pairOf d = some e) : ∃ p u, v = .ref p ∧ H p = some (.tup [kV e.1, u]) ∧ Rep K H u e.2 := by
  unfold pairOf at q
  split at q
  · rename_i k x
    split at q
    · rename_i y hy
      cases q
      cases h with
      | tup h1 h2 =>
        cases h2 with
        | cons g1 g2 =>
          cases g2 with
          | cons g2 g3 =>
            cases g3
            have := keyOf_v (g1.top fun _ _ z => z) hy
            subst this
            exact ⟨_, _, rfl, h1, g2⟩
    · cases q
  · cases q
theorem pairs_rep {K : PySem.W.Frag} {H : Hp} : ∀ {vs : List V} {ds : List D} {es : List (Key × D)}, RepL K H vs ds → pairsOf ds = some es → ∃ (ps : List Addr) (kvs : List (Key × V)), vs = ps.map V.ref ∧ Paired (fun p kv => H p = some (.tup [kV kv.1, kv.2])) ps kvs ∧ KRep K H kvs es
  | _, _, _, .nil, e => by
    cases e
    exact ⟨[], [], rfl, .nil, .nil⟩
  | _, _, _, .cons h g, e => by
    unfold pairsOf at e
    split at e
    · rename_i p ps hp hps
      cases e
      obtain ⟨a, u, rfl, h1, h2⟩ := pair_rep h hp
      obtain ⟨as, kvs, rfl, g1, g2⟩ := pairs_rep g hps
      exact ⟨a :: as, (p.1, u) :: kvs, rfl, .cons h1 g1, .cons h2 g2⟩
    · cases e
def dDictP : DR1W := fun ps R => match ps with
  | [(r, .lst xs)] => ∃ es, pairsOf xs = some es ∧ R (.fr (reg (r, .lst xs)) (.dK (mergeC es)))
  | _ => False
instance {K : PySem.W.Frag} : DR1 K (rDictK K) dDictP where
  ok := fun {F σ H ρ ps xs R Q} hK E ht h k => by
    subst hK
    unfold dDictP at h
    split at h
    · obtain ⟨es, he, h⟩ := h
      obtain ⟨v, rfl, h0⟩ := tops1 ht
      obtain ⟨a, vs, rfl, h1, h2⟩ := h0.lst rfl
      obtain ⟨as, kvs, rfl, g1, g2⟩ := pairs_rep h2 he
      refine ⟨a, as, kvs, rfl, SqL.of h1, paired_imp (fun p kv z => SqT.of (cut_le _ _ z)) g1, fun c hc => ?_⟩
      rw [mergeC_eq] at h
      have m := merge_rep g2 (kvs := []) (es := []) .nil
      exact k _ _ _ h (same_new hc) (fresh_of E hc rfl ⟨_, rfl, m.1, m.2⟩)
    · exact h.elim
theorem pairsOf_strs {α : Type} (g : α → D) (l : List (Str × α)) : pairsOf (l.map fun e => .tup [.str e.1, g e.2]) = some (strE g l) := by
  induction l with
  | nil => rfl
  | cons e l ih =>
    rw [List.map_cons, pairsOf, ih]
    rfl
theorem putD_new {es : List (Key × D)} {k : Key} {d : D} (h : k ∉ es.map (·.1)) : putD es k d = es ++ [(k, d)] := by
  unfold putD
  rw [if_neg]
  intro z
  obtain ⟨e, he, z⟩ := List.any_eq_true.mp z
  exact h (by rw [← of_decide_eq_true z]; exact List.mem_map_of_mem he)
theorem mergeD_new : ∀ (more es : List (Key × D)), ((es ++ more).map (·.1)).Nodup → mergeD es more = es ++ more
  | [], es, _ => by rw [List.append_nil]; rfl
  | e :: more, es, h => by
    have h' : ((es ++ [e] ++ more).map (·.1)).Nodup := by
      rw [List.append_assoc]
      exact h
    have hk : e.1 ∉ es.map (·.1) := fun z => by
      rw [List.map_append, List.nodup_append] at h
      exact h.2.2 _ z _ (by rw [List.map_cons]; exact List.mem_cons_self) rfl
    have := mergeD_new more (es ++ [e]) h'
    unfold mergeD at this ⊢
    rw [List.foldl_cons, putD_new hk, this, List.append_assoc]
    rfl
theorem nodup_map {α β : Type} {f : α → β} (hf : ∀ a b, f a = f b → a = b) : ∀ {xs : List α}, xs.Nodup → (xs.map f).Nodup
  | [], _ => List.nodup_nil
  | x :: xs, h => by
    rw [List.nodup_cons] at h
    rw [List.map_cons, List.nodup_cons]
    refine ⟨fun z => ?_, nodup_map hf h.2⟩
    obtain ⟨y, hy, e⟩ := List.mem_map.mp z
    exact h.1 (hf _ _ e ▸ hy)
theorem merge_strs {α : Type} {g : α → D} {l : List (Str × α)} (h : (l.map Prod.fst).Nodup) : mergeC (strE g l) = strE g l := by
  rw [mergeC_eq, mergeD_new _ [] ?_]
  · rfl
  · rw [List.nil_append]
    unfold strE
    rw [List.map_map]
    have : (fun x : Key × D => x.1) ∘ (fun e : Str × α => ((Sum.inr e.1 : Key), g e.2)) = fun e => Sum.inr e.1 := rfl
    rw [this]
    have e : (l.map fun e => (Sum.inr e.1 : Key)) = (l.map Prod.fst).map Sum.inr := by
      rw [List.map_map]
      rfl
    rw [e]
    exact nodup_map (fun a b z => Sum.inr.inj z) h
/-! ### d[k] += n, -= n -/
instance {K : PySem.W.Frag} {W : WXT} {td ty tv : TE} {wd wy wv : DW} [A : DE K W td wd] [B : DE K W ty wy] [C : DE K W tv wv] : DS K W (sDAug td ty tv rAdd) (dDAug (fun i j => i + j) wd wy wv) :=
  inferInstanceAs (DS K W (sDAug td ty tv (fun x y H Q => ∃ i j, x = .int i ∧ y = .int j ∧ Q (.int ((fun i j : Int => i + j) i j)) H)) (dDAug (fun i j => i + j) wd wy wv))
instance {K : PySem.W.Frag} {W : WXT} {td ty tv : TE} {wd wy wv : DW} [A : DE K W td wd] [B : DE K W ty wy] [C : DE K W tv wv] : DS K W (sDAug td ty tv rSub) (dDAug (fun i j => i - j) wd wy wv) :=
  inferInstanceAs (DS K W (sDAug td ty tv (fun x y H Q => ∃ i j, x = .int i ∧ y = .int j ∧ Q (.int ((fun i j : Int => i - j) i j)) H)) (dDAug (fun i j => i - j) wd wy wv))
end PW

namespace PW
open PySem PySem.Spec PyProof.Rows L2
/-! ## defs that may raise -/
section
variable {P : Program} {w : World} {K : PySem.W.Frag} {mg : Str → Option Value} {base : Heap}
abbrev BodyX (P : Program) (w : World) (K : PySem.W.Frag) (mg : Str → Option Value) (base : Heap) (N : List Str) (qual : Str) (sc : Scope) (bd : List Stmt) (f : Addr) (k : Nat) (sp : Sp) : Prop :=
  ∀ (cdv : Value) (A : Around) (outer : List PySem.Env) (s : Shared) (H : Hp) (vs : List V) (Q : VK) (E : XK), Room k (A.deeper (envOfC qual sc s.heap.objs.size f cdv)) → sp vs H Q E →
      ∃ t, PSs (cxOf (L2N.CX P w) P w K mg base N qual sc f cdv A outer s H E) bd t ∧ t { nx := fun _ H' => Q .non H', rt := Q } (start N vs) H
theorem fnX_of {x qual : Str} {pa : Arguments} {bd : List Stmt} {sc : Scope} {f : Addr} {fd : FuncData} {N ps : List Str} {k : Nat} {sp : Sp} (F : FunD K x qual pa bd sc [] [] f fd) (S : FnScope N ps sc)
    (len : ∀ vs H Q E, sp vs H Q E → vs.length = ps.length) (hbody : BodyX P w K mg base N qual sc bd f k sp) : FnOk P w K mg base (L2N.CX P w) (k + 1) f fd ps sp :=
  F.ok S len fun cdv A outer s H vs Q E hr h => hbody cdv A outer s H vs Q E hr h
/-- a def under its name -/
structure CalX (P : Program) (w : World) (K : PySem.W.Frag) (mg : Str → Option Value) (base : Heap) (k : Nat) (x : Str) (sp : Sp) : Prop where
  ex : ∃ (f : Addr) (fd : FuncData) (ps : List Str), FnOk P w K mg base (L2N.CX P w) k f fd ps sp ∧ mg x = some (.ref f) ∧ PySem.W.keepIn K (.ref f) = true ∧ Binds K fd ps []
theorem calX_of {x : Str} {pa : Arguments} {bd : List Stmt} {sc : Scope} {f : Addr} {N ps : List Str} {k : Nat} {sp : Sp} (F : ∃ fd, FunD K x x pa bd sc [] [] f fd) (hm : mg x = some (.ref f)) (S : FnScope N ps sc)
    (hb : BindOf x x pa bd sc ps) (len : ∀ vs H Q E, sp vs H Q E → vs.length = ps.length) (hbody : BodyX P w K mg base N x sc bd f k sp) : CalX P w K mg base (k + 1) x sp := by
  obtain ⟨fd, F⟩ := F
  exact ⟨f, fd, ps, fnX_of F S len hbody, hm, F.kp, F.bindsN hb⟩
structure MakX (P : Program) (w : World) (K : PySem.W.Frag) (mg : Str → Option Value) (base : Heap) (k : Nat) (x : Str) (C : Addr) (sp : Sp) : Prop where
  ex : ∃ (f : Addr) (fd : FuncData) (ps : List Str), Mk K C f ∧ FnOk P w K mg base (L2N.CX P w) k f fd ps sp ∧ mg x = some (.ref C) ∧ Binds K fd ps []
theorem makX_of {x qual : Str} {C : Addr} {pa : Arguments} {bd : List Stmt} {sc : Scope} {f : Addr} {N ps : List Str} {k : Nat} {sp : Sp} (M : Mk K C f) (hm : mg x = some (.ref C)) (F : ∃ fd, FunD K "__init__" qual pa bd sc [] [] f fd) (S : FnScope N ps sc)
    (hb : BindOf "__init__" qual pa bd sc ps) (len : ∀ vs H Q E, sp vs H Q E → vs.length = ps.length) (hbody : BodyX P w K mg base N qual sc bd f k sp) : MakX P w K mg base (k + 1) x C sp := by
  obtain ⟨fd, F⟩ := F
  exact ⟨f, fd, ps, M, fnX_of F S len hbody, hm, F.bindsN hb⟩
end
section
variable {X : Cx} {W : WX} {j k : Nat} {x : Str} {C : Addr} {sp : Sp} {p pos : Pos} {e : Expr} {es : List Expr} {t : TA}
theorem pe_cX (c : CalX X.prog X.w X.K X.mg X.base k x sp) (tk : L2N.Takes X W) (hr : Room j X.A) (hk : k ≤ j) (hg : Gl X x) (ha : PA X (e :: es) t)
    (h1 : (x == ("__debug__" : Str)) = false := by decide) (h2 : starEach (e :: es) X.env = (false, eval e X.env) :: starEach es X.env := by rfl) (h3 : (backTo pos (starEach es X.env)).any (·.1) = false := by rfl) :
    PE X (.Call (.Name x p) (e :: es) [] pos) (tCallS sp (WE W) t) := by
  obtain ⟨f, fd, ps, F, hm, kp, b⟩ := c.ex
  exact pe_callS F (hr.mono hk) hg hm kp b (fun σ => L2N.passAt tk σ) ha h1 h2 h3
/-- C(e, ..), C's __init__ may raise -/
def tMakeS (C : Addr) (sp : Sp) (E : L2.St → XK) (t : TA) : TE := fun σ H Q => t σ H fun vs H1 => ∀ y dy, H1 y = none → H1 dy = none → dy ≠ y →
  sp (.ref y :: vs) (upd (upd H1 dy (.own y)) y (.ins C dy [])) (fun v H2 => v = .non ∧ Q (.ref y) H2) (E σ)
theorem run_mkX {CX : CXT} {f : Addr} {fd : FuncData} {ps : List Str} {E : L2.St → XK} {pins : List (Addr × Obj)} {σ : L2.St} {H : Hp} {s : Shared} {Q : VK} {us : List Value} {vs : List V} (M : Mk X.K C f)
    (F : FnOk X.prog X.w X.K X.mg X.base CX k f fd ps sp) (room : Room (k + 1) X.A) (bi : Binds X.K fd ps []) (pas : PassesAt CX X σ (E σ)) (I : Inv X pins σ H s) (r : Vals vs us)
    (h : ∀ y dy, H y = none → H dy = none → dy ≠ y → sp (.ref y :: vs) (upd (upd H dy (.own y)) y (.ins C dy [])) (fun v H2 => v = .non ∧ Q (.ref y) H2) (E σ)) :
    wpAny (model X.prog X.w) X.A (call (.ref C) us) (EP X pins σ Q) X.xe s := by
  have g := h (s.heap.objs.size + 1) s.heap.objs.size (I.hok.fresh (Nat.le_succ _)) (I.hok.fresh (Nat.le_refl _)) (Nat.ne_of_lt (Nat.lt_succ_self _))
  have J := Inv.made (C := C) I
  have rs : Vals (V.ref (s.heap.objs.size + 1) :: vs) (Value.ref (s.heap.objs.size + 1) :: us) := .cons rfl r
  have ln : (Value.ref (s.heap.objs.size + 1) :: us ++ []).length = ps.length := by
    rw [List.append_nil, ← rs.length]
    exact F.len _ _ _ _ g
  have bb := bi _ (Value.ref (s.heap.objs.size + 1) :: us) J.kIn ln
  rw [List.append_nil] at bb
  refine wpAny_call (make_map (f := f) I.kIn M.makes M.init (beq_iff_eq.mp M.fn) (codeAny_mono (F.run _ X.stack _ _ ⟨Value.ref (s.heap.objs.size + 1) :: us, []⟩ (Value.ref (s.heap.objs.size + 1) :: us) _ _ (E σ) (room.make C us []) (J.env0.make C us []) bb rs g) fun r' s' out => ?_))
  cases r' with
  | error er => exact pas pins _ _ er s' J out
  | ok fl =>
    cases fl with
    | ret u =>
      obtain ⟨v, H', J', rv, ev, qq⟩ := J.after out
      subst ev
      exact ⟨rv, ⟨V.ref (s.heap.objs.size + 1), H', J', rfl, qq⟩⟩
    | next => exact out.elim
    | brk => exact out.elim
    | cont => exact out.elim
theorem pe_mkX (c : MakX X.prog X.w X.K X.mg X.base k x C sp) (tk : L2N.Takes X W) (hr : Room j X.A) (hk : k + 1 ≤ j) (hg : Gl X x) (ha : PA X (e :: es) t)
    (h1 : (x == ("__debug__" : Str)) = false := by decide) (h2 : starEach (e :: es) X.env = (false, eval e X.env) :: starEach es X.env := by rfl) (h3 : (backTo pos (starEach es X.env)).any (·.1) = false := by rfl) :
    PE X (.Call (.Name x p) (e :: es) [] pos) (tMakeS C sp (WE W) t) := by
  obtain ⟨f, fd, ps, M, F, hm, b⟩ := c.ex
  refine ⟨fun pins s σ H Q I h => wpAny_Call_Name_kw (ld_glob I hg hm ?_ h1)⟩
  refine PySem.W.callWith_K (h₀ := X.base) I.ok.mod.kin M.kp (thn (ha.run pos pins s σ H _ I h) fun us s1 ⟨vs, H1, I1, r, q⟩ => ⟨I1.kIn, ?_⟩) h2 h3
  exact run_mkX M F (hr.mono hk) b (L2N.passAt tk σ) I1 r q
end
/-! ### raise C('..') -/
def tRz (W : WX) (C : Addr) : TS := fun _ σ H => W (.ref C) none σ H
structure ExcOk (K : PySem.W.Frag) (C : Addr) : Prop where
  ex : PySem.W.excIn K C He.veBase "ValueError.__new__" = true
  kp : PySem.W.keepIn K (.ref C) = true
  sb : PySem.W.subIn K (.ref C) (.type "BaseException") = some true
  ty : PySem.W.typeIn K (.ref C) = some (.type "type")
theorem ps_rz {X : Cx} {W : WX} {x m : Str} {C : Addr} {j : Nat} {p p2 pos pos' : Pos} (hc : X.calm = true) (tk : L2N.Takes X W) (o : ExcOk X.K C) (g : X.mg x = some (.ref C)) (hg : Gl X x) (h1 : (x == ("__debug__" : Str)) = false := by decide) :
    PS X (.Raise (some (.Call (.Name x p) [.Constant (.str m) j p2] [] pos)) none pos') (tRz W C) :=
  L2N.ps_raise hc tk (L2N.pmk_own PySem.F.excBase_ValueError o.ex g o.kp (raises_own o.sb o.ty) hg h1)
def dRz (c : Str) : DSW := fun X _ ρ => X ⟨c, []⟩ ρ
section
variable {K : PySem.W.Frag} {W : WXT}
instance {c : Str} : DS K W (tRz W (He.ga K c)) (dRz c) where
  ok := fun {F σ H ρ X E Dn} hK En L h nx bk ct rt => by
    subst hK
    exact L ⟨c, []⟩ ρ σ none H h En (.refl _ _) rfl
/-! ### calls -/
instance {fs : FS} {t : TA} {u : DAW} [A : DA K W t u] : DE K W (tCallS (sp0 K fs) (WE W) t) (dCallX fs u) where
  ok := fun {F σ H ρ X R Q} hK E L h q => A.ok hK E L h fun xs ρ1 vs H1 h1 E1 s1 r1 => by
    subst hK
    split at h1
    · rename_i ps e
      rw [callC_eq] at h1
      refine ⟨ps.map (·.2), _, _, reps_of (tops_of E1 r1 e) h1.1, h1.2, fun d v H' hR sm hd => ?_, fun x dd H' hx sm hd => ?_⟩
      · exact q _ ρ1 v H' hR (E1.grow sm) (s1.trans (.same sm)) (RepV.early (fr_of E1 (fun a ha he => E1.hideNew ha sm he) hd) s1)
      · exact L x ρ1 σ dd H' hx (E1.grow sm) (s1.trans (.same sm)) (hd.newH E1)
    · exact h1.elim
def dMakeX (c : Str) (fs : FS) (u : DAW) : DW := fun X ρ R => u X ρ fun xs ρ1 => match rds ρ1 xs with
  | some ps => noPotL ps = true ∧ callC fs (ps.map (·.2)) (fun d => R (.v true d) ρ1) (fun x => X x ρ1)
  | none => False
instance {c : Str} {fs : FS} {t : TA} {u : DAW} [A : DA K W t u] : DE K W (tMakeS (He.ga K c) (spI K c fs) (WE W) t) (dMakeX c fs u) where
  ok := fun {F σ H ρ X R Q} hK E L h q => A.ok hK E L h fun xs ρ1 vs H1 h1 E1 s1 r1 => by
    subst hK
    split at h1
    · rename_i ps e
      rw [callC_eq] at h1
      intro x dx hx hdx ne
      have up : Same H1 (upd (upd H1 dx (.own x)) x (.ins (He.ga F.K c) dx [])) := (same_new hdx).next (by rw [upd_ne (Ne.symm ne)]; exact hx)
      have up2 : ∀ H', Same (newH (upd (upd H1 dx (.own x)) x (.ins (He.ga F.K c) dx [])) H') (F.RH (OwnA σ ρ1) H' true) := fun H' a o ha => by
        refine new_rh (H := H1) (H' := H') E1 a o ?_
        obtain ⟨k1, k2⟩ := cut_inv ha
        rcases k2 with k2 | ⟨xs, rfl⟩
        · exact cut_of k1 fun z => k2 fun y => z (up.free y)
        · exact cut_tup k1
      refine ⟨x, dx, vs, ps.map (·.2), _, _, rfl, upd_same, ?_, h1.2, fun es fvs dx' H' hR k hH kr => ⟨rfl, ?_⟩, fun ex dd H' hX k hd => ?_⟩
      · refine (reps_of (tops_of E1 r1 e) h1.1).mono fun a o ha => ?_
        exact cut_of (up _ _ ha) fun (z : a = x) => by
          rw [z, hx] at ha
          cases ha
      · have sm : Same H1 H' := fun a o ha => k a o (ne_of_none ha hx) (up _ _ ha)
        refine q _ ρ1 _ H' hR (E1.grow sm) (s1.trans (.same sm)) ?_
        have kr' := kr.mono (up2 H')
        obtain ⟨n1, n2, n3, _⟩ := E1.new hx
        refine .ins (cut_of hH fun z => ?_) kr'.1 kr'.2
        rcases z with z | z | ⟨_, z⟩
        · exact n2 z
        · exact n3 z
        · exact z n1
      · have sm : Same H1 H' := fun a o ha => k a o (ne_of_none ha hx) (up _ _ ha)
        exact L ex ρ1 σ dd H' hX (E1.grow sm) (s1.trans (.same sm)) (hd.mono (up2 H'))
    · exact h1.elim
end
/-- an __init__ that may raise, by data -/
theorem runIX {K : PySem.W.Frag} {c : Str} {fs : FS} {t : TS} {w : DSW} {N : List Str} {vs : List V} {H : Hp} {Q : VK} {E : XK} (A : DS K (fun c d _ H => E c d H) t w) (h : spI K c fs vs H Q E)
    (k : ∀ ds R Xd, fs ds R Xd → w (fun x _ => Xd x) ⟨fun ρ => madeB c ρ R, fun d ρ => False, fun _ => False, fun _ => False⟩ (slotsI c ds N.length)) : t { nx := fun _ H' => Q .non H', rt := Q } (L2.start N vs) H := by
  obtain ⟨p, dx, us, ds, R, Xd, rfl, h0, h1, h2, h3, h4⟩ := h
  have kp : ∀ {σ ρ} {H' : Hp}, Env (frame K H (some p)) σ ρ H' → Kp p H H' := fun {σ ρ H'} E' a o n z => by
    rcases E'.keep a o z (fun y => n (Option.some.inj y).symm) (fun y => y) with y | ⟨y, _⟩
    · exact y
    · exact y.elim
  refine A.ok (F := frame K H (some p)) rfl (envI h0 h1) (fun x ρ' σ' dd H' hx E' s' r' => h4 x dd H' hx (kp E') (r'.mono frame_new)) (k ds R Xd h2) (fun ρ' σ' H' z E' _ => ?_) (fun _ _ _ z => z.elim) (fun _ _ _ z => z.elim) fun d ρ' σ' v H' z E' _ r' => z.elim
  have z : madeB c ρ' R := z
  unfold madeB at z
  split at z
  · rename_i r c' es e
    obtain ⟨rfl, rfl, hR⟩ := z
    obtain ⟨r0, d0, e1, _, e3⟩ := E'.pt p rfl
    obtain ⟨a, g1, ⟨dx', fvs, g2, g3, g4⟩, _⟩ := E'.ow 0 _ _ e
    rw [e3] at g1
    cases g1
    exact h3 es fvs dx' H' hR (kp E') g2 ⟨g3, g4.mono frame_new⟩
  · exact z.elim
end PW

namespace PW
open PySem PySem.Spec PyProof.Rows L2
/-! ### try with any clauses, named or not -/
theorem takesN {X : Cx} : L2N.Takes X (fun _ _ _ _ => False) := fun _ _ x => by
  obtain ⟨_, _, _, _, _, _, _, _, _, _, _, _, _, _, _, _, z⟩ := x
  exact z.elim
/-- a clause: its class, the slot of its name, its suite -/
structure Cl where
  c : Value
  i : Option Nat
  ts : Addr → Value → Option Addr → TS
def endsAt (i : Nat) (D : Ends) : Ends := { nx := fun σ H => D.nx (σ.set i none) H, rt := D.rt, bk := fun σ H => D.bk (σ.set i none) H, ct := fun σ H => D.ct (σ.set i none) H }
def Cl.go (l : Cl) (a : Addr) (cls : Value) (d : Option Addr) (D : Ends) (σ : L2.St) (H : Hp) : Prop := match l.i with
  | none => l.ts a cls d D σ H
  | some i => l.ts a cls d (endsAt i D) (σ.set i (some (.ref a))) H
def wCls (K : PySem.W.Frag) (Wo : WX) (D : Ends) : List Cl → WX
  | [] => Wo
  | l :: ls => fun cls d σ H => ∃ b, PySem.W.exmOne K cls l.c = some b ∧ (b = true → ∀ a, H a = none → l.go a cls d D σ H) ∧ (b = false → wCls K Wo D ls cls d σ H)
abbrev SuiteOk (X : Cx) (bd : List Stmt) (ts : Addr → Value → Option Addr → TS) : Prop :=
  ∀ (a : Addr) (oe : Obj) (cls : Value) (d : Option Addr) (pn : List (Addr × Obj)), L2N.Zn cls d oe → (∃ fv, oe.data = .fields fv) → PSs (X.suite a ((a, oe) :: pn)) bd (ts a cls d)
inductive ClsOk' (X : Cx) : List ExceptHandler → List Cl → Prop
  | nil : ClsOk' X [] []
  | only {x : Str} {c : Value} {ts : Addr → Value → Option Addr → TS} {s0 : Stmt} {su : List Stmt} {p1 p2 : Pos} {hds : List ExceptHandler} {ls : List Cl} (nm : Names X x c) (so : SuiteOk X (s0 :: su) ts) (r : ClsOk' X hds ls) :
      ClsOk' X (.ExceptHandler (some (.Name x p1)) none (s0 :: su) p2 :: hds) (⟨c, none, ts⟩ :: ls)
  | as {x n : Str} {i : Nat} {c : Value} {ts : Addr → Value → Option Addr → TS} {s0 : Stmt} {su : List Stmt} {p1 p2 : Pos} {hds : List ExceptHandler} {ls : List Cl} (nd : X.N.Nodup) (hi : X.N[i]? = some n) (hl : X.env.kindOf n = some .local) (nm : Names X x c) (so : SuiteOk X (s0 :: su) ts) (r : ClsOk' X hds ls) :
      ClsOk' X (.ExceptHandler (some (.Name x p1)) (some n) (s0 :: su) p2 :: hds) (⟨c, some i, ts⟩ :: ls)
section
variable {X : Cx} {body : List Stmt} {hd0 : ExceptHandler} {hds : List ExceptHandler} {ls : List Cl} {pos : Pos} {tb : WX → TS} {Wo : WX}
def tTryG (K : PySem.W.Frag) (tb : WX → TS) (Wo : WX) (ls : List Cl) : TS := fun D σ H => tb (wCls K Wo D ls) D σ H
theorem ps_tryG (hst : X.stack = X.env :: X.outer) (hfm : X.env.frame = some X.env.locals) (out : L2N.Takes X Wo)
    (inner : ∀ (V : WX) (pn : List (Addr × Obj)) (xq : Value → Shared → Prop), L2N.Takes (X.tr pn xq) V → PassesOwn (model X.prog X.w) X.A X.env xq → PSs (X.tr pn xq) body (tb V))
    (cl : ClsOk' X (hd0 :: hds) ls) : PS X (.Try body (hd0 :: hds) [] [] pos) (tTryG X.K tb Wo ls) := by
  refine ⟨fun pins s σ H D I hh => ?_⟩
  have okX := I.ok
  have frm : X.A.frames = some (X.env :: X.outer) := okX.frames.trans (by rw [hst])
  refine wpAny_Try_except (wpAny_mono ((inner (wCls X.K Wo D ls) (X.pn ++ pins)
    (fun e t1 => wpAny (model X.prog X.w) X.A (noteFrame e X.env) (fun _ t2 => wpAny (model X.prog X.w) X.A (setFlight e none) (fun _ t3 => wpAny (model X.prog X.w) X.A (handleBy e X.env (hd0 :: hds)) (SP X pins D) X.xe t3) X.xe t2) X.xe t1)
    (fun u s' xx => ?_) PassesOwn.looking).run [] s σ H D (I.toTry _) hh) (fun fl t1 hsp => ?_) (fun _ _ he => he))
  · obtain ⟨a, B, sI, pins', σ', H', cls, d, rfl, J', nb, up, sky, na, os, ag, wish⟩ := xx
    have J : Inv X pins σ' H' sI := Inv.ofTry J' okX
    have sk : Sky B (X.env :: X.outer) a (L2N.Zn cls d) X.env.locals s'.heap := hst ▸ sky
    refine L2N.Sky.land L2N.Zn.steady frm hfm sk fun g3 f3 u3 => ?_
    have K3 : Inv X pins σ' H' { s' with heap := g3 } := J.landed nb f3.1 (up.trans u3) os ag
    obtain ⟨o3, w3, e3, z3, d3⟩ := f3.there
    have far : a ∉ frs (X.env :: X.outer) := fun hm => by
      obtain ⟨_, q, eq, nof⟩ := f3.2.2.1.mem hm
      rw [e3] at eq
      cases eq
      exact nof _ d3
    have nloc : a ≠ X.env.locals := fun z => far (List.mem_filterMap.mpr ⟨X.env, List.mem_cons_self, z ▸ hfm⟩)
    have nfs : a ∉ X.fs := fun hm => by
      obtain ⟨ev, hev, q⟩ := List.mem_filterMap.mp hm
      exact far (List.mem_filterMap.mpr ⟨ev, List.mem_cons_of_mem _ hev, q⟩)
    have su3 := K3.suite e3 d3 na nloc nfs
    -- the test of a clause
    have tst : ∀ {x : Str} {c : Value} {p1 : Pos} {b : Bool} {Q : Bool → Shared → Prop} {E : Value → Shared → Prop}, Names X x c → PySem.W.exmOne X.K cls c = some b → Q b { s' with heap := g3 } →
        wpAny (model X.prog X.w) (X.A.mark (some (.ref a))) (eval (.Name x p1) X.env) (fun v t => wpAny (model X.prog X.w) (X.A.mark (some (.ref a))) (excMatches (.ref a) v) Q E t) E { s' with heap := g3 } := fun {x c p1 b Q E} nm he q => by
      have lt : PySem.W.Looks (model X.prog X.w) g3 (typeOf (.ref a)) cls := fun A Q E t k q => wpAny_typeOf_ref (k _ _ e3) (by rw [z3.1]; exact q)
      have lm := PySem.W.exm_one (M := model X.prog X.w) K3.kIn lt he
      obtain ⟨hg, hdb, hm | ⟨hm, hv, hn⟩⟩ := nm
      · exact ld_glob (X := X.suite a ((a, o3) :: (X.pn ++ pins))) su3 hg hm (lm.here q) hdb
      · exact ld_blt (X := X.suite a ((a, o3) :: (X.pn ++ pins))) su3 hg hm hv (lm.here q) hn hdb
    have all : ∀ {hs' : List ExceptHandler} {ls' : List Cl}, ClsOk' X hs' ls' → wCls X.K Wo D ls' cls d σ' H' → wpAny (model X.prog X.w) X.A (handleBy (.ref a) X.env hs') (SP X pins D) X.xe { s' with heap := g3 } := by
      intro hs' ls' ck
      induction ck with
      | nil =>
        intro wish
        refine wpAny_handleBy_nil ?_
        obtain ⟨_, _, _, oq, vq, T, _, _, eq, _, dq, fq, _⟩ := id f3
        unfold PySem.passOn
        refine wpAny_bind (wpAny_field eq dq fq ?_)
        rw [if_neg (by simp : ¬ ((Value.ref T == Value.none) = true))]
        have away : wpAny (model X.prog X.w) X.A (setFlight (.ref a) X.env.frame) (fun _ t4 => wpAny (model X.prog X.w) X.A (throw (.ref a) : Sem Flow) (SP X pins D) X.xe t4) X.xe { s' with heap := g3 } := by
          rw [hfm]
          refine HandSPX.setFlight_upZ f3 fun g4 k4 u4 => wpAny_throw (out _ _ ?_)
          refine ⟨a, B, sI, pins, σ', H', cls, d, rfl, J, nb, (up.trans u3).trans u4, .inr (.inr ?_), na, os, ag, wish⟩
          rw [hst]
          exact k4
        first | exact wpAny_bind (wpAny_pure (wpAny_bind away)) | exact wpAny_bind away
      | @only x c ts s0 su p1 p2 hs2 ls2 nm so r ih =>
        rintro ⟨b, eb, yes, no⟩
        refine wpAny_handleBy_cons (codeAny_handlers_test (tst nm eb ?_)) (by intro q; cases q)
        cases b with
        | true =>
          refine codeAny_handlers_suite (HandSPX.lands_againZ f3 fun g4 f4 u4 => ?_)
          have K4 : Inv X pins σ' H' { s' with heap := g4 } := J.landed nb f4.1 ((up.trans u3).trans u4) os ag
          obtain ⟨o4, w4, e4, z4, d4⟩ := f4.there
          refine wpAny_mono ((so a o4 cls d (X.pn ++ pins) z4 ⟨_, d4⟩).run [] _ _ H' _ (K4.suite e4 d4 na nloc nfs) (yes rfl a na)) (fun fl t6 sp6 => ?_) (fun _ _ z => z.elim)
          cases fl with
          | next => obtain ⟨_, _, S6, q6⟩ := sp6; exact ⟨_, _, S6.unsuite okX, q6⟩
          | brk => obtain ⟨_, _, S6, q6⟩ := sp6; exact ⟨_, _, S6.unsuite okX, q6⟩
          | cont => obtain ⟨_, _, S6, q6⟩ := sp6; exact ⟨_, _, S6.unsuite okX, q6⟩
          | ret u => obtain ⟨_, _, _, S6, r6, q6⟩ := sp6; exact ⟨_, _, _, S6.unsuite okX, r6, q6⟩
        | false =>
          show wpAny (model X.prog X.w) X.A (handleBy (.ref a) X.env hs2) (SP X pins D) X.xe { s' with heap := g3 }
          exact ih (no rfl)
      | @as x n i c ts s0 su p1 p2 hs2 ls2 nd hi hl nm so r ih =>
        rintro ⟨b, eb, yes, no⟩
        refine wpAny_handleBy_cons (codeAny_handlers_test (tst nm eb ?_)) (by intro q; cases q)
        cases b with
        | true =>
          refine codeAny_handlers_suite_as (HandSPX.lands_againZ f3 fun g4 f4 u4 => ?_)
          have K4 : Inv X pins σ' H' { s' with heap := g4 } := J.landed nb f4.1 ((up.trans u3).trans u4) os ag
          obtain ⟨o4, w4, e4, z4, d4⟩ := f4.there
          refine store_ok (X := X.suite a ((a, o4) :: (X.pn ++ pins))) (v := .ref a) (K4.suite e4 d4 na nloc nfs) nd hi (.inl hl) rfl (fun t5 S5 => ?_) (.inr hl)
          refine wpAny_mono ((so a o4 cls d (X.pn ++ pins) z4 ⟨_, d4⟩).run [] t5 _ H' _ S5 (yes rfl a na)) (fun fl t6 sp6 => ?_) (fun _ _ z => z.elim)
          have fin : ∀ {σ6 : L2.St} {H6 : Hp} {Q : Shared → Prop}, Inv (X.suite a ((a, o4) :: (X.pn ++ pins))) [] σ6 H6 t6 → (∀ t7, Inv X pins (σ6.set i none) H6 t7 → Q t7) →
              wpAny (model X.prog X.w) X.A (do bindName X.env n .none; unbindBehindTheSuite X.env n p2) (fun _ t7 => Q t7) X.xe t6 := fun S6 hq => gone_ok (S6.unsuite okX) nd hi hl hq
          cases fl with
          | next => obtain ⟨_, _, S6, q6⟩ := sp6; exact fin S6 fun t7 J7 => ⟨_, _, J7, q6⟩
          | brk => obtain ⟨_, _, S6, q6⟩ := sp6; exact fin S6 fun t7 J7 => ⟨_, _, J7, q6⟩
          | cont => obtain ⟨_, _, S6, q6⟩ := sp6; exact fin S6 fun t7 J7 => ⟨_, _, J7, q6⟩
          | ret u => obtain ⟨_, _, _, S6, r6, q6⟩ := sp6; exact fin S6 fun t7 J7 => ⟨_, _, _, J7, r6, q6⟩
        | false =>
          show wpAny (model X.prog X.w) X.A (handleBy (.ref a) X.env hs2) (SP X pins D) X.xe { s' with heap := g3 }
          exact ih (no rfl)
    exact all cl wish
  · cases fl with
    | next => obtain ⟨_, _, J', q⟩ := hsp; exact wpAny_execs_nil ⟨_, _, Inv.ofTry J' okX, q⟩
    | brk => obtain ⟨_, _, J', q⟩ := hsp; exact ⟨_, _, Inv.ofTry J' okX, q⟩
    | cont => obtain ⟨_, _, J', q⟩ := hsp; exact ⟨_, _, Inv.ofTry J' okX, q⟩
    | ret u => obtain ⟨_, _, _, J', r, q⟩ := hsp; exact ⟨_, _, _, Inv.ofTry J' okX, r, q⟩
end
end PW

namespace PW
open PySem PySem.Spec PyProof.Rows L2
/-! ### raise C(x, ..), C an own class of refusals whose __init__ calls its base's and keeps its values -/
def oexB (K : PySem.W.Frag) (C : Addr) : Bool := (match K.lookup C with
  | some ⟨.type "type", _, .cls cd, sl⟩ => (match cd.mro, sl.toList with
    | .ref C' :: bm, [_, _, _, _, some (.builtin n), _] => C' == C && n == "ValueError.__new__" && !cd.hasDel && cd.hasDict && PySem.HandSPX.refsVE bm
    | _, _ => false)
  | _ => false) &&
  (decide (PySem.W.findIn K (.ref C) "__setattr__" = some (some (.builtin "object.__setattr__"))) && (decide (PySem.W.subIn K (.ref C) (.type "BaseException") = some true) && (decide (PySem.W.typeIn K (.ref C) = some (.type "type")) && PySem.W.keepIn K (.ref C))))
theorem oexB_ok {K : PySem.W.Frag} {C : Addr} (h : oexB K C = true) : L2.OexC K C := by
  unfold oexB at h
  rw [Bool.and_eq_true, Bool.and_eq_true, Bool.and_eq_true, Bool.and_eq_true, decide_eq_true_iff, decide_eq_true_iff, decide_eq_true_iff] at h
  obtain ⟨q, h1, h2, h3, h4⟩ := h
  refine ⟨?_, h1, h2, h3, h4⟩
  split at q
  · rename_i dd cd sl ho
    split at q
    · rename_i C' bm k0 k1 k2 k3 n k5 hm hs
      simp only [Bool.and_eq_true, beq_iff_eq, Bool.not_eq_true'] at q
      obtain ⟨⟨⟨⟨rfl, rfl⟩, hdel⟩, hdc⟩, hbm⟩ := q
      obtain ⟨nm, bs, mro, ns, qn, hd, sn, sub, ab, col, del⟩ := cd
      dsimp only at hm hdel hdc
      subst hm hdel hdc
      have hsl : sl = #[k0, k1, k2, k3, some (.builtin "ValueError.__new__"), k5] := by
        obtain ⟨l⟩ := sl
        simp only at hs
        rw [hs]
      subst hsl
      exact ⟨nm, qn, ns, bs, bm, sn, sub, ab, col, dd, k0, k1, k2, k3, k5, ho, hbm⟩
    · cases q
  · cases q
/-- what of the base is read -/
structure ParC (K : PySem.W.Frag) (P : Addr) : Prop where
  rd : PySem.W.readsIn K P (.type "type") = true
  ga : PySem.W.specialIn K (.ref P) "__getattribute__" = some (some (.builtin "type.__getattribute__"))
  fi : PySem.W.findCls K (.ref P) (.type "type") "__init__" = some (.val (.builtin "ValueError.__init__"))
def parB (K : PySem.W.Frag) (P : Addr) : Bool := PySem.W.readsIn K P (.type "type") && (decide (PySem.W.specialIn K (.ref P) "__getattribute__" = some (some (.builtin "type.__getattribute__"))) && (match PySem.W.findCls K (.ref P) (.type "type") "__init__" with
  | some (.val v) => decide (v = .builtin "ValueError.__init__")
  | _ => false))
theorem parB_ok {K : PySem.W.Frag} {P : Addr} (h : parB K P = true) : ParC K P := by
  unfold parB at h
  rw [Bool.and_eq_true, Bool.and_eq_true, decide_eq_true_iff] at h
  obtain ⟨h1, h2, h3⟩ := h
  refine ⟨h1, h2, ?_⟩
  split at h3
  · rename_i v e
    rw [e, of_decide_eq_true h3]
  · cases h3
theorem pe_pinit {X : Cx} {x : Str} {P : Addr} {e : Expr} {es : List Expr} {ta : TA} {p1 p2 pos : Pos} {pl : Sem Bool} (hg : Gl X x) (hm : X.mg x = some (.ref P)) (c : ParC X.K P) (ha : PA X (e :: es) ta) (hdb : (x == ("__debug__" : Str)) = false := by decide)
    (hc : eval (.Call (.Attribute (.Name x p1) "__init__" p2) (e :: es) [] pos) X.env = (do
      let ov ← eval (.Name x p1) X.env
      standAt p2.atName
      let (f, first) ← holding [ov] (getMethod ov "__init__" pl)
      callWith pos f first (backTo pos (starEach (e :: es) X.env)) (backToKw pos (keywordEach [] X.env))) := by rfl)
    (he : starEach (e :: es) X.env = (false, eval e X.env) :: starEach es X.env := by rfl) (hpl : (backTo pos (starEach es X.env)).any (·.1) = false := by rfl) :
    PE X (.Call (.Attribute (.Name x p1) "__init__" p2) (e :: es) [] pos) (L2.tVeI X.K ta) := by
  refine ⟨fun pins s σ H Q I h => ?_⟩
  refine PySem.W.methodCall_KW (ld_glob I hg hm ?_ hdb) hc
  refine PySem.W.method_cls I.kIn c.ga (PySem.W.cls_value I.kIn c.rd c.fi (by decide +kernel) ?_)
  show wpAny _ _ (callWith pos (Value.builtin "ValueError.__init__") [] (backTo pos (starEach (e :: es) X.env)) []) _ _ _
  refine PyProof.Rows.callWith_method1 (thn (ha.run pos pins _ σ H _ (I.tok _) h) fun us s1 ⟨vs, H1, I1, r1, a, C, ws, ev, hl, T, ea, q⟩ => ?_) he hpl
  subst ev
  cases r1 with
  | @cons _ u0 _ ur ra rw' =>
    obtain rfl : u0 = Value.ref a := ra
    have hlen : ur.length ≤ sizeLine := by
      rw [← Paired.length rw', sizeLine_eq]
      omega
    exact L2.oinit_ok T I1 ea hlen fun s' J => ⟨.non, H1, J, rfl, q⟩
/-- the promise of such an __init__ -/
def spXi (C : Addr) (fs : List Str) : Sp := fun vs H Q _ => ∃ (a : Addr) (ys : List V), vs = .ref a :: ys ∧ ys.length = fs.length ∧ H a = some (L2.exo a C none) ∧
  ∀ dx H2, H dx = none → dx ≠ a → H2 a = some (L2.exo a C (some dx)) → H2 dx = some (L2.exd dx (List.zip fs ys).reverse) → (∀ b, b ≠ a → b ≠ dx → H2 b = H b) → Q .non H2
/-- such a class -/
structure OiOk (P : Program) (w : World) (K : PySem.W.Frag) (mg : Str → Option Value) (base : Heap) (k : Nat) (x : Str) (C : Addr) (fs : List Str) : Prop where
  ex : ∃ (fI : Addr) (fd : FuncData) (ps : List Str), L2.OexC K C ∧ PySem.W.findIn K (.ref C) "__init__" = some (some (.ref fI)) ∧ PySem.W.typeIn K (.ref fI) = some (.type "function") ∧ FnOk P w K mg base C8.CX0 k fI fd ps (spXi C fs) ∧ Binds K fd ps [] ∧ mg x = some (.ref C)
def tRzI (W : WX) (C : Addr) (fs : List Str) (ta : TA) : TS := fun _ σ H => L2.tMkO C (spXi C fs) [] ta σ H fun cls d H' => W cls d σ H'
theorem pmkN {X : Cx} {x : Str} {C fI : Addr} {k : Nat} {fd : FuncData} {ps : List Str} {sp : Sp} {e : Expr} {es : List Expr} {ta : TA} {p pos : Pos} (T : L2.OexC X.K C) (ini : PySem.W.findIn X.K (.ref C) "__init__" = some (some (.ref fI))) (tyI : PySem.W.typeIn X.K (.ref fI) = some (.type "function"))
    (fn1 : FnOk X.prog X.w X.K X.mg X.base C8.CX0 k fI fd ps sp) (hr : Room (k + 1) X.A) (bi : Binds X.K fd ps []) (hx : L2.Passes C8.CX0 X (fun _ _ _ => False)) (hg : Gl X x) (hm : X.mg x = some (.ref C)) (ha : PA X (e :: es) ta)
    (hdb : (x == ("__debug__" : Str)) = false) (he : starEach (e :: es) X.env = (false, eval e X.env) :: starEach es X.env) (hpl : (backTo pos (starEach es X.env)).any (·.1) = false) :
    L2N.PMk X (.Call (.Name x p) (e :: es) [] pos) (L2.tMkO C sp [] ta) := by
  intro pins s0 σ H Q J want
  obtain ⟨_, _, _, _, mb, _, _, _, _, _, _, _, _, _, _, atC, okm⟩ := T.cls
  refine wpAny_Call_Name_kw (ld_glob J hg hm ?_ hdb)
  refine PySem.W.callWith_K (h₀ := X.base) J.ok.mod.kin T.kC (thn (ha.run pos pins s0 σ H _ J want) fun us sA ⟨vs, HA, JA, rv, few, w1⟩ => ⟨JA.kIn, ?_⟩) he hpl
  show wpAny _ _ (call (.ref C) us) _ _ _
  obtain ⟨m0, gA, dA, tA, oA⟩ := sA
  have up1 : m0.objs.size ≤ m0.objs.size + 1 := Nat.le_succ _
  have w2 := w1 (m0.objs.size + 1) (JA.hok.fresh up1)
  rw [List.append_nil] at w2
  have kept : ∀ b u, m0.get? b = some u → ((m0.push (PySem.W.kdv_tup us)).push (PySem.HandSPX.excO C m0.objs.size)).get? b = some u := fun b u z => Heap.get?_push_of_some _ (Heap.get?_push_of_some _ z)
  have made : ((m0.push (PySem.W.kdv_tup us)).push (PySem.HandSPX.excO C m0.objs.size)).get? (m0.objs.size + 1) = some (PySem.HandSPX.excO C m0.objs.size) := by heap_get
  have JB : Inv X pins σ (upd HA (m0.objs.size + 1) (L2.exo (m0.objs.size + 1) C none)) ⟨(m0.push (PySem.W.kdv_tup us)).push (PySem.HandSPX.excO C m0.objs.size), gA, dA, tA, oA⟩ :=
    JA.laid (t' := tA) (a := m0.objs.size + 1) (o := L2.exo (m0.objs.size + 1) C none) (h' := (m0.push (PySem.W.kdv_tup us)).push (PySem.HandSPX.excO C m0.objs.size)) kept up1 (L2.exo_ok made)
  have rv2 : Vals (V.ref (m0.objs.size + 1) :: vs) (Value.ref (m0.objs.size + 1) :: us) := .cons rfl rv
  have ln : (Value.ref (m0.objs.size + 1) :: us ++ []).length = ps.length := by
    have z := rv2.length
    rw [fn1.len _ _ _ _ w2] at z
    rw [List.append_nil]
    exact z.symm
  have lu : us.length ≤ sizeLine := by
    rw [← Paired.length rv, sizeLine_eq]
    omega
  have bi2 := bi _ (Value.ref (m0.objs.size + 1) :: us) JB.kIn ln
  rw [List.append_nil] at bi2
  refine wpAny_call (PySem.HandSPX.call_own PySem.F.excBase_ValueError (fun Y => PySem.HandSPX.refsVE_contains Y mb okm) (JA.kIn _ _ atC) (PySem.W.looks_findIn JA.kIn ini) (fun self => PySem.W.bind_fn JA.kIn self tyI) lu
    (codeAny_mono (fn1.run _ X.stack _ _ ⟨Value.ref (m0.objs.size + 1) :: us, []⟩ (Value.ref (m0.objs.size + 1) :: us) _ _ (fun _ _ _ => False) (hr.make C us []) (JB.env0.make C us []) bi2 rv2 w2) fun r sB w3 => ?_))
  cases r with
  | error er => exact hx pins σ _ _ er sB JB w3
  | ok fl =>
    cases fl with
    | ret u =>
      obtain ⟨v, HB, osB, bareB, unB, hokB, rvB, ev, d, fs, ea, ed, hd1, w4⟩ := w3
      subst ev
      obtain ⟨mB, gB, dB, tB, oB⟩ := sB
      obtain ⟨t0, G, J2, kG, gone, hoe, na⟩ := L2.mk_end0 (d2 := dB) (t2 := tB) JA up1 kept unB hokB osB bareB ea ed hd1
      refine ⟨rvB, ⟨m0.objs.size + 1, _, _, ⟨G, gB, dB, tB, oB⟩, _, .ref C, some d, rfl, J2, kG, gone, hoe, ⟨rfl, rfl, fun fv hv => ?_⟩, rfl, rfl, na, rfl, bareB, raises_own T.exC T.tyC, w4⟩⟩
      cases hv
      rfl
    | next => exact False.elim w3
    | brk => exact False.elim w3
    | cont => exact False.elim w3
theorem ps_rzI {X : Cx} {W : WX} {x : Str} {C : Addr} {fs : List Str} {j k : Nat} {e : Expr} {es : List Expr} {ta : TA} {p pos pos' : Pos} (hc : X.calm = true) (tk : L2N.Takes X W) (o : OiOk X.prog X.w X.K X.mg X.base k x C fs) (hr : Room j X.A) (hk : k + 1 ≤ j) (hg : Gl X x) (ha : PA X (e :: es) ta)
    (hdb : (x == ("__debug__" : Str)) = false := by decide) (he : starEach (e :: es) X.env = (false, eval e X.env) :: starEach es X.env := by rfl) (hpl : (backTo pos (starEach es X.env)).any (·.1) = false := by rfl) :
    PS X (.Raise (some (.Call (.Name x p) (e :: es) [] pos)) none pos') (tRzI W C fs ta) := by
  obtain ⟨fI, fd, ps, T, iC, tI, F1, hb, hm⟩ := o.ex
  exact L2N.ps_raise hc tk (pmkN T iC tI F1 (hr.mono hk) hb C8.pass0 hg hm ha hdb he hpl)
/-! the same by data -/
theorem Env.newOk {F : Fr} {σ : L2.St} {ρ : DEnv} {H : Hp} {a : Addr} {r : Bool} (E : Env F σ ρ H) (h : H a = none) : ¬ F.bad (OwnA σ ρ) r a := fun z => by
  rcases z with z | z | ⟨_, z⟩
  · obtain ⟨⟨o, ho⟩, _⟩ := E.hidIn a z
    rw [h] at ho
    cases ho
  · obtain ⟨u, hu, _⟩ := E.notup z
    rw [h] at hu
    cases hu
  · cases e : F.H0 a with
    | none => exact z e
    | some o =>
      by_cases p : F.pt = some a
      · obtain ⟨r0, d0, g1, _, g3⟩ := E.pt a p
        obtain ⟨u, hu, _⟩ := E.notup ⟨0, r0, d0, g1, .inl g3⟩
        rw [h] at hu
        cases hu
      · by_cases px : F.px a
        · obtain ⟨u, hu⟩ := E.pxIn a px
          rw [h] at hu
          cases hu
        · rcases E.keep a o e p px with y | ⟨_, od, y⟩
          · rw [h] at y
            cases y
          · rw [h] at y
            cases y
theorem zip_fst {α β : Type} : ∀ {xs : List α} {ys : List β}, xs.length = ys.length → (List.zip xs ys).map Prod.fst = xs
  | [], [], _ => rfl
  | x :: xs, y :: ys, h => by
    show x :: (List.zip xs ys).map Prod.fst = x :: xs
    rw [zip_fst (Nat.succ.inj h)]
theorem zip_snd {α β : Type} : ∀ {xs : List α} {ys : List β}, xs.length = ys.length → (List.zip xs ys).map Prod.snd = ys
  | [], [], _ => rfl
  | x :: xs, y :: ys, h => by
    show y :: (List.zip xs ys).map Prod.snd = y :: ys
    rw [zip_snd (Nat.succ.inj h)]
def dRzI (c : Str) (fs : List Str) (u : DAW) : DSW := fun X _ ρ => u X ρ fun xs ρ1 => match sts ρ1 (xs.map DV.tmp) with
  | some (r, ds, ρ2) => r = true ∧ ds.length = fs.length ∧ fs ≠ [] ∧ fs.length ≤ 900 ∧ X ⟨c, (List.zip fs ds).reverse⟩ ρ2
  | none => False
instance {K : PySem.W.Frag} {W : WXT} {c : Str} {fs : List Str} {t : TA} {u : DAW} [A : DA K W t u] : DS K W (tRzI W (He.ga K c) fs t) (dRzI c fs u) where
  ok := fun {F σ H ρ X E Dn} hK En L h nx bk ct rt => A.ok hK En L h fun xs ρ1 vs H1 h1 E1 s1 r1 => by
    subst hK
    split at h1
    · rename_i r ds ρ2 e
      obtain ⟨rfl, hl, hne, h9, h1⟩ := h1
      obtain ⟨E2, s2, p2⟩ := sts_rep E1 (dCons_tmp r1) e
      have hv : vs.length = fs.length := p2.len.trans hl
      refine ⟨by omega, fun a na => ⟨a, vs, by rw [List.append_nil], hv, upd_same, fun dx H2 hdx ne g1 g2 g3 => ?_⟩⟩
      have nd : H1 dx = none := by
        rw [upd_ne ne] at hdx
        exact hdx
      refine ⟨rfl, dx, _, g1, g2, nd, ?_⟩
      have eH : upd (L2.del H2 a) dx (.xd (List.zip fs vs).reverse) = upd H1 dx (.xd (List.zip fs vs).reverse) := funext fun b => by
        by_cases e1 : b = dx
        · subst e1
          rw [upd_same, upd_same]
        · rw [upd_ne e1, upd_ne e1]
          by_cases e2 : b = a
          · subst e2
            rw [L2.del_same, na]
          · rw [L2.del_ne e2, g3 b e2 e1, upd_ne e2]
      rw [eH]
      have sm : Same H1 (upd H1 dx (.xd (List.zip fs vs).reverse)) := same_new nd
      refine L _ ρ2 σ (some dx) _ h1 (E2.grow sm) ((s1.trans s2).trans (.same sm)) ?_
      have up : Same (F.RH (OwnA σ ρ2) H1 true) (F.RH (OwnA σ ρ2) (upd H1 dx (.xd (List.zip fs vs).reverse)) true) := cut_mono (fun b u hb nb => ⟨sm _ _ hb, nb⟩) fun b xs hb _ => sm _ _ hb
      have ez : ∀ z : List (Str × D), z = (List.zip fs ds).reverse → z ≠ [] := fun z ez en => by
        rw [en] at ez
        have := congrArg List.length ez
        rw [List.length_reverse, List.length_zip, hl, Nat.min_self] at this
        exact hne (List.length_eq_zero_iff.mp this.symm)
      unfold XRep
      split
      · rename_i q
        exact absurd q (ez _ rfl)
      · refine ⟨dx, _, rfl, cut_of upd_same (E2.newOk nd), ?_, ?_⟩
        · show ((List.zip fs vs).reverse.map Prod.fst) = ((List.zip fs ds).reverse.map Prod.fst)
          rw [List.map_reverse, List.map_reverse, zip_fst hv.symm, zip_fst hl.symm]
        · show RepL F.K _ ((List.zip fs vs).reverse.map Prod.snd) ((List.zip fs ds).reverse.map Prod.snd)
          rw [List.map_reverse, List.map_reverse, zip_snd hv.symm, zip_snd hl.symm]
          exact (p2.mono up).rev
    · exact h1.elim
/-! what such an __init__ does -/
section
variable {K : PySem.W.Frag} {C a : Addr} {f g m : Str} {y z : V} {H : Hp} {Q : VK} {N : List Str} {D : Ends}
theorem oi_run1 (T : L2.OexC K C) (nf : PySem.W.findIn K (.ref C) f = some none) (h : spXi C [f] [.ref a, y] H Q (fun _ _ _ => False)) :
    tSeq (tDrop (L2.tVeI K (tCons (tVar 0) (tCons (tC (.str m)) tNil)))) (L2.tOst K f (tVar 0) (tVar 1)) { nx := fun _ H' => Q .non H', rt := Q } (start N [.ref a, y]) H := by
  obtain ⟨b, ys, e, hl, ha, k⟩ := h
  cases e
  refine ⟨.ref a, rfl, a, C, [.str m], rfl, Nat.le_of_ble_eq_true rfl, T, ha, ?_⟩
  refine ⟨y, rfl, .ref a, rfl, a, C, rfl, T, nf, .inl ⟨ha, fun dx nd ne => ?_⟩⟩
  exact k dx _ nd ne upd_same (by rw [upd_ne ne]; exact upd_same) fun b h1 h2 => by rw [upd_ne h1, upd_ne h2]
theorem oi_run2 (T : L2.OexC K C) (nf : PySem.W.findIn K (.ref C) f = some none) (ng : PySem.W.findIn K (.ref C) g = some none) (h : spXi C [f, g] [.ref a, y, z] H Q (fun _ _ _ => False)) :
    tSeq (tDrop (L2.tVeI K (tCons (tVar 0) (tCons (tC (.str m)) tNil)))) (tSeq (L2.tOst K f (tVar 0) (tVar 1)) (L2.tOst K g (tVar 0) (tVar 2))) { nx := fun _ H' => Q .non H', rt := Q } (start N [.ref a, y, z]) H := by
  obtain ⟨b, ys, e, hl, ha, k⟩ := h
  cases e
  refine ⟨.ref a, rfl, a, C, [.str m], rfl, Nat.le_of_ble_eq_true rfl, T, ha, ?_⟩
  refine ⟨y, rfl, .ref a, rfl, a, C, rfl, T, nf, .inl ⟨ha, fun dx nd ne => ?_⟩⟩
  refine ⟨z, rfl, .ref a, rfl, a, C, rfl, T, ng, .inr ⟨dx, [(f, y)], upd_same, by rw [upd_ne ne]; exact upd_same, Nat.le_of_ble_eq_true rfl, ?_⟩⟩
  refine k dx _ nd ne (by rw [upd_ne (Ne.symm ne)]; exact upd_same) upd_same fun b h1 h2 => ?_
  rw [upd_ne h2, upd_ne h1, upd_ne h2]
end
end PW

namespace PW
open PySem PySem.Spec PyProof.Rows L2
/-! ### more facts of the top: classes of exceptions -/
inductive Xf where
  | is (x : Str)
  | kit (x y : Str) (b : Bool)
  | kitB (x : Str) (t : String) (b : Bool)
  | fld (x f : Str)
  | oex (x : Str)
  | par (x : Str)
def xcB (K : PySem.W.Frag) (C : Addr) : Bool := (PySem.W.clsIn K C).isSome && (decide (PySem.W.findIn K (.ref C) "__getattribute__" = some (some (.builtin "BaseException.__getattribute__"))) && (decide (PySem.W.findIn K (.ref C) "__getattr__" = some none) &&
  (decide (PySem.W.subIn K (.ref C) (.type "BaseException") = some true) && (decide (PySem.W.findIn K (.ref C) "__class__" = some (some (.builtin "object.__class__"))) && (decide (PySem.W.specialIn K (.builtin "object.__class__") "__get__" = some (some (.builtin "getset_descriptor.__get__"))) &&
  (decide (PySem.W.takesIn K (.builtin "object.__class__") = some true) && decide (PySem.W.mroIn K C (.type "object") = some true)))))))
structure XcC (K : PySem.W.Frag) (C : Addr) : Prop where
  cl : (PySem.W.clsIn K C).isSome = true
  ga : PySem.W.findIn K (.ref C) "__getattribute__" = some (some (.builtin "BaseException.__getattribute__"))
  gg : PySem.W.findIn K (.ref C) "__getattr__" = some none
  sb : PySem.W.subIn K (.ref C) (.type "BaseException") = some true
  cc : PySem.W.findIn K (.ref C) "__class__" = some (some (.builtin "object.__class__"))
  sp : PySem.W.specialIn K (.builtin "object.__class__") "__get__" = some (some (.builtin "getset_descriptor.__get__"))
  tk : PySem.W.takesIn K (.builtin "object.__class__") = some true
  mo : PySem.W.mroIn K C (.type "object") = some true
theorem xcB_ok {K : PySem.W.Frag} {C : Addr} (h : xcB K C = true) : XcC K C := by
  unfold xcB at h
  simp only [Bool.and_eq_true, decide_eq_true_eq] at h
  obtain ⟨h1, h2, h3, h4, h5, h6, h7, h8⟩ := h
  exact ⟨h1, h2, h3, h4, h5, h6, h7, h8⟩
def Xf.ok (K : PySem.W.Frag) : Xf → Bool
  | .is x => xcB K (He.ga K x)
  | .kit x y b => decide (PySem.W.kitOne K (.ref (He.ga K x)) (.ref (He.ga K y)) = some b)
  | .kitB x t b => decide (PySem.W.kitOne K (.ref (He.ga K x)) (.type t) = some b)
  | .fld x f => xfB K (He.ga K x) && decide (PySem.W.findIn K (.ref (He.ga K x)) f = some none)
  | .oex x => oexB K (He.ga K x) && (decide (PySem.W.findIn K (.ref (He.ga K x)) "__init__" = some (some (.ref (He.fAd K (x, some "__init__"))))) && decide (PySem.W.typeIn K (.ref (He.fAd K (x, some "__init__"))) = some (.type "function")))
  | .par x => parB K (He.ga K x)
def obsE (n : Nat) (fa : List He.Fa) (fn : List He.DefD) (xf : List Xf) (g : Addr → Option Obj) : He.AlD × Bool := (He.obsD fa fn (He.frG g (He.asD g n ++ [PySem.cStatics])), xf.all fun f => f.ok (He.frG g (He.asD g n ++ [PySem.cStatics])))
def hookE (n : Nat) (fa : List He.Fa) (fn : List He.DefD) (xf : List Xf) : PySem.W.Hook where
  α := He.AlD × Bool
  obs := fun s => obsE n fa fn xf s.heap.get?
  val := fun _ => (He.valD fn, true)
  says := fun _ h => ∃ K : PySem.W.Frag, K.In h ∧ He.SaysD fa fn K ∧ (xf.all fun f => f.ok K) = true
  of := fun _ _ e => ⟨_, He.frG_in, congrArg (fun z : He.AlD × Bool => z.1) e, congrArg (fun z : He.AlD × Bool => z.2) e⟩
  keeps := fun _ _ _ ⟨K, hK, c, d⟩ k => ⟨K, PySem.W.Frag.In.keeps hK k, c, d⟩
theorem obsE_eq {n : Nat} {fa : List He.Fa} {fn : List He.DefD} {xf : List Xf} {g : Addr → Option Obj} {s : Shared} (h : ∀ a, g a = s.heap.get? a) : obsE n fa fn xf g = (hookE n fa fn xf).obs s := by
  cases (funext h : g = s.heap.get?)
  rfl
structure TopE (fa : List He.Fa) (fn : List He.DefD) (xf : List Xf) (K : PySem.W.Frag) (mg : Str → Option Value) : Prop extends TopOf fa fn K mg where
  xs : (xf.all fun f => f.ok K) = true
section
variable {K : PySem.W.Frag} {xf : List Xf}
theorem xf_mem (h : (xf.all fun f => f.ok K) = true) {f : Xf} (m : f ∈ xf) : f.ok K = true := List.all_eq_true.mp h f m
def hasOex (xf : List Xf) (x : Str) : Bool := xf.any fun f => match f with
  | .oex y => decide (y = x)
  | _ => false
def hasPar (xf : List Xf) (x : Str) : Bool := xf.any fun f => match f with
  | .par y => decide (y = x)
  | _ => false
theorem oex_get (h : (xf.all fun f => f.ok K) = true) {x : Str} (e : hasOex xf x = true) : L2.OexC K (He.ga K x) ∧ PySem.W.findIn K (.ref (He.ga K x)) "__init__" = some (some (.ref (He.fAd K (x, some "__init__")))) ∧ PySem.W.typeIn K (.ref (He.fAd K (x, some "__init__"))) = some (.type "function") := by
  obtain ⟨f, hf, e⟩ := List.any_eq_true.mp e
  have g := xf_mem h hf
  split at e
  · rename_i y
    cases of_decide_eq_true e
    unfold Xf.ok at g
    rw [Bool.and_eq_true, Bool.and_eq_true, decide_eq_true_iff, decide_eq_true_iff] at g
    exact ⟨oexB_ok g.1, g.2.1, g.2.2⟩
  · cases e
theorem par_get (h : (xf.all fun f => f.ok K) = true) {x : Str} (e : hasPar xf x = true) : ParC K (He.ga K x) := by
  obtain ⟨f, hf, e⟩ := List.any_eq_true.mp e
  have g := xf_mem h hf
  split at e
  · rename_i y
    cases of_decide_eq_true e
    exact parB_ok g
  · cases e
def hasIs (xf : List Xf) (x : Str) : Bool := xf.any fun f => match f with
  | .is y => decide (y = x)
  | _ => false
def hasKit (xf : List Xf) (x y : Str) : Option Bool := xf.findSome? fun f => match f with
  | .kit a b r => if a = x ∧ b = y then some r else none
  | _ => none
def hasKitB (xf : List Xf) (x : Str) (t : String) : Option Bool := xf.findSome? fun f => match f with
  | .kitB a b r => if a = x ∧ b = t then some r else none
  | _ => none
def hasFld (xf : List Xf) (x f : Str) : Bool := xf.any fun g => match g with
  | .fld a b => decide (a = x ∧ b = f)
  | _ => false
theorem is_get (h : (xf.all fun f => f.ok K) = true) {x : Str} (e : hasIs xf x = true) : XcC K (He.ga K x) := by
  obtain ⟨f, hf, e⟩ := List.any_eq_true.mp e
  cases f with
  | is y =>
    cases of_decide_eq_true e
    exact xcB_ok (xf_mem h hf)
  | _ => cases e
theorem kit_get (h : (xf.all fun f => f.ok K) = true) {x y : Str} {b : Bool} (e : hasKit xf x y = some b) : PySem.W.kitOne K (.ref (He.ga K x)) (.ref (He.ga K y)) = some b := by
  obtain ⟨f, hf, e⟩ := List.exists_of_findSome?_eq_some e
  cases f with
  | kit u v r =>
    dsimp only at e
    split at e
    · rename_i z
      cases e
      obtain ⟨rfl, rfl⟩ := z
      exact of_decide_eq_true (xf_mem h hf)
    · cases e
  | _ => cases e
theorem kitB_get (h : (xf.all fun f => f.ok K) = true) {x : Str} {t : String} {b : Bool} (e : hasKitB xf x t = some b) : PySem.W.kitOne K (.ref (He.ga K x)) (.type t) = some b := by
  obtain ⟨f, hf, e⟩ := List.exists_of_findSome?_eq_some e
  cases f with
  | kitB u v r =>
    dsimp only at e
    split at e
    · rename_i z
      cases e
      obtain ⟨rfl, rfl⟩ := z
      exact of_decide_eq_true (xf_mem h hf)
    · cases e
  | _ => cases e
structure FldC (K : PySem.W.Frag) (x f : Str) : Prop where
  xc : XfC K (He.ga K x)
  no : PySem.W.findIn K (.ref (He.ga K x)) f = some none
theorem fld_get (h : (xf.all fun f => f.ok K) = true) {x f : Str} (e : hasFld xf x f = true) : FldC K x f := by
  obtain ⟨g, hg, e⟩ := List.any_eq_true.mp e
  cases g with
  | fld u v =>
    obtain ⟨rfl, rfl⟩ := of_decide_eq_true e
    obtain ⟨h1, h2⟩ := Bool.and_eq_true_iff.mp (xf_mem h hg)
    exact ⟨xfB_ok h1, of_decide_eq_true h2⟩
  | _ => cases e
end
/-! ### isinstance of a caught exception, its fields -/
/-- the exception at a, its class and its dict, stands in the state -/
structure PinAt (X : Cx) (a : Addr) (cls : Value) (d : Option Addr) : Prop where
  ex : ∃ oe : Obj, (a, oe) ∈ X.pn ∧ oe.cls = cls ∧ oe.dict = d ∧ ∃ fv, oe.data = .fields fv
theorem pin_suite {X : Cx} {a : Addr} {oe : Obj} {cls : Value} {d : Option Addr} {pn : List (Addr × Obj)} (hz : L2N.Zn cls d oe) (hf : ∃ fv, oe.data = .fields fv) : PinAt (X.suite a ((a, oe) :: pn)) a cls d :=
  ⟨oe, List.mem_cons_self, hz.1, hz.2.1, hf⟩
theorem PinAt.inst {X : Cx} {a C : Addr} {d : Option Addr} {pins : List (Addr × Obj)} {σ : L2.St} {H : Hp} {s : Shared} (p : PinAt X a (.ref C) d) (I : Inv X pins σ H s) (hd : ∀ dd, d = some dd → ∃ fs, H dd = some (.xd fs)) : ∃ oe od, PySem.W.InstAt s.heap a oe C od := by
  obtain ⟨oe, hm, h1, h2, fv, hv⟩ := p.ex
  have hget := (I.pin (a, oe) (List.mem_append_left _ hm)).1
  cases d with
  | none => exact ⟨oe, none, hget, h1, by unfold PySem.W.notCls; rw [hv] <;> rfl, by rw [h2]; trivial⟩
  | some dd =>
    obtain ⟨fs, ea⟩ := hd dd rfl
    obtain ⟨mA, hns, hr⟩ := (I.hok dd _ ea : ObjOk X.prog X.w H s.heap dd (.xd fs))
    obtain ⟨od, ho, hl⟩ := lookIn_ns hns
    exact ⟨oe, some od, hget, h1, by unfold PySem.W.notCls; rw [hv] <;> rfl, by rw [h2]; exact ho⟩
def rIsX (K : PySem.W.Frag) (cls : Value) (d : Option Addr) (a : Addr) : List V → Hp → VK → Prop := fun xs H Q => ∃ (C : Addr) (c : V) (cv : Value) (b : Bool), cls = .ref C ∧ XcC K C ∧ (∀ dd, d = some dd → ∃ fs, H dd = some (.xd fs)) ∧ xs = [.ref a, c] ∧ (∀ u, RelV c u → u = cv) ∧ PySem.W.kitOne K cls cv = some b ∧ Q (.bl b) H
theorem call_isX {X : Cx} {K : PySem.W.Frag} {a : Addr} {cls : Value} {d : Option Addr} (p : PinAt X a cls d) (hK : X.K = K := by rfl) : CallR X (.builtin "isinstance") (rIsX K cls d a) := by
  subst hK
  intro pins s σ H xs us Q I r h
  obtain ⟨C, c, cv, b, rfl, xc, hd, rfl, hcv, e, q⟩ := h
  cases r with
  | cons rx rr =>
    cases rr with
    | cons rt rr =>
      cases rr
      cases rx
      cases hcv _ rt
      obtain ⟨oe, od, J⟩ := p.inst I hd
      exact PySem.W.kia_one (PySem.W.kitx_exc xc.cl xc.ga xc.gg xc.sb xc.cc xc.sp xc.tk xc.mo) I.kIn J e (fun z => nomatch z) fun tk => ⟨.bl b, H, I.kept (t' := tk) fun _ _ z => z, rfl, q⟩
def rIsXT (K : PySem.W.Frag) (cls : Value) (d : Option Addr) (a : Addr) : List V → Hp → VK → Prop := fun xs H Q => ∃ (C : Addr) (tp : Addr) (cs : List V) (us : List Value) (b : Bool), cls = .ref C ∧ XcC K C ∧ (∀ dd, d = some dd → ∃ fs, H dd = some (.xd fs)) ∧ xs = [.ref a, .ref tp] ∧ H tp = some (.tup cs) ∧ Paired (fun c u => ∀ v, RelV c v → v = u) cs us ∧ PySem.W.kitAny K cls us = some b ∧ Q (.bl b) H
theorem paired_vals : ∀ {cs : List V} {us vs : List Value}, Paired (fun c u => ∀ v, RelV c v → v = u) cs us → Vals cs vs → vs = us
  | _, _, _, .nil, .nil => rfl
  | _, _, _, .cons h g, .cons r s => by rw [h _ r, paired_vals g s]
theorem call_isXT {X : Cx} {K : PySem.W.Frag} {a : Addr} {cls : Value} {d : Option Addr} (p : PinAt X a cls d) (hK : X.K = K := by rfl) : CallR X (.builtin "isinstance") (rIsXT K cls d a) := by
  subst hK
  intro pins s σ H xs us Q I r h
  obtain ⟨C, tp, cs, ws, b, rfl, xc, hd, rfl, ht, hp, e, q⟩ := h
  cases r with
  | cons rx rr =>
    cases rr with
    | cons rt rr =>
      cases rr
      cases rx
      cases rt
      obtain ⟨oe, od, J⟩ := p.inst I hd
      obtain ⟨_, its, rv, o, g1, g2, n, g3⟩ := (I.hok tp _ ht : ObjOk X.prog X.w H s.heap tp (.tup cs))
      cases paired_vals hp rv
      obtain ⟨oc, odd, dt, sl⟩ := o
      simp only at g2 g3
      subst g2 g3
      exact PySem.W.kia_tup (PySem.W.kitx_exc xc.cl xc.ga xc.gg xc.sb xc.cc xc.sp xc.tk xc.mo) I.kIn J g1 e (fun z => nomatch z) fun tk => ⟨.bl b, H, I.tok tk, rfl, q⟩
/-- e.f -/
def tXfG (K : PySem.W.Frag) (a : Addr) (cls : Value) (d : Option Addr) (f : Str) (te : TE) : TE := fun σ H Q => te σ H fun x H1 => x = .ref a ∧ ∃ (C dd : Addr) (fs : List (Str × V)) (v : V), cls = .ref C ∧ XfC K C ∧ PySem.W.findIn K (.ref C) f = some none ∧ d = some dd ∧ H1 dd = some (.xd fs) ∧ fs.lookup f = some v ∧ Q v H1
theorem pe_xfG {X : Cx} {K : PySem.W.Frag} {a : Addr} {cls : Value} {d : Option Addr} {e : Expr} {te : TE} {pos : Pos} {n : Str} (p : PinAt X a cls d) (he : PE X e te) (hK : X.K = K := by rfl) (hb : attributeBase e n X.env (eval e X.env) = eval e X.env := by rfl) :
    PE X (.Attribute e n pos) (tXfG K a cls d n te) := by
  subst hK
  refine ⟨fun pins s σ H Q I h => attr_of hb (thn (he.run pins s σ H _ I h) fun u s1 hh => ?_)⟩
  obtain ⟨x, H1, I1, rx, rfl, C, dd, fs, v, rfl, xc, no, rfl, ea, lk, q⟩ := hh
  cases (show u = Value.ref a from rx)
  obtain ⟨oe, hm, h1, h2, fv, hv⟩ := p.ex
  have hget := (I1.pin (a, oe) (List.mem_append_left _ hm)).1
  obtain ⟨mA, hns, hr⟩ := (I1.hok dd _ ea : ObjOk X.prog X.w H1 s1.heap dd (.xd fs))
  obtain ⟨od, ho, hl⟩ := lookIn_ns hns
  obtain ⟨w, hw, rw⟩ := RelO.some_of (v := v) (o := mA n) (by rw [← lk]; exact hr n)
  have J : PySem.W.InstAt s1.heap a oe C (some od) := ⟨hget, h1, by unfold PySem.W.notCls; rw [hv] <;> rfl, by rw [h2]; exact ho⟩
  exact HandSPX.exc_get I1.kIn J xc.ga xc.gg xc.exC (PySem.W.findObj_own xc.hdC no rfl (by rw [hl, hw])) (handed_of rw) ⟨v, H1, I1.tok _, rw, q⟩
/-! ### the same by data -/
def exnAt (ρ : DEnv) (i : Nat) (a : Addr) (d : Option Addr) (k : Exn → Prop) : Prop := match ρ[i]? with
  | some (some (.exn a' d' x)) => a' = a ∧ d' = d ∧ k x
  | _ => False
theorem XRep.xd {K : PySem.W.Frag} {Hr : Hp} {d : Option Addr} {x : Exn} (h : XRep K Hr d x) {H : Hp} (e : Same Hr H) : ∀ dd, d = some dd → ∃ fs, H dd = some (.xd fs) := fun dd z => by
  unfold XRep at h
  split at h
  · rw [h] at z
    cases z
  · obtain ⟨a, fvs, h1, h2, _⟩ := h
    rw [h1] at z
    cases z
    exact ⟨_, e _ _ h2⟩
section
variable {K : PySem.W.Frag} {W : WXT}
/-- the same, of an exception that may have stood at the entry -/
def excAt (ρ : DEnv) (i : Nat) (a : Addr) (d : Option Addr) (k : Exn → Prop) : Prop := match ρ[i]? with
  | some (some (.exn a' d' x)) => a' = a ∧ d' = d ∧ k x
  | some (some (.exo a' d' x)) => a' = a ∧ d' = d ∧ k x
  | _ => False
theorem excAt_of {F : Fr} {σ : L2.St} {ρ : DEnv} {H : Hp} {i : Nat} {a : Addr} {d : Option Addr} {k : Exn → Prop} (E : Env F σ ρ H) (h : excAt ρ i a d k) : ∃ x, k x ∧ σ[i]? = some (some (.ref a)) ∧ ∃ r, XRep F.K (F.RH (OwnA σ ρ) H r) d x := by
  unfold excAt at h
  split at h
  · rename_i a' d' x e
    obtain ⟨rfl, rfl, hk⟩ := h
    obtain ⟨g1, g2⟩ := E.raw i _ e
    exact ⟨x, hk, g1, true, g2⟩
  · rename_i a' d' x e
    obtain ⟨rfl, rfl, hk⟩ := h
    obtain ⟨g1, g2⟩ := E.raw i _ e
    exact ⟨x, hk, g1, false, g2⟩
  · exact h.elim
def dIsX (K : PySem.W.Frag) (cls : Value) (d : Option Addr) (a : Addr) (i : Nat) (v : Value) : DW := fun _ ρ R => excAt ρ i a d fun x => cls = .ref (He.ga K x.c) ∧ XcC K (He.ga K x.c) ∧ ∃ b, PySem.W.kitOne K (.ref (He.ga K x.c)) v = some b ∧ R (.v true (.bl b)) ρ
theorem exnAt_of {F : Fr} {σ : L2.St} {ρ : DEnv} {H : Hp} {i : Nat} {a : Addr} {d : Option Addr} {k : Exn → Prop} (E : Env F σ ρ H) (h : exnAt ρ i a d k) : ∃ x, k x ∧ σ[i]? = some (some (.ref a)) ∧ XRep F.K (F.RH (OwnA σ ρ) H true) d x := by
  unfold exnAt at h
  split at h
  · rename_i a' d' x e
    obtain ⟨rfl, rfl, hk⟩ := h
    obtain ⟨g1, g2⟩ := E.raw i _ e
    exact ⟨x, hk, g1, g2⟩
  · exact h.elim
instance {cls : Value} {d : Option Addr} {a : Addr} {i : Nat} {C : Addr} : DE K W (tCB (rIsX K cls d a) (tCons (tVar i) (tCons (tC (.ref C)) tNil))) (dIsX K cls d a i (.ref C)) where
  ok := fun {F σ H ρ X R Q} hK E L h q => by
    subst hK
    obtain ⟨x, ⟨ec, xc, b, hb, hR⟩, g1, _, g2⟩ := excAt_of E h
    exact ⟨_, g1, _, _, _, _, ec, xc, g2.xd rh_le, rfl, (fun u r => r), by rw [ec]; exact hb, q _ ρ _ H hR E (.refl _ _) (.bl b)⟩
instance {cls : Value} {d : Option Addr} {a : Addr} {i : Nat} {t : String} : DE K W (tCB (rIsX K cls d a) (tCons (tVar i) (tCons (tC (.ty t)) tNil))) (dIsX K cls d a i (.type t)) where
  ok := fun {F σ H ρ X R Q} hK E L h q => by
    subst hK
    obtain ⟨x, ⟨ec, xc, b, hb, hR⟩, g1, _, g2⟩ := excAt_of E h
    exact ⟨_, g1, _, _, _, _, ec, xc, g2.xd rh_le, rfl, (fun u r => r), by rw [ec]; exact hb, q _ ρ _ H hR E (.refl _ _) (.bl b)⟩
/-- a tuple of classes -/
class DCs (t : TA) (cs : outParam (List Addr)) : Prop where
  ok : ∀ (σ : L2.St) (H : Hp) (Q : List V → Hp → Prop), Q (cs.map V.ref) H → t σ H Q
instance : DCs tNil [] where
  ok := fun _ _ _ h => h
instance {C : Addr} {t : TA} {cs : List Addr} [B : DCs t cs] : DCs (tCons (tC (.ref C)) t) (C :: cs) where
  ok := fun σ H Q h => B.ok σ H _ h
def kitsOf (K : PySem.W.Frag) (t : Value) : List Addr → List Bool → Prop
  | [], [] => True
  | c :: cs, b :: bs => PySem.W.kitOne K t (.ref c) = some b ∧ kitsOf K t cs bs
  | _, _ => False
theorem kits_any {K : PySem.W.Frag} {t : Value} : ∀ {cs : List Addr} {bs : List Bool}, kitsOf K t cs bs → PySem.W.kitAny K t (cs.map Value.ref) = some (bs.any id)
  | [], [], _ => rfl
  | c :: cs, b :: bs, h => by
    have := kits_any h.2
    rw [List.map_cons, List.any_cons]
    unfold PySem.W.kitAny
    rw [h.1]
    cases b with
    | true => rfl
    | false => exact this
  | [], _ :: _, h => h.elim
  | _ :: _, [], h => h.elim
def dIsXT (K : PySem.W.Frag) (cls : Value) (d : Option Addr) (a : Addr) (i : Nat) (cs : List Addr) : DW := fun _ ρ R => excAt ρ i a d fun x => cs.length ≤ sizeLine ∧ cls = .ref (He.ga K x.c) ∧ XcC K (He.ga K x.c) ∧ ∃ bs, kitsOf K (.ref (He.ga K x.c)) cs bs ∧ R (.v true (.bl (bs.any id))) ρ
theorem cs_paired : ∀ cs : List Addr, Paired (fun (c : V) (u : Value) => ∀ v, RelV c v → v = u) (cs.map V.ref) (cs.map Value.ref)
  | [] => .nil
  | c :: cs => .cons (fun _ r => r) (cs_paired cs)
instance {cls : Value} {d : Option Addr} {a : Addr} {i : Nat} {t : TA} {cs : List Addr} [B : DCs t cs] : DE K W (tCB (rIsXT K cls d a) (tCons (tVar i) (tCons (tTup t) tNil))) (dIsXT K cls d a i cs) where
  ok := fun {F σ H ρ X R Q} hK E L h q => by
    subst hK
    obtain ⟨x, ⟨hl, ec, xc, bs, hb, hR⟩, g1, _, g2⟩ := excAt_of E h
    refine ⟨_, g1, B.ok σ H _ ⟨?_, fun tp np => ?_⟩⟩
    · rw [List.length_map]
      exact hl
    have sm : Same H (upd H tp (.tup (cs.map V.ref))) := same_new np
    refine ⟨_, tp, _, _, _, ec, xc, fun dd z => ?_, rfl, upd_same, cs_paired cs, by rw [ec]; exact kits_any hb, q _ ρ _ _ hR (E.grow sm) (.same sm) (.bl _)⟩
    obtain ⟨fs, hfs⟩ := g2.xd rh_le dd z
    exact ⟨fs, sm _ _ hfs⟩
def dXf (K : PySem.W.Frag) (a : Addr) (cls : Value) (d : Option Addr) (f : Str) (i : Nat) : DW := fun _ ρ R => exnAt ρ i a d fun x => cls = .ref (He.ga K x.c) ∧ FldC K x.c f ∧ match x.fs.lookup f with
  | some v => R (.v true v) ρ
  | none => False
instance {cls : Value} {d : Option Addr} {a : Addr} {f : Str} {i : Nat} : DE K W (tXfG K a cls d f (tVar i)) (dXf K a cls d f i) where
  ok := fun {F σ H ρ X R Q} hK E L h q => by
    subst hK
    obtain ⟨x, ⟨ec, fc, hR⟩, g1, g2⟩ := exnAt_of E h
    refine ⟨_, g1, rfl, ?_⟩
    split at hR
    · rename_i v hv
      unfold XRep at g2
      split at g2
      · rename_i z
        rw [z] at hv
        cases hv
      · rename_i fs
        obtain ⟨dd, fvs, rfl, h2, h3, h4⟩ := g2
        obtain ⟨u, k1, k2⟩ := look_rep h3 h4 hv
        exact ⟨_, dd, fvs, u, ec, fc.xc, fc.no, rfl, rh_le _ _ h2, k1, q _ ρ _ H hR E (.refl _ _) k2⟩
    · exact hR.elim
end
/-! ### try, by data -/
structure DCl where
  c : Str
  i : Option Nat
  w : Addr → Value → Option Addr → DSW
def dEndsAt (i : Nat) (E : DEnds) : DEnds := { nx := fun ρ => noPotB ρ i = true ∧ E.nx (ρ.set i none), rt := E.rt, bk := fun ρ => noPotB ρ i = true ∧ E.bk (ρ.set i none), ct := fun ρ => noPotB ρ i = true ∧ E.ct (ρ.set i none) }
def DCl.go (K : PySem.W.Frag) (l : DCl) (E : DEnds) (x : Exn) (ρ : DEnv) : Prop := match l.i with
  | none => ∀ a d, l.w a (.ref (He.ga K x.c)) d noX E ρ
  | some i => noPotB ρ i = true ∧ ∀ a d, l.w a (.ref (He.ga K x.c)) d noX (dEndsAt i E) (ρ.set i (some (.exn a d x)))
def dCls (K : PySem.W.Frag) (X : XC) (E : DEnds) (x : Exn) (ρ : DEnv) : List DCl → Prop
  | [] => X x ρ
  | l :: ls => ∃ b, PySem.W.exmOne K (.ref (He.ga K x.c)) (.ref (He.ga K l.c)) = some b ∧ ifC b (l.go K E x ρ) (dCls K X E x ρ ls)
def dTry (K : PySem.W.Frag) (ls : List DCl) (tb : DSW) : DSW := fun X E ρ => tb (fun x ρ1 => dCls K X E x ρ1 ls) E ρ
class DCL (K : PySem.W.Frag) (ls : List Cl) (ds : outParam (List DCl)) : Prop where
  ok : ∀ {F : Fr} {σ0 : L2.St} {H0 : Hp} {ρ0 : DEnv} {X : XC} {E : DEnds} {Dn : Ends} {W : WXT}, F.K = K → Env F σ0 ρ0 H0 → XLink F W X σ0 ρ0 H0 →
    (∀ ρ' σ' H', E.nx ρ' → Env F σ' ρ' H' → Stp (OwnA σ0 ρ0) H0 (OwnA σ' ρ') H' → Dn.nx σ' H') →
    (∀ ρ' σ' H', E.bk ρ' → Env F σ' ρ' H' → Stp (OwnA σ0 ρ0) H0 (OwnA σ' ρ') H' → Dn.bk σ' H') →
    (∀ ρ' σ' H', E.ct ρ' → Env F σ' ρ' H' → Stp (OwnA σ0 ρ0) H0 (OwnA σ' ρ') H' → Dn.ct σ' H') →
    (∀ d ρ' σ' v H', E.rt d ρ' → Env F σ' ρ' H' → Stp (OwnA σ0 ρ0) H0 (OwnA σ' ρ') H' → Rep F.K (F.RH (OwnA σ' ρ') H' true) v d → Dn.rt v H') → XLink F (wCls K W Dn ls) (fun x ρ1 => dCls K X E x ρ1 ds) σ0 ρ0 H0
instance {K : PySem.W.Frag} : DCL K [] [] where
  ok := fun hK En L _ _ _ _ => L
instance {K : PySem.W.Frag} {c : Str} {ts : Addr → Value → Option Addr → TS} {w : Addr → Value → Option Addr → DSW} {ls : List Cl} {ds : List DCl} [A : ∀ a cls d, DS K (fun _ _ _ _ => False) (ts a cls d) (w a cls d)] [B : DCL K ls ds] : DCL K (⟨.ref (He.ga K c), none, ts⟩ :: ls) (⟨c, none, w⟩ :: ds) where
  ok := fun {F σ0 H0 ρ0 X E Dn W} hK En L nx bk ct rt x ρ' σ' dd H' hx E' s' r' => by
    subst hK
    obtain ⟨b, eb, hx⟩ := hx
    refine ⟨b, eb, fun z a na => ?_, fun z => ?_⟩
    · subst z
      exact (A a _ dd).ok rfl E' XLink.no (hx.t a dd) (fun ρ2 σ2 H2 h2 E2 s2 => nx ρ2 σ2 H2 h2 E2 (s'.trans s2)) (fun ρ2 σ2 H2 h2 E2 s2 => bk ρ2 σ2 H2 h2 E2 (s'.trans s2)) (fun ρ2 σ2 H2 h2 E2 s2 => ct ρ2 σ2 H2 h2 E2 (s'.trans s2)) fun d ρ2 σ2 v H2 h2 E2 s2 r2 => rt d ρ2 σ2 v H2 h2 E2 (s'.trans s2) r2
    · subst z
      exact B.ok rfl En L nx bk ct rt x ρ' σ' dd H' hx.f E' s' r'
theorem Env.setExn {F : Fr} {σ : L2.St} {ρ : DEnv} {H : Hp} {i : Nat} {a : Addr} {d : Option Addr} {x : Exn} (E : Env F σ ρ H) (hp : noPot ρ i) (h : XRep F.K (F.RH (OwnA σ ρ) H true) d x) :
    Env F (σ.set i (some (.ref a))) (ρ.set i (some (.exn a d x))) H ∧ Stp (OwnA σ ρ) H (OwnA (σ.set i (some (.ref a))) (ρ.set i (some (.exn a d x)))) H :=
  E.setN hp (fun _ _ z => by cases z) (fun r' d' z => by cases z) fun u z => by
    cases z
    exact ⟨rfl, h⟩
instance {K : PySem.W.Frag} {c : Str} {i : Nat} {ts : Addr → Value → Option Addr → TS} {w : Addr → Value → Option Addr → DSW} {ls : List Cl} {ds : List DCl} [A : ∀ a cls d, DS K (fun _ _ _ _ => False) (ts a cls d) (w a cls d)] [B : DCL K ls ds] : DCL K (⟨.ref (He.ga K c), some i, ts⟩ :: ls) (⟨c, some i, w⟩ :: ds) where
  ok := fun {F σ0 H0 ρ0 X E Dn W} hK En L nx bk ct rt x ρ' σ' dd H' hx E' s' r' => by
    subst hK
    obtain ⟨b, eb, hx⟩ := hx
    refine ⟨b, eb, fun z a na => ?_, fun z => ?_⟩
    · subst z
      obtain ⟨np, hx⟩ : noPotB ρ' i = true ∧ ∀ a d, w a (.ref (He.ga F.K x.c)) d noX (dEndsAt i E) (ρ'.set i (some (.exn a d x))) := hx.t
      obtain ⟨E1, s1⟩ := E'.setExn (a := a) (noPot_of np) r'
      have s01 := s'.trans s1
      refine (A a _ dd).ok rfl E1 XLink.no (hx a dd) (fun ρ2 σ2 H2 h2 E2 s2 => ?_) (fun ρ2 σ2 H2 h2 E2 s2 => ?_) (fun ρ2 σ2 H2 h2 E2 s2 => ?_) fun d ρ2 σ2 v H2 h2 E2 s2 r2 => rt d ρ2 σ2 v H2 h2 E2 (s01.trans s2) r2
      · obtain ⟨E3, s3⟩ := E2.setNo (i := i) (noPot_of h2.1)
        exact nx _ _ H2 h2.2 E3 ((s01.trans s2).trans s3)
      · obtain ⟨E3, s3⟩ := E2.setNo (i := i) (noPot_of h2.1)
        exact bk _ _ H2 h2.2 E3 ((s01.trans s2).trans s3)
      · obtain ⟨E3, s3⟩ := E2.setNo (i := i) (noPot_of h2.1)
        exact ct _ _ H2 h2.2 E3 ((s01.trans s2).trans s3)
    · subst z
      exact B.ok rfl En L nx bk ct rt x ρ' σ' dd H' hx.f E' s' r'
instance {K : PySem.W.Frag} {W : WXT} {tb : WX → TS} {wb : DSW} {ls : List Cl} {ds : List DCl} [A : ∀ V : WXT, DS K V (tb V) wb] [B : DCL K ls ds] : DS K W (tTryG K tb W ls) (dTry K ds wb) where
  ok := fun {F σ H ρ X E Dn} hK En L h nx bk ct rt => (A _).ok hK En (B.ok hK En L nx bk ct rt) h nx bk ct rt
theorem ps_tryGK {X : Cx} {K : PySem.W.Frag} {body : List Stmt} {hd0 : ExceptHandler} {hds : List ExceptHandler} {ls : List Cl} {pos : Pos} {tb : WX → TS} {Wo : WX} (hst : X.stack = X.env :: X.outer) (hfm : X.env.frame = some X.env.locals) (out : L2N.Takes X Wo)
    (inner : ∀ (V : WX) (pn : List (Addr × Obj)) (xq : Value → Shared → Prop), L2N.Takes (X.tr pn xq) V → PassesOwn (model X.prog X.w) X.A X.env xq → PSs (X.tr pn xq) body (tb V))
    (cl : ClsOk' X (hd0 :: hds) ls) (hK : X.K = K := by rfl) : PS X (.Try body (hd0 :: hds) [] [] pos) (tTryG K tb Wo ls) := by
  subst hK
  exact ps_tryG hst hfm out inner cl
end PW

namespace PW
open PySem PySem.Spec PyProof.Rows L2
/-! ### methods of texts -/
def isTx : Option (Bool × D) → Prop
  | some (_, .str _) => True
  | _ => False
def dM1 (wm : DMW) (wo we : DW) : DW := fun X ρ R => wo X ρ fun x ρ1 => isTx (rd ρ1 x) ∧ we X ρ1 fun y ρ2 => wm x.tmp [y.tmp] ρ2 R
def dM0 (wm : DMW) (wo : DW) : DW := fun X ρ R => wo X ρ fun x ρ1 => isTx (rd ρ1 x) ∧ wm x.tmp [] ρ1 R
theorem isTx_v {F : Fr} {Hs : Hp} {σ : L2.St} {ρ : DEnv} {H : Hp} {v : V} {dv : DV} (E : Env F σ ρ H) (h : RepV F Hs σ ρ H v dv) (e : isTx (rd ρ dv)) : ∃ a, v = .str a := by
  unfold isTx at e
  split at e
  · rename_i q
    exact ⟨_, h.top E q⟩
  · exact e.elim
section
variable {K : PySem.W.Frag} {W : WXT}
instance {r : V → List V → Hp → VK → Prop} {wm : DMW} {to te : TE} {wo we : DW} [A : DE K W to wo] [B : DE K W te we] [C : DM K r wm] : DE K W (tM1 r to te) (dM1 wm wo we) where
  ok := fun {F σ H ρ X R Q} hK E L h q => by
    subst hK
    refine A.ok rfl E L h fun x ρ1 v H1 h1 E1 s1 r1 => ?_
    obtain ⟨h1, h2⟩ := h1
    refine ⟨isTx_v E1 r1 h1, ?_⟩
    refine B.ok rfl E1 (L.stp s1) h2 fun y ρ2 u H2 h3 E2 s2 r2 => ?_
    exact C.ok rfl E2 (r1.stp E1 s2) (dCons_tmp (.cons r2 .nil)) h3 fun dv ρ3 z H3 h4 E3 s3 r3 => q dv ρ3 z H3 h4 E3 ((s1.trans s2).trans s3) (r3.early (s1.trans s2))
instance {r : V → List V → Hp → VK → Prop} {wm : DMW} {to : TE} {wo : DW} [A : DE K W to wo] [C : DM K r wm] : DE K W (tM0 r to) (dM0 wm wo) where
  ok := fun {F σ H ρ X R Q} hK E L h q => by
    subst hK
    refine A.ok rfl E L h fun x ρ1 v H1 h1 E1 s1 r1 => ?_
    obtain ⟨h1, h2⟩ := h1
    refine ⟨isTx_v E1 r1 h1, ?_⟩
    exact C.ok (Hs := H) rfl E1 (r1.stp E1 (.refl _ _)) .nil h2 fun dv ρ3 z H3 h4 E3 s3 r3 => q dv ρ3 z H3 h4 E3 (s1.trans s3) (r3.early s1)
end
def rJoinG (K : PySem.W.Frag) : V → List V → Hp → VK → Prop := fun x xs H Q => ∃ a p, ∃ ys : List Str, x = .str a ∧ xs = [.ref p] ∧ (SqL K H p (ys.map V.str) ∨ SqT K H p (ys.map V.str)) ∧
    (ys.map (·.length)).sum + ys.length * a.length ≤ 16777216 ∧ Q (.str (Txt.join a ys)) H
def rSplit : V → List V → Hp → VK → Prop := fun x xs H Q => ∃ a b, x = .str a ∧ xs = [.str b] ∧ (b.length == 0) = false ∧ a.length + 2 ≤ sizeLine ∧ rNewStrs (Txt.split a b) H Q
section
variable {X : Cx} {o e : Expr} {to te : TE}
theorem pe_joinD {K : PySem.W.Frag} {apos pos : Pos} (ho : PE X o to) (he : PE X e te) (hK : X.K = K := by rfl) (hs : starEach [e] X.env = [(false, eval e X.env)] := by rfl) (hbase : attributeBase o "join" X.env (eval o X.env) = eval o X.env := by rfl) (hline : (apos.endLine == pos.line) = true := by rfl) :
    PE X (.Call (.Attribute o "join" apos) [e] [] pos) (tM1 (rJoinG K) to te) := by
  subst hK
  exact pe_join ho he hs hbase hline
theorem pe_splitD {apos pos : Pos} (ho : PE X o to) (he : PE X e te) (hs : starEach [e] X.env = [(false, eval e X.env)] := by rfl) (hbase : attributeBase o "split" X.env (eval o X.env) = eval o X.env := by rfl) (hline : (apos.endLine == pos.line) = true := by rfl) :
    PE X (.Call (.Attribute o "split" apos) [e] [] pos) (tM1 rSplit to te) := pe_split ho he hs hbase hline
end
@[irreducible] def joinC (a : Str) (ns : List Str) : Str := Txt.join a ns
@[irreducible] def splitC (a b : Str) : List Str := Txt.split a b
def dJoin : DMW := fun x ys ρ R => match rd ρ x, ys with
  | some (_, .str a), [y] => match rd ρ y with
    | some (_, .lst ds) => ∃ ns, strsOf ds = some ns ∧ (ns.map (·.length)).sum + ns.length * a.length ≤ 16777216 ∧ R (.v true (.str (joinC a ns))) ρ
    | some (_, .tup ds) => ∃ ns, strsOf ds = some ns ∧ (ns.map (·.length)).sum + ns.length * a.length ≤ 16777216 ∧ R (.v true (.str (joinC a ns))) ρ
    | _ => False
  | _, _ => False
def dSplit : DMW := fun x ys ρ R => match rd ρ x, ys with
  | some (_, .str a), [y] => match rd ρ y with
    | some (_, .str b) => (b.length == 0) = false ∧ a.length + 2 ≤ sizeLine ∧ (splitC a b).length ≤ sizeLine ∧ R (.fr true (.lst ((splitC a b).map D.str))) ρ
    | _ => False
  | _, _ => False
theorem rep_texts {K : PySem.W.Frag} {H : Hp} : ∀ ns : List Str, RepL K H (ns.map V.str) (ns.map D.str)
  | [] => .nil
  | _ :: ns => .cons (.str _) (rep_texts ns)
section
variable {K : PySem.W.Frag}
instance : DM K (rJoinG K) dJoin where
  ok := fun {F Hs σ H ρ x ys dx dys R Q} hK E hx hy h q => by
    subst hK
    unfold dJoin at h
    split at h
    · rename_i a y ex
      cases (show x = .str a from hx.top E ex)
      obtain ⟨u, rfl, hu, _⟩ := paired1 hy
      have ej : ∀ ns, joinC a ns = Txt.join a ns := fun ns => by
        unfold joinC
        rfl
      split at h
      · rename_i ds ey
        obtain ⟨ns, hn, hl, h⟩ := h
        obtain ⟨p, vs, rfl, g1, g2⟩ := hu.top E ey
        rw [strsOf_v g2 hn] at g1
        rw [ej] at h
        exact ⟨a, p, ns, rfl, rfl, .inl (SqL.of g1), hl, q _ _ _ _ h E (.refl _ _) (.str _)⟩
      · rename_i ds ey
        obtain ⟨ns, hn, hl, h⟩ := h
        obtain ⟨p, vs, rfl, g1, g2⟩ := hu.top E ey
        rw [strsOf_v g2 hn] at g1
        rw [ej] at h
        exact ⟨a, p, ns, rfl, rfl, .inr (SqT.of g1), hl, q _ _ _ _ h E (.refl _ _) (.str _)⟩
      · exact h.elim
    · exact h.elim
instance : DM K rSplit dSplit where
  ok := fun {F Hs σ H ρ x ys dx dys R Q} hK E hx hy h q => by
    subst hK
    unfold dSplit at h
    split at h
    · rename_i a y ex
      cases (show x = .str a from hx.top E ex)
      obtain ⟨u, rfl, hu, _⟩ := paired1 hy
      split at h
      · rename_i b ey
        cases (show u = .str b from hu.top E ey)
        obtain ⟨h1, h2, h3, h⟩ := h
        have es : splitC a b = Txt.split a b := by
          unfold splitC
          rfl
        rw [es] at h h3
        refine ⟨a, b, rfl, rfl, h1, h2, fun c hc => q _ _ _ _ h (E.grow (same_new hc)) (.same (same_new hc)) (fresh_of E hc rfl ⟨_, rfl, rep_texts _⟩)⟩
      · exact h.elim
    · exact h.elim
end
/-! ### xs[::-1] -/
theorem pe_revD {X : Cx} {K : PySem.W.Frag} {e : Expr} {te : TE} {k : Nat} {p1 p2 p3 pos : Pos} (he : PE X e te) (hK : X.K = K := by rfl) : PE X (.Subscript e (.Slice none none (some (.UnaryOp .USub (.Constant (.int 1) k p1) p2)) p3) pos) (tRevL K te) := by
  subst hK
  exact pe_revL he
/-! ### list(range(..)) -/
def rgD (a b : Int) : List D := (List.range (b - a).toNat).map fun (i : Nat) => D.int (a + i)
theorem rep_ints {K : PySem.W.Frag} {H : Hp} {α : Type} (f : α → Int) : ∀ xs : List α, RepL K H (xs.map fun x => V.int (f x)) (xs.map fun x => D.int (f x))
  | [] => .nil
  | _ :: xs => .cons (.int _) (rep_ints f xs)
def dLstRg1 (w : DW) : DW := fun X ρ R => w X ρ fun x ρ1 => match rd ρ1 x with
  | some (_, .int n) => RgOk 0 n ∧ R (.fr true (.lst (rgD 0 n))) ρ1
  | _ => False
instance {K : PySem.W.Frag} {W : WXT} {t : TE} {w : DW} [A : DE K W t w] : DE K W (tLstRg (tRg1 t)) (dLstRg1 w) where
  ok := fun {F σ H ρ X R Q} hK E L h q => A.ok hK E L h fun x ρ1 v H1 h1 E1 s1 r1 => by
    subst hK
    split at h1
    · rename_i r n e
      cases (show v = .int n from r1.top E1 e)
      refine ⟨n, rfl, h1.1, fun c hc => q _ ρ1 _ _ h1.2 (E1.grow (same_new hc)) (s1.trans (.same (same_new hc))) (RepV.early (fresh_of (d := .lst (rgD 0 n)) E1 hc rfl ⟨_, rfl, rep_ints _ _⟩) s1)⟩
    · exact h1.elim
end PW

namespace PW
open PySem PySem.Spec PyProof.Rows L2
/-! ### a comprehension over a slot's own list: the list stays the slot's own -/
def isOw (i : Nat) (r : Bool) (ds : List D) (ρ : DEnv) : Prop := match ρ[i]? with
  | some (some (.ow r' (.lst es))) => r' = r ∧ es = ds
  | _ => False
theorem isOw_eq {i : Nat} {r : Bool} {ds : List D} {ρ : DEnv} (h : isOw i r ds ρ) : ρ[i]? = some (some (.ow r (.lst ds))) := by
  unfold isOw at h
  split at h
  · rename_i e
    rw [e, h.1, h.2]
  · exact h.elim
theorem isOw_of {i : Nat} {r : Bool} {ds : List D} {ρ : DEnv} (h : ρ[i]? = some (some (.ow r (.lst ds)))) : isOw i r ds ρ := by
  unfold isOw
  rw [h]
  exact ⟨rfl, rfl⟩
def notAl : DV → Bool
  | .al _ => false
  | _ => true
def dLcV (i : Nat) (g : DGW) (sl : List Nat) (tt : DTW) (te : DW) (vs : List Nat) : DW := fun X ρ R => match ρ[i]? with
  | some (some (.ow r (.lst ds))) => sl.all (vs.contains ·) = true ∧ vs.contains i = false ∧ noOwn ρ vs = true ∧ noPots ρ vs = true ∧ ds.length ≤ sizeLine ∧
    lcC g (fun X ρ R => tt X ρ fun b ρ' => isOw i r ds ρ' ∧ R b ρ') (fun X ρ R => te X ρ fun y ρ' => isOw i r ds ρ' ∧ notAl y = true ∧ R y ρ') vs (fun ra acc ρ' => noPots ρ' vs = true ∧ R (.fr ra (.lst acc)) (unw ρ' ρ vs)) (ds.map fun d => (r, d)) (wipeD ρ vs)
  | _ => dLc (dIterG (dVar i)) g sl tt te vs X ρ R
section
variable {K : PySem.W.Frag} {W : WXT}
theorem wipeD_ow {ρ : DEnv} {vs : List Nat} {i : Nat} (h : vs.contains i = false) : (wipeD ρ vs)[i]? = ρ[i]? := by
  induction vs with
  | nil => rfl
  | cons v vs ih =>
    rw [List.contains_cons, Bool.or_eq_false_iff] at h
    rw [wipeD, List.getElem?_set_ne (fun z => by rw [z] at h; simp at h), ih h.2]
theorem wipe_ow {σ : L2.St} {vs : List Nat} {i : Nat} (h : vs.contains i = false) : (wipe σ vs)[i]? = σ[i]? := by
  rw [wipe_at, if_neg fun z => ?_]
  rw [List.contains_iff_mem.mpr z.1] at h
  cases h
instance (priority := high) {i : Nat} {g : TG} {wg : DGW} {sl : List Nat} {tt : TT} {wt : DTW} {te : TE} {we : DW} {vs : List Nat} [B : DG K g wg sl] [C : DT K W tt wt] [D' : DE K W te we] : DE K W (tLc (iG K (tVar i)) g tt te vs) (dLcV i wg sl wt we vs) where
  ok := fun {F σ H ρ X R Q} hK E L h q => by
    unfold dLcV at h
    split at h
    · rename_i r ds hi0
      obtain ⟨hsl, hiv, hno, hnp, hsz, h1⟩ := h
      obtain ⟨b, hb, ⟨bvs, hbl, hbr⟩, _⟩ := E.ow i _ _ hi0
      subst hK
      refine ⟨_, hb, .inl ⟨b, rfl, ⟨_, SqL.of hbl⟩, ?_⟩⟩
      rw [lcC_eq] at h1
      intro a ha
      obtain ⟨n0, nh, nO, npt⟩ := E.new ha
      have Eh : PW.Env (F.hide a) σ ρ (upd H a (.lst [])) := E.hideNew ha (same_new ha) ⟨_, upd_same⟩
      obtain ⟨Ew, sw⟩ := Eh.wiped hnp
      have sH1 : Stp (OwnA σ ρ) H (OwnA σ ρ) (upd H a (.lst [])) := .same (same_new ha)
      have hbw : (wipe σ vs)[i]? = some (some (.ref b)) := by rw [wipe_ow hiv]; exact hb
      have own : ∀ {ρ2} {H2 : Hp}, PW.Env (F.hide a) (wipe σ vs) ρ2 H2 → isOw i r ds ρ2 → ∃ bvs, H2 b = some (.lst bvs) ∧ RepL F.K ((F.hide a).RH (OwnA (wipe σ vs) ρ2) H2 r) bvs ds := fun {ρ2 H2} E2 o2 => by
        obtain ⟨b', k1, ⟨w, k2, k3⟩, _⟩ := E2.ow i _ _ (isOw_eq o2)
        rw [hbw] at k1
        cases k1
        exact ⟨w, k2, k3⟩
      have len : (ds.map fun d => (r, d)).length = ds.length := List.length_map ..
      let kk : Bool → List D → DEnv → Prop := fun ra acc ρ' => noPots ρ' vs = true ∧ R (.fr ra (.lst acc)) (unw ρ' ρ vs)
      let wt' : DTW := fun X ρ R => wt X ρ fun b ρ' => isOw i r ds ρ' ∧ R b ρ'
      let we' : DW := fun X ρ R => we X ρ fun y ρ' => isOw i r ds ρ' ∧ notAl y = true ∧ R y ρ'
      refine ⟨fun j m H2 => m = ds.length - j ∧ j ≤ ds.length ∧ ∃ ra acc vacc ρ2, PW.Env (F.hide a) (wipe σ vs) ρ2 H2 ∧ Stp (OwnA σ ρ) H (OwnA (wipe σ vs) ρ2) H2 ∧ isOw i r ds ρ2 ∧ H2 a = some (.lst vacc) ∧ RepL F.K ((F.hide a).RH (OwnA (wipe σ vs) ρ2) H2 ra) vacc acc ∧ acc.length ≤ j ∧
          dLcL wg wt' we' vs kk ((ds.map fun d => (r, d)).drop j) ra acc ρ2,
        ⟨_, rfl, Nat.zero_le _, true, [], [], _, Ew, sH1.trans sw, isOw_of (by rw [wipeD_ow hiv]; exact hi0), upd_same, .nil, Nat.le_refl _, h1⟩, ?_⟩
      rintro j m H2 ⟨rfl, hj, ra, acc, vacc, ρ2, E2, s2, o2, ha2, racc, hal, h2⟩
      obtain ⟨wv, hw1, hw2⟩ := own E2 o2
      by_cases hlt : j < ds.length
      · obtain ⟨xv, hx1, hx2⟩ := hw2.get (List.getElem?_eq_getElem hlt)
        refine .inr ⟨⟨wv, xv, SqL.of hw1, hx1⟩, fun H3 => j + 1 ≤ ds.length ∧ ∃ ra acc vacc ρ2, PW.Env (F.hide a) (wipe σ vs) ρ2 H3 ∧ Stp (OwnA σ ρ) H (OwnA (wipe σ vs) ρ2) H3 ∧ isOw i r ds ρ2 ∧ H3 a = some (.lst vacc) ∧ RepL F.K ((F.hide a).RH (OwnA (wipe σ vs) ρ2) H3 ra) vacc acc ∧ acc.length ≤ j + 1 ∧
            dLcL wg wt' we' vs kk ((ds.map fun d => (r, d)).drop (j + 1)) ra acc ρ2, fun H3 z => ⟨ds.length - (j + 1), by omega, rfl, z⟩, fun x H3 y => ?_⟩
        obtain ⟨rfl, y⟩ := y
        have hx := y _ (SqL.of hw1)
        rw [hx1] at hx
        cases hx
        rw [List.drop_eq_getElem_cons (by rw [len]; exact hlt), List.getElem_map] at h2
        refine B.ok (F := F.hide a) rfl E2 (p := (r, ds[j])) hx2 h2 fun ρ4 σ4 h4 E4 s4 n4 l4 => ?_
        have hw : wipe σ4 vs = wipe σ vs := by
          rw [← wipe_wipe σ vs]
          refine wipe_eq l4 fun j hj => n4 j fun z => hj ?_
          have := List.all_eq_true.mp hsl j z
          simpa using this
        refine ⟨hw, ?_⟩
        have nOwn : ∀ {σ' ρ'} {H' : Hp}, PW.Env (F.hide a) σ' ρ' H' → ¬ OwnA σ' ρ' a := fun {σ' ρ' H'} E' z => E'.ownHid z (.inl rfl)
        refine C.ok (F := F.hide a) rfl E4 XLink.no h4 fun b5 ρ5 H5 h5 E5 s5 => ?_
        obtain ⟨o5, h5⟩ := h5
        have s25 := s4.trans s5
        cases b5 with
        | true =>
          rw [ifC_t] at h5
          rw [if_pos rfl]
          refine D'.ok (F := F.hide a) rfl E5 XLink.no h5 fun yv ρ6 v6 H6 h6 E6 s6 r6 => ?_
          obtain ⟨o6, na6, h6⟩ := h6
          have s26 := s25.trans s6
          have r6' : RepV (F.hide a) H5 σ4 ρ6 H6 v6 yv.tmp := r6.stp E6 (.refl _ _)
          split at h6
          · rename_i ry dy ρ7 e7
            have e76 : ρ7 = ρ6 := by
              cases yv with
              | v r d =>
                cases e7
                rfl
              | fr r d =>
                cases e7
                rfl
              | al j => cases na6
            subst e76
            obtain ⟨E7, s7, p7⟩ := r6'.st E6 e7
            obtain ⟨np7, h7⟩ := h6
            obtain ⟨E8, s8⟩ := E7.wiped np7
            rw [hw] at E8 s8
            have s28 := (s26.trans s7).trans s8
            have ha8 : H6 a = some (.lst vacc) := (s28.kp a _ ha2 (nOwn E2)).1
            have racc8 : RepL F.K ((F.hide a).RH (OwnA (wipe σ vs) (wipeD ρ7 vs)) H6 ra) vacc acc := racc.mono (E2.rh s28)
            have p8 : Rep F.K ((F.hide a).RH (OwnA (wipe σ vs) (wipeD ρ7 vs)) H6 ry) v6 dy := p7.mono (E7.rh s8)
            have nt : ∀ xs, (HO.lst vacc) ≠ .tup xs := fun _ z => by cases z
            refine ⟨vacc, ha8, by rw [racc.len]; omega, hlt, ra && ry, acc ++ [dy], vacc ++ [v6], wipeD ρ7 vs, E8.hidUpd n0 ha8 nt, (s2.trans s28).updNew ha, isOw_of (by rw [wipeD_ow hiv]; exact isOw_eq o6), upd_same, ?_, by rw [List.length_append, List.length_singleton]; omega, h7⟩
            exact (RepL.both (F := F.hide a) racc8 (.one p8)).mono (rh_hid (F := F.hide a) (Or.inl rfl) ha8 nt _)
          · exact h6.elim
        | false =>
          rw [ifC_f] at h5
          rw [if_neg Bool.false_ne_true]
          obtain ⟨np7, h7⟩ := h5
          obtain ⟨E8, s8⟩ := E5.wiped np7
          rw [hw] at E8 s8
          have s28 := s25.trans s8
          have ha8 : H5 a = some (.lst vacc) := (s28.kp a _ ha2 (nOwn E2)).1
          exact ⟨hlt, ra, acc, vacc, wipeD ρ5 vs, E8, s2.trans s28, isOw_of (by rw [wipeD_ow hiv]; exact isOw_eq o5), ha8, racc.mono (E2.rh s28), by omega, h7⟩
      · have e : j = ds.length := by omega
        subst e
        rw [List.drop_of_length_le (by rw [len]; exact Nat.le_refl _)] at h2
        obtain ⟨np2, h2⟩ := h2
        refine .inl ⟨⟨wv, SqL.of hw1, by rw [hw2.len]; exact Nat.le_refl _⟩, ?_⟩
        have upx : ∀ r, Same (F.RH (OwnA σ ρ) H r) ((F.hide a).RH (OwnA (wipe σ vs) ρ2) H2 r) := fun r b o hb => by
          obtain ⟨hb1, hb2⟩ := cut_inv hb
          have hba : b ≠ a := ne_of_none hb1 ha
          rcases Classical.em (F.bad (OwnA σ ρ) r b) with bad | bad
          · rcases hb2 with hb2 | ⟨xs, rfl⟩
            · exact absurd bad hb2
            · exact cut_tup (s2.tup E b xs hb1)
          · obtain ⟨k1, k2⟩ := s2.kp b o hb1 fun z => bad (.inr (.inl z))
            refine cut_of k1 fun z => ?_
            rcases z with (z | z) | z | z
            · exact hba z
            · exact bad (.inl z)
            · exact k2 z
            · exact bad (.inr (.inr z))
        obtain ⟨E9, s9, _⟩ := E2.back (σ0 := σ) (ρ0 := ρ) E.len (fun v r d z => by
          obtain ⟨u, z1, z2⟩ := E.sh v r d z
          exact ⟨u, z1, z2.mono (upx r)⟩) (fun i s hi => (E.raw i s hi).mono upx) np2 hno
        rw [unw_wipe] at E9 s9
        refine q _ _ _ _ h2 E9.unhide (s2.trans s9) ⟨a, rfl, ha, nh, n0, rfl, E9, ?_⟩
        rw [ha2]
        exact ⟨vacc, rfl, racc.mono (E2.rh s9)⟩
    · have A : DE K W (tLc (iG K (tVar i)) g tt te vs) (dLc (dIterG (dVar i)) wg sl wt we vs) := inferInstance
      exact A.ok hK E L h q
end
theorem pi_enumG {X : Cx} {K : PySem.W.Frag} {e : Expr} {ta : TA} {p pos tpos : Pos} {elts : List Expr} {kk : Nat} (hg : Gl X "enumerate") (hm : X.mg "enumerate" = none) (ha : PA X [e] ta) (hK : X.K = K := by rfl) (hs : starEach [e] X.env = [(false, eval e X.env)] := by rfl) :
    PI X (.Tuple elts kk tpos) (.Call (.Name "enumerate" p) [e] [] pos) (iEnum K ta) := by
  subst hK
  exact pi_enum hg hm ha hs
end PW

namespace PW
open PySem PySem.Spec PyProof.Rows L2
/-! ### blocks that are begun anew: what stood then is told from what is new -/
def paS : Option Sl → Option Sl
  | some (.sh r d) => some (.pa r d)
  | some (.pa _ d) => some (.po d)
  | some (.po d) => some (.po d)
  | some (.ow r d) => some (.ow r d)
  | some (.scr ns) => some (.scr ns)
  | _ => none
def unS : Option Sl → Option Sl
  | some (.pa r d) => some (.sh r d)
  | some (.po d) => some (.pa false d)
  | s => s
def rstS : Option Sl → Bool
  | some (.ow _ .pot) => true
  | some (.ow _ _) => false
  | _ => true
def rstB (ρ : DEnv) : Bool := ρ.all rstS
noncomputable def Fr.rst (F : Fr) (O : Addr → Prop) (H : Hp) : Fr := { K := F.K, H0 := H, Hc := F.H0, Hx := cut F.ex F.H0, sc := F.sc, pt := F.pt, px := O, hx := F.hid, hid := F.hid, lk := fun _ => False }
section
variable {F : Fr} {σ σ' : L2.St} {ρ ρ' : DEnv} {H H' : Hp}
theorem paS_ow {i : Nat} {r : Bool} {d : D} : (ρ.map paS)[i]? = some (some (.ow r d)) ↔ ρ[i]? = some (some (.ow r d)) := by
  rw [List.getElem?_map]
  cases ρ[i]? with
  | none => exact ⟨(fun z => by cases z), (fun z => by cases z)⟩
  | some s =>
    cases s with
    | none => exact ⟨(fun z => by cases z), (fun z => by cases z)⟩
    | some s => cases s <;> first | exact Iff.rfl | exact ⟨(fun z => by cases z), (fun z => by cases z)⟩
theorem unS_ow {i : Nat} {r : Bool} {d : D} : (ρ.map unS)[i]? = some (some (.ow r d)) ↔ ρ[i]? = some (some (.ow r d)) := by
  rw [List.getElem?_map]
  cases ρ[i]? with
  | none => exact ⟨(fun z => by cases z), (fun z => by cases z)⟩
  | some s =>
    cases s with
    | none => exact ⟨(fun z => by cases z), (fun z => by cases z)⟩
    | some s => cases s <;> first | exact Iff.rfl | exact ⟨(fun z => by cases z), (fun z => by cases z)⟩
theorem paS_own {i : Nat} {a : Addr} : OwnAt σ (ρ.map paS) i a ↔ OwnAt σ ρ i a := exists_congr fun _ => exists_congr fun _ => and_congr_left fun _ => paS_ow
theorem unS_own {i : Nat} {a : Addr} : OwnAt σ (ρ.map unS) i a ↔ OwnAt σ ρ i a := exists_congr fun _ => exists_congr fun _ => and_congr_left fun _ => unS_ow
theorem paS_ownA {a : Addr} : OwnA σ (ρ.map paS) a ↔ OwnA σ ρ a := exists_congr fun _ => paS_own
theorem unS_ownA {a : Addr} : OwnA σ (ρ.map unS) a ↔ OwnA σ ρ a := exists_congr fun _ => unS_own
theorem rst_pot (ok : rstB ρ = true) {i : Nat} {r : Bool} {d : D} (h : ρ[i]? = some (some (.ow r d))) : d = .pot := by
  have := List.all_eq_true.mp ok _ (List.mem_of_getElem? h)
  cases d <;> first | rfl | cases this
/-- what stood at the entry and is not lent is no slot's own -/
theorem Env.notOwn (E : Env F σ ρ H) {a : Addr} {o : HO} (h : F.H0 a = some o) (n1 : F.pt ≠ some a) (n2 : ¬ F.px a) : ¬ OwnA σ ρ a := fun ⟨i, r1, d1, z1, z2⟩ => by
  rcases z2 with z2 | z2
  · obtain ⟨c, g1, _, _, g4⟩ := E.ow i r1 d1 z1
    rw [z2] at g1
    cases g1
    rcases g4 with y | y | y
    · rw [h] at y
      cases y
    · exact n1 y
    · exact n2 y.1
  · rcases (E.xt i r1 d1 a z1 z2).2 with y | y | y
    · rw [h] at y
      cases y
    · exact n2 y
    · exact n1 y
theorem Env.ptOwn (E : Env F σ ρ H) {a : Addr} (h : F.pt = some a) : OwnA σ ρ a := by
  obtain ⟨r, d, h1, _, h2⟩ := E.pt a h
  exact ⟨0, r, d, h1, .inl h2⟩
theorem Env.restart (E : Env F σ ρ H) (ok : rstB ρ = true) : Env (F.rst (OwnA σ ρ) H) σ (ρ.map paS) H := by
  have kp : ∀ a o, F.H0 a = some o → ¬ F.ex a → H a = some o := fun a o h n => (E.keep a o h (fun z => n (.inl z)) (fun z => n (.inr (.inl z)))).resolve_right fun z => n (.inr (.inr (.inl z.1)))
  have shp : ∀ {r : Bool} {v : V} {d : D}, Rep F.K (F.RH (OwnA σ ρ) H r) v d → PaAt (F.rst (OwnA σ ρ) H) (some r) v d := fun {r v d} h => by
    refine Rep.mono (cut_mono (fun b o hb nb => ⟨hb, fun z => ?_⟩) fun b xs hb _ => hb) h
    rcases z with (z | z | z | z) | z
    · exact nb (.inr (.inl (E.ptOwn z)))
    · exact nb (.inr (.inl z))
    · exact z
    · exact nb (.inl z)
    · exact nb (.inr (.inr z))
  have pap : ∀ {r : Bool} {v : V} {d : D}, PaAt F (some r) v d → PaAt (F.rst (OwnA σ ρ) H) none v d := fun {r v d} h => by
    refine Rep.mono (cut_mono (fun b o hb nb => ⟨cut_of hb fun z => nb (.inl z), fun z => ?_⟩) fun b xs hb _ => cut_tup hb) h
    have ne : ¬ F.ex b := fun z => nb (.inl z)
    rcases z with z | z | z | z
    · exact ne (.inl z)
    · exact E.notOwn hb (fun z => ne (.inl z)) (fun z => ne (.inr (.inl z))) z
    · exact z
    · rcases (E.hidIn b z).2 with y | y | y
      · rw [hb] at y
        cases y
      · exact ne (.inr (.inl y))
      · exact ne (.inr (.inr (.inr y)))
  refine ⟨?_, fun a o h _ _ => .inl h, fun i r d h => ?_, fun i r d h => ?_, fun i j a h g => E.inj i j a (paS_own.mp h) (paS_own.mp g), fun a h => ?_, fun a h => ⟨(E.hidIn a h).1, .inr (.inr h)⟩, fun i r d h => E.xo i r d (paS_ow.mp h), fun i r d b h hb => ?_, fun a h => ?_, fun a xs h => h, fun a o h n => ?_, fun a xs h => ?_, fun a ns h => ?_, fun i s h => ?_⟩
  · rw [List.length_map]
    exact E.len
  · rw [List.getElem?_map] at h
    cases e : ρ[i]? with
    | none =>
      rw [e] at h
      cases h
    | some s =>
      rw [e] at h
      cases s with
      | none => cases h
      | some s => cases s <;> cases h
  · have h := paS_ow.mp h
    cases rst_pot ok h
    obtain ⟨a, g1, g2, g3, g4⟩ := E.ow i r _ h
    exact ⟨a, g1, g2, g3, .inr (.inr ⟨⟨i, r, _, h, .inl g1⟩, rfl⟩)⟩
  · obtain ⟨r, d, h1, h2, h3⟩ := E.pt a h
    exact ⟨r, d, paS_ow.mpr h1, h2, h3⟩
  · cases rst_pot ok (paS_ow.mp h)
    cases hb
  · obtain ⟨u, hu, _⟩ := E.notup h
    exact ⟨u, hu⟩
  · obtain ⟨h1, h2⟩ := cut_inv (show cut F.ex F.H0 a = some o from h)
    rcases h2 with h2 | ⟨xs, rfl⟩
    · exact kp a o h1 h2
    · exact E.tp a xs h1
  · exact E.tp a xs (cut_inv (show cut F.ex F.H0 a = some _ from h)).1
  · rcases E.sc a ns h with ⟨h1, h2, h3, h4⟩ | h1
    · refine .inl ⟨?_, h2, fun z => z, ?_⟩
      · rcases h1 with h1 | ⟨o, h1⟩
        · exact .inl ((E.keep a _ h1 h2 h4).resolve_right fun z => h3 z.1)
        · exact .inr ⟨o, (E.keep a _ h1 h2 h4).resolve_right fun z => h3 z.1⟩
      · rcases h1 with h1 | ⟨o, h1⟩ <;> exact E.notOwn h1 h2 h4
    · exact .inr h1
  · rw [List.getElem?_map] at h
    cases e : ρ[i]? with
    | none =>
      rw [e] at h
      cases h
    | some s0 =>
      rw [e] at h
      cases s0 with
      | none => cases h
      | some s0 =>
        cases s0 with
        | sh r d =>
          cases h
          obtain ⟨v, h1, h2⟩ := E.sh i r d e
          exact ⟨v, h1, shp h2⟩
        | pa r d =>
          cases h
          obtain ⟨v, h1, h2⟩ := E.raw i _ e
          exact ⟨v, h1, pap h2⟩
        | po d =>
          cases h
          obtain ⟨v, h1, h2⟩ := E.raw i _ e
          exact ⟨v, h1, pap (PaAt.old E h2)⟩
        | ow r d =>
          cases h
          trivial
        | scr ns =>
          cases h
          exact E.raw i _ e
        | _ => cases h
theorem Env.unrst (E : Env F σ ρ H) (ok : rstB ρ = true) (E1 : Env (F.rst (OwnA σ ρ) H) σ' ρ' H') (dm : ∀ a, H' a = none → H a = none) :
    Env F σ' (ρ'.map unS) H' ∧ Stp (OwnA σ ρ) H (OwnA σ' (ρ'.map unS)) H' ∧ ∀ r, Same ((F.rst (OwnA σ ρ) H).RH (OwnA σ' ρ') H' r) (F.RH (OwnA σ' (ρ'.map unS)) H' r) := by
  have kp1 : ∀ a o, H a = some o → ¬ OwnA σ ρ a → H' a = some o := fun a o h n => (E1.keep a o h (fun z => n (E.ptOwn z)) n).resolve_right fun z => z.1
  have no1 : ∀ a o, H a = some o → ¬ OwnA σ ρ a → ¬ OwnA σ' ρ' a := fun a o h n => E1.notOwn h (fun z => n (E.ptOwn z)) n
  have h0H : ∀ a, F.H0 a ≠ none → H a ≠ none := fun a h z => h (E.new z).1
  have up : ∀ r, Same ((F.rst (OwnA σ ρ) H).RH (OwnA σ' ρ') H' r) (F.RH (OwnA σ' (ρ'.map unS)) H' r) := fun r => by
    refine cut_mono (fun b o hb nb => ⟨hb, fun z => ?_⟩) fun b xs hb _ => hb
    rcases z with z | z | ⟨z, y⟩
    · exact nb (.inl z)
    · exact nb (.inr (.inl (unS_ownA.mp z)))
    · exact nb (.inr (.inr ⟨z, h0H b y⟩))
  have pa1 : ∀ {r : Bool} {v : V} {d : D}, PaAt (F.rst (OwnA σ ρ) H) (some r) v d → Rep F.K (F.RH (OwnA σ' (ρ'.map unS)) H' r) v d := fun {r v d} h => by
    refine Rep.mono (cut_mono (fun b o hb nb => ?_) fun b xs hb _ => E1.tp b xs hb) h
    have no : ¬ OwnA σ ρ b := fun z => nb (.inl (.inr (.inl z)))
    refine ⟨kp1 b o hb no, fun z => ?_⟩
    rcases z with z | z | z
    · exact nb (.inl (.inr (.inr (.inr z))))
    · exact no1 b o hb no (unS_ownA.mp z)
    · exact nb (.inr z)
  have old : ∀ a o, F.H0 a = some o → F.pt ≠ some a → ¬ F.px a → ¬ OwnA σ ρ a := fun a o h n1 n2 => E.notOwn h n1 n2
  refine ⟨⟨?_, fun a o h np nx => ?_, fun i r d h => ?_, fun i r d h => ?_, fun i j a h g => E1.inj i j a (unS_own.mp h) (unS_own.mp g), fun a h => ?_, fun a h => ⟨(E1.hidIn a h).1, (E.hidIn a h).2⟩, fun i r d h => E1.xo i r d (unS_ow.mp h), fun i r d b h hb => ?_, fun a h => ?_, fun a xs h => E1.tp a xs (E.tp a xs h), E.hc, E.tc, E.sc, fun i s h => ?_⟩, ⟨fun a o h n => ⟨kp1 a o h n, fun z => no1 a o h n (unS_ownA.mp z)⟩, dm⟩, up⟩
  · rw [List.length_map]
    exact E1.len
  · rcases E.keep a o h np nx with z | ⟨l, od, z⟩
    · exact .inl (kp1 a o z (old a o h np nx))
    · exact .inr ⟨l, od, kp1 a _ z (old a o h np nx)⟩
  · rw [List.getElem?_map] at h
    cases e : ρ'[i]? with
    | none =>
      rw [e] at h
      cases h
    | some s0 =>
      rw [e] at h
      cases s0 with
      | none => cases h
      | some s0 =>
        cases s0 with
        | sh r0 d0 =>
          cases h
          obtain ⟨v, h1, h2⟩ := E1.sh i r d e
          exact ⟨v, h1, h2.mono (up r)⟩
        | pa r0 d0 =>
          cases h
          obtain ⟨v, h1, h2⟩ := E1.raw i _ e
          exact ⟨v, h1, pa1 h2⟩
        | _ => cases h
  · have h := unS_ow.mp h
    obtain ⟨a, g1, g2, g3, g4⟩ := E1.ow i r d h
    refine ⟨a, g1, g2.mono (up r), g3, ?_⟩
    rcases g4 with g4 | g4 | ⟨⟨j, r0, d0, z1, z2⟩, y⟩
    · exact .inl (E.new g4).1
    · exact .inr (.inl g4)
    · cases rst_pot ok z1
      rcases z2 with z2 | z2
      · obtain ⟨b, k1, _, _, k4⟩ := E.ow j r0 _ z1
        rw [z2] at k1
        cases k1
        exact k4.imp_right (Or.imp_right fun q => ⟨q.1, y⟩)
      · cases z2
  · obtain ⟨r, d, h1, h2, h3⟩ := E1.pt a h
    exact ⟨r, d, unS_ow.mpr h1, h2, h3⟩
  · obtain ⟨g1, g2⟩ := E1.xt i r d b (unS_ow.mp h) hb
    refine ⟨g1, ?_⟩
    rcases g2 with g2 | ⟨j, r0, d0, z1, z2⟩ | g2
    · exact .inl (E.new g2).1
    · cases rst_pot ok z1
      rcases z2 with z2 | z2
      · obtain ⟨c, k1, _, _, k4⟩ := E.ow j r0 _ z1
        rw [z2] at k1
        cases k1
        rcases k4 with k4 | k4 | k4
        · exact .inl k4
        · exact .inr (.inr k4)
        · exact .inr (.inl k4.1)
      · cases z2
    · exact .inr (.inr g2)
  · obtain ⟨o, ho⟩ := E.pxIn a h
    cases e : H' a with
    | none =>
      rw [dm a e] at ho
      cases ho
    | some u => exact ⟨u, rfl⟩
  · rw [List.getElem?_map] at h
    cases e : ρ'[i]? with
    | none =>
      rw [e] at h
      cases h
    | some s0 =>
      rw [e] at h
      cases s0 with
      | none => cases h
      | some s0 =>
        cases s0 with
        | pa r d =>
          cases h
          trivial
        | po d =>
          cases h
          obtain ⟨v, h1, h2⟩ := E1.raw i _ e
          refine ⟨v, h1, Rep.mono (fun b o hb => ?_) h2⟩
          obtain ⟨k1, k2⟩ := cut_inv (cut_inv hb).1
          rcases k2 with k2 | ⟨xs, rfl⟩
          · refine cut_of k1 fun z => ?_
            rcases z with z | ⟨z, _⟩
            · exact k2 z
            · cases z
          · exact cut_tup k1
        | sh r d =>
          cases h
          trivial
        | ow r d =>
          cases h
          trivial
        | scr ns =>
          cases h
          exact E1.raw i _ e
        | exn a dd x =>
          cases h
          exact (E1.raw i _ e : _ ∧ _).imp_right fun z => z.mono (up true)
        | exo a dd x =>
          cases h
          exact (E1.raw i _ e : _ ∧ _).imp_right fun z => z.mono (up false)
        | lk r d =>
          cases h
          obtain ⟨a, g1, g2⟩ := E1.raw i _ e
          exact ⟨a, g1, g2.mono (up r)⟩
end
end PW
namespace PW
open PySem PySem.Spec PyProof.Rows L2
/-! ### statements that may spoil what is new -/
def Dm (H H' : Hp) : Prop := ∀ a, H' a = none → H a = none
def XLinkK (F : Fr) (W : WXT) (X : XC) (H : Hp) : Prop :=
  ∀ x ρ' σ' dd H', X x ρ' → Env F σ' ρ' H' → Dm H H' → XRep F.K (F.RH (OwnA σ' ρ') H' true) dd x → W (.ref (He.ga F.K x.c)) dd σ' H'
theorem XLinkK.to {F : Fr} {W : WXT} {X : XC} {H : Hp} (h : XLinkK F W X H) (σ : L2.St) (ρ : DEnv) : XLink F W X σ ρ H := fun x ρ' σ' dd H' a b c d => h x ρ' σ' dd H' a b c.dom d
theorem XLinkK.dm {F : Fr} {W : WXT} {X : XC} {H H1 : Hp} (h : XLinkK F W X H) (m : Dm H H1) : XLinkK F W X H1 := fun x ρ' σ' dd H' a b c d => h x ρ' σ' dd H' a b (fun z y => m z (c z y)) d
theorem XLinkK.no {F : Fr} {W : WXT} {H : Hp} : XLinkK F W noX H := fun _ _ _ _ _ a => a.elim
class DSk (K : PySem.W.Frag) (W : WXT) (t : TS) (w : outParam DSW) : Prop where
  ok : ∀ {F : Fr} {σ : L2.St} {H : Hp} {ρ : DEnv} {X : XC} {E : DEnds} {Dn : Ends}, F.K = K → Env F σ ρ H → XLinkK F W X H → w X E ρ →
    (∀ ρ' σ' H', E.nx ρ' → Env F σ' ρ' H' → Dm H H' → Dn.nx σ' H') →
    (∀ ρ' σ' H', E.bk ρ' → Env F σ' ρ' H' → Dm H H' → Dn.bk σ' H') →
    (∀ ρ' σ' H', E.ct ρ' → Env F σ' ρ' H' → Dm H H' → Dn.ct σ' H') →
    (∀ d ρ' σ' v H', E.rt d ρ' → Env F σ' ρ' H' → Dm H H' → Rep F.K (F.RH (OwnA σ' ρ') H' true) v d → Dn.rt v H') → t Dn σ H
section
variable {K : PySem.W.Frag} {W : WXT}
instance (priority := low) dskOf {t : TS} {w : DSW} [A : DS K W t w] : DSk K W t w where
  ok := fun {F σ H ρ X E Dn} hK En L h nx bk ct rt => A.ok hK En (L.to σ ρ) h (fun ρ' σ' H' z E' s => nx ρ' σ' H' z E' s.dom) (fun ρ' σ' H' z E' s => bk ρ' σ' H' z E' s.dom) (fun ρ' σ' H' z E' s => ct ρ' σ' H' z E' s.dom) fun d ρ' σ' v H' z E' s r => rt d ρ' σ' v H' z E' s.dom r
instance {t u : TS} {w y : DSW} [A : DSk K W t w] [B : DSk K W u y] : DSk K W (tSeq t u) (dSeq w y) where
  ok := fun {F σ H ρ X E Dn} hK En L h nx bk ct rt => A.ok hK En L h
    (fun ρ1 σ1 H1 h1 E1 m1 => B.ok hK E1 (L.dm m1) h1 (fun ρ' σ' H' z E' m => nx ρ' σ' H' z E' fun a b => m1 a (m a b)) (fun ρ' σ' H' z E' m => bk ρ' σ' H' z E' fun a b => m1 a (m a b)) (fun ρ' σ' H' z E' m => ct ρ' σ' H' z E' fun a b => m1 a (m a b)) fun d ρ' σ' v H' z E' m r => rt d ρ' σ' v H' z E' (fun a b => m1 a (m a b)) r)
    bk ct rt
instance {c : TT} {wc : DTW} {t u : TS} {w y : DSW} [C : DT K W c wc] [A : DSk K W t w] [B : DSk K W u y] : DSk K W (tIfS c t u) (dIfS wc w y) where
  ok := fun {F σ H ρ X E Dn} hK En L h nx bk ct rt => C.ok hK En (L.to σ ρ) h fun b ρ1 H1 h1 E1 s1 => by
    have m1 : Dm H H1 := s1.dom
    cases b with
    | true =>
      rw [ifC_t] at h1
      exact A.ok hK E1 (L.dm m1) h1 (fun ρ' σ' H' z E' m => nx ρ' σ' H' z E' fun a b => m1 a (m a b)) (fun ρ' σ' H' z E' m => bk ρ' σ' H' z E' fun a b => m1 a (m a b)) (fun ρ' σ' H' z E' m => ct ρ' σ' H' z E' fun a b => m1 a (m a b)) fun d ρ' σ' v H' z E' m r => rt d ρ' σ' v H' z E' (fun a b => m1 a (m a b)) r
    | false =>
      rw [ifC_f] at h1
      exact B.ok hK E1 (L.dm m1) h1 (fun ρ' σ' H' z E' m => nx ρ' σ' H' z E' fun a b => m1 a (m a b)) (fun ρ' σ' H' z E' m => bk ρ' σ' H' z E' fun a b => m1 a (m a b)) (fun ρ' σ' H' z E' m => ct ρ' σ' H' z E' fun a b => m1 a (m a b)) fun d ρ' σ' v H' z E' m r => rt d ρ' σ' v H' z E' (fun a b => m1 a (m a b)) r
/-! a block begun anew -/
def frz1 (ρ : DEnv) (i : Nat) : DEnv := match ρ[i]? with
  | some (some (.ow r d)) => match d.isPot with
    | true => ρ
    | false => ρ.set i (some (.sh r d))
  | _ => ρ
def frzN (ρ : DEnv) : Nat → DEnv
  | 0 => ρ
  | n + 1 => frz1 (frzN ρ n) n
theorem Env.frz1 {F : Fr} {σ : L2.St} {ρ : DEnv} {H : Hp} (E : Env F σ ρ H) (i : Nat) : Env F σ (PW.frz1 ρ i) H ∧ Stp (OwnA σ ρ) H (OwnA σ (PW.frz1 ρ i)) H := by
  unfold PW.frz1
  split
  · rename_i r d e
    split
    · exact ⟨E, .refl _ _⟩
    · rename_i np
      obtain ⟨a, h1, _⟩ := E.ow i r d e
      obtain ⟨h2, h3, _⟩ := E.freeze e np h1
      exact ⟨h2, h3⟩
  · exact ⟨E, .refl _ _⟩
theorem Env.frzN {F : Fr} {σ : L2.St} {ρ : DEnv} {H : Hp} (E : Env F σ ρ H) : ∀ n, Env F σ (PW.frzN ρ n) H ∧ Stp (OwnA σ ρ) H (OwnA σ (PW.frzN ρ n)) H
  | 0 => ⟨E, .refl _ _⟩
  | n + 1 => by
    obtain ⟨h1, h2⟩ := E.frzN n
    obtain ⟨h3, h4⟩ := h1.frz1 n
    exact ⟨h3, h2.trans h4⟩
def tRst (t : TS) : TS := t
theorem pss_rst {X : Cx} {b : List Stmt} {t : TS} (h : PSs X b t) : PSs X b (tRst t) := h
def rstE (E : DEnds) : DEnds := { nx := fun ρ => E.nx (ρ.map unS), rt := fun d ρ => E.rt d (ρ.map unS), bk := fun ρ => E.bk (ρ.map unS), ct := fun ρ => E.ct (ρ.map unS) }
def dRst (w : DSW) : DSW := fun X E ρ => rstB (frzN ρ ρ.length) = true ∧ w (fun x ρ' => X x (ρ'.map unS)) (rstE E) ((frzN ρ ρ.length).map paS)
instance {t : TS} {w : DSW} [A : DSk K W t w] : DS K W (tRst t) (dRst w) where
  ok := fun {F σ H ρ X E Dn} hK En L h nx bk ct rt => by
    obtain ⟨hok, h⟩ := h
    obtain ⟨E0, s0⟩ := En.frzN ρ.length
    have back : ∀ {σ' ρ' H'}, Env (F.rst (OwnA σ (frzN ρ ρ.length)) H) σ' ρ' H' → Dm H H' → Env F σ' (ρ'.map unS) H' ∧ Stp (OwnA σ ρ) H (OwnA σ' (ρ'.map unS)) H' ∧ ∀ r, Same ((F.rst (OwnA σ (frzN ρ ρ.length)) H).RH (OwnA σ' ρ') H' r) (F.RH (OwnA σ' (ρ'.map unS)) H' r) := fun {σ' ρ' H'} E' m => by
      obtain ⟨g1, g2, g3⟩ := E0.unrst hok E' m
      exact ⟨g1, s0.trans g2, g3⟩
    refine A.ok (F := F.rst (OwnA σ (frzN ρ ρ.length)) H) hK (E0.restart hok) (fun x ρ' σ' dd H' hx E' m r' => ?_) h (fun ρ' σ' H' z E' m => ?_) (fun ρ' σ' H' z E' m => ?_) (fun ρ' σ' H' z E' m => ?_) fun d ρ' σ' v H' z E' m r => ?_
    · obtain ⟨g1, g2, g3⟩ := back E' m
      exact L x _ σ' dd H' hx g1 g2 (r'.mono (g3 true))
    · obtain ⟨g1, g2, g3⟩ := back E' m
      exact nx _ σ' H' z g1 g2
    · obtain ⟨g1, g2, g3⟩ := back E' m
      exact bk _ σ' H' z g1 g2
    · obtain ⟨g1, g2, g3⟩ := back E' m
      exact ct _ σ' H' z g1 g2
    · obtain ⟨g1, g2, g3⟩ := back E' m
      exact rt d _ σ' v H' z g1 g2 (r.mono (g3 true))
end
/-! ### what is spoilt -/
structure KillR (Hn H H' : Hp) : Prop where
  kp : ∀ a o, H a = some o → (Hn a = none ∨ ∃ xs, o = .tup xs) → H' a = some o
  dom : ∀ a, H' a = none → H a = none
theorem KillR.refl (Hn H : Hp) : KillR Hn H H := ⟨fun _ _ h _ => h, fun _ h => h⟩
theorem KillR.trans {Hn H H1 H2 : Hp} (h : KillR Hn H H1) (g : KillR Hn H1 H2) : KillR Hn H H2 := ⟨fun a o e z => g.kp a o (h.kp a o e z) z, fun a e => h.dom a (g.dom a e)⟩
def killS : Option Sl → Option Sl
  | some (.sh r d) => match d.imm with
    | true => some (.sh r d)
    | false => none
  | some (.ow r (.lst ds)) => match D.immL ds with
    | true => some (.ow r (.lst ds))
    | false => none
  | some (.ow r .pot) => some (.ow r .pot)
  | some (.pa r d) => some (.pa r d)
  | some (.po d) => some (.po d)
  | some (.scr ns) => some (.scr ns)
  | _ => none
def killB : Option Sl → Bool
  | some (.ow _ (.ins _ _)) => false
  | some (.ow _ (.wlk _ _ _ _)) => false
  | _ => true
class DKill (K : PySem.W.Frag) (t : TS) (i : outParam Nat) (js : outParam (List Nat)) (ok : outParam (D → Prop)) : Prop where
  run : ∀ {σ : L2.St} {H Hn : Hp} {v : V} {d : D} {Dn : Ends}, σ[i]? = some (some v) → Rep K Hn v d → Same Hn H → ok d →
    (∀ σ' H', KillR Hn H H' → σ'.length = σ.length → (∀ j, j ∉ js → σ'[j]? = σ[j]?) → Dn.nx σ' H') → t Dn σ H
def dKill (i : Nat) (js : List Nat) (ok : D → Prop) : DSW := fun _ E ρ => match st ρ (.al i) with
  | some (true, d, ρ1) => ok d ∧ ρ1.all killB = true ∧ js.contains 0 = false ∧ E.nx (wipeD (ρ1.map killS) js)
  | _ => False
section
variable {F : Fr} {σ σ' : L2.St} {ρ : DEnv} {H H' : Hp} {js : List Nat}
theorem killS_sh {i : Nat} {r : Bool} {d : D} (h : (ρ.map killS)[i]? = some (some (.sh r d))) : ρ[i]? = some (some (.sh r d)) ∧ d.imm = true := by
  rw [List.getElem?_map] at h
  cases e : ρ[i]? with
  | none => rw [e] at h; cases h
  | some s =>
    rw [e] at h
    cases s with
    | none => cases h
    | some s =>
      cases s with
      | sh r' d' =>
        simp only [Option.map_some, killS] at h
        split at h
        · rename_i z
          cases h
          exact ⟨rfl, z⟩
        · cases h
      | ow r' d' =>
        cases d' with
        | lst ds =>
          simp only [Option.map_some, killS] at h
          split at h <;> cases h
        | _ => cases h
      | _ => cases h
theorem killS_ow {i : Nat} {r : Bool} {d : D} (h : (ρ.map killS)[i]? = some (some (.ow r d))) : ρ[i]? = some (some (.ow r d)) ∧ (d = .pot ∨ ∃ ds, d = .lst ds ∧ D.immL ds = true) := by
  rw [List.getElem?_map] at h
  cases e : ρ[i]? with
  | none => rw [e] at h; cases h
  | some s =>
    rw [e] at h
    cases s with
    | none => cases h
    | some s =>
      cases s with
      | sh r' d' =>
        simp only [Option.map_some, killS] at h
        split at h <;> cases h
      | ow r' d' =>
        cases d' with
        | lst ds =>
          simp only [Option.map_some, killS] at h
          split at h
          · rename_i z
            cases h
            exact ⟨rfl, .inr ⟨_, rfl, z⟩⟩
          · cases h
        | pot =>
          cases h
          exact ⟨rfl, .inl rfl⟩
        | _ => cases h
      | _ => cases h
theorem killS_raw {i : Nat} {s : Sl} (h : (ρ.map killS)[i]? = some (some s)) : (∃ r d, s = .sh r d) ∨ (∃ r d, s = .ow r d) ∨ (ρ[i]? = some (some s) ∧ ((∃ r d, s = .pa r d) ∨ (∃ d, s = .po d) ∨ ∃ ns, s = .scr ns)) := by
  rw [List.getElem?_map] at h
  cases e : ρ[i]? with
  | none => rw [e] at h; cases h
  | some s0 =>
    rw [e] at h
    cases s0 with
    | none => cases h
    | some s0 =>
      cases s0 with
      | sh r' d' =>
        simp only [Option.map_some, killS] at h
        split at h
        · cases h
          exact .inl ⟨_, _, rfl⟩
        · cases h
      | ow r' d' =>
        cases d' with
        | lst ds =>
          simp only [Option.map_some, killS] at h
          split at h
          · cases h
            exact .inr (.inl ⟨_, _, rfl⟩)
          · cases h
        | pot =>
          cases h
          exact .inr (.inl ⟨_, _, rfl⟩)
        | _ => cases h
      | pa r d =>
        cases h
        exact .inr (.inr ⟨rfl, .inl ⟨_, _, rfl⟩⟩)
      | po d =>
        cases h
        exact .inr (.inr ⟨rfl, .inr (.inl ⟨_, rfl⟩)⟩)
      | scr ns =>
        cases h
        exact .inr (.inr ⟨rfl, .inr (.inr ⟨_, rfl⟩)⟩)
      | _ => cases h
theorem RepL.immH {K : PySem.W.Frag} {H H' : Hp} {bad : Addr → Prop} (s : ∀ a xs, H a = some (.tup xs) → H' a = some (.tup xs)) : ∀ {vs : List V} {ds : List D}, RepL K H vs ds → D.immL ds = true → RepL K (cut bad H') vs ds
  | _, _, .nil, _ => .nil
  | _, _, .cons h g, e => by
    simp only [D.immL, Bool.and_eq_true] at e
    exact .cons ((Rep.immTop (h.top fun _ _ z => z) (fun _ _ z => z) e.1 s).imm e.1) (RepL.immH s g e.2)
theorem wipeD_at (ρ : DEnv) (j : Nat) : ∀ vs : List Nat, (wipeD ρ vs)[j]? = if j ∈ vs ∧ j < ρ.length then some none else ρ[j]?
  | [] => by simp [wipeD]
  | v :: vs => by
    rw [wipeD]
    by_cases hv : v = j
    · subst hv
      by_cases hl : v < ρ.length
      · rw [List.getElem?_set_self (by rw [wipeD_len]; exact hl), if_pos ⟨List.mem_cons_self, hl⟩]
      · rw [List.getElem?_eq_none (by rw [List.length_set, wipeD_len]; omega), if_neg (fun z => hl z.2), List.getElem?_eq_none (by omega)]
    · rw [List.getElem?_set_ne hv, wipeD_at ρ j vs]
      by_cases hj : j ∈ vs ∧ j < ρ.length
      · rw [if_pos hj, if_pos ⟨List.mem_cons_of_mem _ hj.1, hj.2⟩]
      · rw [if_neg hj, if_neg fun z => hj ⟨(List.mem_cons.mp z.1).resolve_left (Ne.symm hv), z.2⟩]
theorem Env.kill (E : Env F σ ρ H) (ok : ρ.all killB = true) (k : KillR (F.RH (OwnA σ ρ) H true) H H') (hl : σ'.length = σ.length) (hs : ∀ j, j ∉ js → σ'[j]? = σ[j]?) (h0 : js.contains 0 = false) : Env F σ' (wipeD (ρ.map killS) js) H' := by
  have back : ∀ {i : Nat} {s : Sl}, (wipeD (ρ.map killS) js)[i]? = some (some s) → i ∉ js ∧ (ρ.map killS)[i]? = some (some s) := fun {i s} h => by
    rw [wipeD_at] at h
    split at h
    · cases h
    · rename_i n
      refine ⟨fun z => n ⟨z, ?_⟩, h⟩
      exact (List.getElem?_eq_some_iff.mp h).1
  have kt : ∀ a xs, H a = some (.tup xs) → H' a = some (.tup xs) := fun a xs h => k.kp a _ h (.inr ⟨xs, rfl⟩)
  have bd : ∀ a o, H a = some o → F.bad (OwnA σ ρ) true a → H' a = some o := fun a o h b => by
    refine k.kp a o h ?_
    cases e : F.RH (OwnA σ ρ) H true a with
    | none => exact .inl rfl
    | some u =>
      obtain ⟨e1, e2⟩ := cut_inv e
      rw [h] at e1
      cases e1
      exact .inr (e2.resolve_left fun z => z b)
  have own : ∀ i a, OwnAt σ' (wipeD (ρ.map killS) js) i a → OwnAt σ ρ i a := fun i a ⟨r, d, z1, z2⟩ => by
    obtain ⟨y1, y2⟩ := back z1
    exact ⟨r, d, (killS_ow y2).1, by rw [← hs i y1]; exact z2⟩
  refine ⟨?_, fun a o h np nx => ?_, fun i r d h => ?_, fun i r d h => ?_, fun i j a h g => E.inj i j a (own i a h) (own j a g), fun a h => ?_, fun a h => ⟨?_, (E.hidIn a h).2⟩, fun i r d h => ?_, fun i r d b h hb => ?_, fun a h => ?_, fun a xs h => kt a xs (E.tp a xs h), E.hc, E.tc, E.sc, fun i s h => ?_⟩
  · rw [wipeD_len, List.length_map, hl]
    exact E.len
  · have b0 : F.bad (OwnA σ ρ) true a := .inr (.inr ⟨rfl, by rw [h]; exact fun z => by cases z⟩)
    rcases E.keep a o h np nx with z | ⟨l, od, z⟩
    · exact .inl (bd a o z b0)
    · exact .inr ⟨l, od, bd a _ z b0⟩
  · obtain ⟨y1, y2⟩ := back h
    obtain ⟨y3, y4⟩ := killS_sh y2
    obtain ⟨v, h1, h2⟩ := E.sh i r d y3
    exact ⟨v, by rw [hs i y1]; exact h1, (Rep.immTop (h2.top rh_le) rh_le y4 kt).imm y4⟩
  · obtain ⟨y1, y2⟩ := back h
    obtain ⟨y3, y4⟩ := killS_ow y2
    obtain ⟨a, h1, h2, h3, h4⟩ := E.ow i r d y3
    obtain ⟨u, hu, _⟩ := h2.there
    refine ⟨a, by rw [hs i y1]; exact h1, ?_, h3, h4⟩
    rw [bd a u hu (.inr (.inl ⟨i, r, d, y3, .inl h1⟩)), ← hu]
    rcases y4 with rfl | ⟨ds, rfl, y4⟩
    · exact h2
    · obtain ⟨vs, g1, g2⟩ := h2
      exact ⟨vs, g1, RepL.immH kt (g2.mono rh_le) y4⟩
  · obtain ⟨r, d, h1, h2, h3⟩ := E.pt a h
    have hd : d = .pot := by
      have := List.all_eq_true.mp ok _ (List.mem_of_getElem? h1)
      cases d <;> first | rfl | (cases this; done) | (cases h2; done)
    subst hd
    have n0 : (0 : Nat) ∉ js := fun z => by
      have : js.contains 0 = true := List.contains_iff_mem.mpr z
      rw [h0] at this
      cases this
    refine ⟨r, .pot, ?_, rfl, by rw [hs 0 n0]; exact h3⟩
    rw [wipeD_at, if_neg fun z => n0 z.1, List.getElem?_map, h1]
    rfl
  · obtain ⟨o, ho⟩ := (E.hidIn a h).1
    exact ⟨o, bd a o ho (.inl h)⟩
  · obtain ⟨y3, y4⟩ := killS_ow (back h).2
    rcases y4 with rfl | ⟨ds, rfl, y4⟩ <;> trivial
  · obtain ⟨y3, y4⟩ := killS_ow (back h).2
    rcases y4 with rfl | ⟨ds, rfl, y4⟩ <;> cases hb
  · obtain ⟨o, ho⟩ := E.pxIn a h
    cases e : H' a with
    | none =>
      rw [k.dom a e] at ho
      cases ho
    | some u => exact ⟨u, rfl⟩
  · obtain ⟨y1, y2⟩ := back h
    rcases killS_raw y2 with ⟨r, d, rfl⟩ | ⟨r, d, rfl⟩ | ⟨y3, ⟨r, d, rfl⟩ | ⟨d, rfl⟩ | ⟨ns, rfl⟩⟩
    · trivial
    · trivial
    · rw [hs i y1]
      exact E.raw i _ y3
    · rw [hs i y1]
      exact E.raw i _ y3
    · rw [hs i y1]
      exact E.raw i _ y3
instance {K : PySem.W.Frag} {W : WXT} {t : TS} {i : Nat} {js : List Nat} {ok : D → Prop} [A : DKill K t i js ok] : DSk K W t (dKill i js ok) where
  ok := fun {F σ H ρ X E Dn} hK En L h nx bk ct rt => by
    subst hK
    unfold dKill at h
    split at h
    · rename_i d ρ1 e
      obtain ⟨hok, hb, h0, hn⟩ := h
      have hv : ∃ v, σ[i]? = some (some v) := by
        simp only [PW.st] at e
        split at e
        · rename_i hi
          obtain ⟨v, g, _⟩ := En.sh i _ _ hi
          exact ⟨v, g⟩
        · rename_i hi
          obtain ⟨a, g, _⟩ := En.ow i _ _ hi
          exact ⟨_, g⟩
        · cases e
      obtain ⟨v, hv⟩ := hv
      obtain ⟨E1, s1, r1⟩ := RepV.st (F := F) (Hs := H) (dv := .al i) En (show σ[i]? = some (some v) from hv) e
      exact A.run hv r1 rh_le hok fun σ' H' k hl hs => nx _ σ' H' hn (E1.kill hb k hl hs h0) k.dom
    · exact h.elim
end
end PW

namespace PW
open PySem PySem.Spec PyProof.Rows L2
/-! ### reaching, plainly -/
inductive Rch (E : Str → Str → Prop) (s : Str) : Str → Prop
  | refl : Rch E s s
  | step {x y : Str} : Rch E s x → E x y → Rch E s y
theorem Rch.trans {E : Str → Str → Prop} {a b c : Str} (h : Rch E a b) (g : Rch E b c) : Rch E a c := by
  induction g with
  | refl => exact h
  | step _ e ih => exact .step ih e
theorem Rch.head {E : Str → Str → Prop} {a b c : Str} (e : E a b) (g : Rch E b c) : Rch E a c := (Rch.step .refl e).trans g
theorem Rch.symm {E : Str → Str → Prop} (sy : ∀ x y, E x y → E y x) {a b : Str} (h : Rch E a b) : Rch E b a := by
  induction h with
  | refl => exact .refl
  | step _ e ih => exact Rch.head (sy _ _ e) ih
theorem Rch.mem {E : Str → Str → Prop} {ns : List Str} {a b : Str} (h : Rch E a b) (ha : a ∈ ns) (he : ∀ x y, E x y → y ∈ ns) : b ∈ ns := by
  cases h with
  | refl => exact ha
  | step _ e => exact he _ _ e
theorem Rch.closed {E : Str → Str → Prop} {S : List Str} {a b : Str} (h : Rch E a b) (ha : a ∈ S) (hc : ∀ x y, x ∈ S → E x y → y ∈ S) : b ∈ S := by
  induction h with
  | refl => exact ha
  | step _ e ih => exact hc _ _ ih e
noncomputable def rchB (E : Str → Str → Prop) (s x : Str) : Bool := @decide (Rch E s x) (Classical.propDecidable _)
theorem rchB_iff {E : Str → Str → Prop} {s x : Str} : rchB E s x = true ↔ Rch E s x := by
  unfold rchB
  exact @decide_eq_true_iff _ (Classical.propDecidable _)
noncomputable def hangL (ns : List Str) (E : Str → Str → Prop) (s : Str) : List Str := ns.filter fun x => rchB E s x
theorem filter_hang {ns S : List Str} {E : Str → Str → Prop} {s : Str} (h : ∀ x ∈ ns, x ∈ S ↔ Rch E s x) : (ns.filter fun x => decide (x ∈ S)) = hangL ns E s := by
  unfold hangL
  refine List.filter_congr fun x hx => ?_
  rw [Bool.eq_iff_iff, decide_eq_true_iff, rchB_iff]
  exact h x hx
theorem mem_hangL {ns : List Str} {E : Str → Str → Prop} {s x : Str} : x ∈ hangL ns E s ↔ x ∈ ns ∧ Rch E s x := by
  unfold hangL
  rw [List.mem_filter, rchB_iff]
theorem hangL_congr {ns : List Str} {E E' : Str → Str → Prop} {s t : Str} (h : ∀ x, Rch E s x ↔ Rch E' t x) : hangL ns E s = hangL ns E' t := by
  unfold hangL
  refine List.filter_congr fun x _ => ?_
  rw [Bool.eq_iff_iff, rchB_iff, rchB_iff]
  exact h x
theorem hangL_sublist (ns : List Str) (E : Str → Str → Prop) (s : Str) : (hangL ns E s).Sublist ns := List.filter_sublist
theorem hangL_nodup {ns : List Str} {E : Str → Str → Prop} {s : Str} (h : ns.Nodup) : (hangL ns E s).Nodup := h.sublist (hangL_sublist ns E s)
/-! ### ties as steps, whichever way -/
def Edg (ts : List (Str × Str)) (ok : Nat → Prop) (x y : Str) : Prop := ∃ k t, ok k ∧ ts[k]? = some t ∧ ((x = t.1 ∧ y = t.2) ∨ (x = t.2 ∧ y = t.1))
theorem Edg.symm {ts : List (Str × Str)} {ok : Nat → Prop} (x y : Str) (h : Edg ts ok x y) : Edg ts ok y x := by
  obtain ⟨k, t, h1, h2, h3⟩ := h
  exact ⟨k, t, h1, h2, h3.symm.imp And.symm And.symm⟩
theorem Edg.mem {ts : List (Str × Str)} {ok : Nat → Prop} {ns : List Str} (hv : ∀ t ∈ ts, TieOk ns t) (x y : Str) (h : Edg ts ok x y) : y ∈ ns := by
  obtain ⟨k, t, h1, h2, h3⟩ := h
  have := hv t (List.mem_of_getElem? h2)
  rcases h3 with ⟨rfl, rfl⟩ | ⟨rfl, rfl⟩
  · exact this.2.1
  · exact this.1
theorem Edg.congr {ts : List (Str × Str)} {ok ok' : Nat → Prop} (h : ∀ k, k < ts.length → (ok k ↔ ok' k)) : Edg ts ok = Edg ts ok' := by
  funext x y
  refine propext ⟨fun ⟨k, t, h1, h2, h3⟩ => ⟨k, t, (h k (List.getElem?_eq_some_iff.mp h2).1).mp h1, h2, h3⟩, fun ⟨k, t, h1, h2, h3⟩ => ⟨k, t, (h k (List.getElem?_eq_some_iff.mp h2).1).mpr h1, h2, h3⟩⟩
/-- the search: ms met, the first k of them looked at -/
structure Bfs (ns : List Str) (E : Str → Str → Prop) (s : Str) (ms : List Str) (k : Nat) : Prop where
  nd : ms.Nodup
  inn : ∀ x ∈ ms, x ∈ ns
  rch : ∀ x ∈ ms, Rch E s x
  st : s ∈ ms
  done : ∀ i x, i < k → ms[i]? = some x → ∀ y, E x y → y ∈ ms
theorem Bfs.init {ns : List Str} {E : Str → Str → Prop} {s : Str} (h : s ∈ ns) : Bfs ns E s [s] 0 :=
  ⟨List.nodup_cons.mpr ⟨by simp, List.nodup_nil⟩, fun x hx => by rw [List.mem_singleton.mp hx]; exact h, fun x hx => by rw [List.mem_singleton.mp hx]; exact .refl, List.mem_singleton.mpr rfl, fun i x hi => absurd hi (Nat.not_lt_zero _)⟩
theorem Bfs.add {ns : List Str} {E : Str → Str → Prop} {s : Str} {ms : List Str} {k : Nat} (B : Bfs ns E s ms k) {x y : Str} (hx : x ∈ ms) (he : E x y) (hy : y ∉ ms) (hn : y ∈ ns) (hk : k ≤ ms.length) : Bfs ns E s (ms ++ [y]) k where
  nd := by
    rw [List.nodup_append]
    refine ⟨B.nd, List.nodup_cons.mpr ⟨by simp, List.nodup_nil⟩, fun a ha b hb e => ?_⟩
    rw [List.mem_singleton.mp hb] at e
    exact hy (e ▸ ha)
  inn := fun z hz => by
    rcases List.mem_append.mp hz with hz | hz
    · exact B.inn z hz
    · rw [List.mem_singleton.mp hz]
      exact hn
  rch := fun z hz => by
    rcases List.mem_append.mp hz with hz | hz
    · exact B.rch z hz
    · rw [List.mem_singleton.mp hz]
      exact .step (B.rch x hx) he
  st := List.mem_append_left _ B.st
  done := fun i z hi hz w hw => by
    rw [List.getElem?_append_left (by omega)] at hz
    exact List.mem_append_left _ (B.done i z hi hz w hw)
theorem Bfs.len {ns : List Str} {E : Str → Str → Prop} {s : Str} {ms : List Str} {k : Nat} (B : Bfs ns E s ms k) : ms.length ≤ ns.length := nodup_len B.nd B.inn
theorem Bfs.next {ns : List Str} {E : Str → Str → Prop} {s : Str} {ms : List Str} {k : Nat} (B : Bfs ns E s ms k) {x : Str} (hx : ms[k]? = some x) (h : ∀ y, E x y → y ∈ ms) : Bfs ns E s ms (k + 1) :=
  ⟨B.nd, B.inn, B.rch, B.st, fun i z hi hz => by
    by_cases e : i = k
    · subst e
      rw [hx] at hz
      cases hz
      exact h
    · exact B.done i z (by omega) hz⟩
theorem Bfs.all {ns : List Str} {E : Str → Str → Prop} {s : Str} {ms : List Str} (B : Bfs ns E s ms ms.length) (x : Str) : x ∈ ms ↔ Rch E s x :=
  ⟨B.rch x, fun h => h.closed B.st fun a b ha hb => by
    obtain ⟨i, hi, e⟩ := List.getElem_of_mem ha
    exact B.done i a hi (by rw [← e]; exact List.getElem?_eq_getElem hi) b hb⟩
/-! ### the law's own rounds -/
/-- one look at a tie -/
def look (ts : List (Str × Str)) (ok : Nat → Bool) (fs : List Str) (k : Nat) : List Str := match ts[k]? with
  | some t => if ok k = true ∧ decide (t.1 ∈ fs) ≠ decide (t.2 ∈ fs) then fs ++ [t.1, t.2] else fs
  | none => fs
/-- a round over the first k ties -/
def roundS (ts : List (Str × Str)) (ok : Nat → Bool) (fs : List Str) : Nat → List Str
  | 0 => fs
  | k + 1 => look ts ok (roundS ts ok fs k) k
def roundsS (ts : List (Str × Str)) (ok : Nat → Bool) (s : Str) : Nat → List Str
  | 0 => [s]
  | i + 1 => roundS ts ok (roundsS ts ok s i) ts.length
theorem look_sub (ts : List (Str × Str)) (ok : Nat → Bool) (fs : List Str) (k : Nat) : ∀ x ∈ fs, x ∈ look ts ok fs k := fun x hx => by
  unfold look
  split
  · split
    · exact List.mem_append_left _ hx
    · exact hx
  · exact hx
theorem roundS_sub (ts : List (Str × Str)) (ok : Nat → Bool) (fs : List Str) : ∀ k, ∀ x ∈ fs, x ∈ roundS ts ok fs k
  | 0, x, hx => hx
  | k + 1, x, hx => look_sub ts ok _ k x (roundS_sub ts ok fs k x hx)
theorem look_rch {ts : List (Str × Str)} {ok : Nat → Bool} {s : Str} {fs : List Str} {k : Nat} (h : ∀ x ∈ fs, Rch (Edg ts fun j => ok j = true) s x) : ∀ x ∈ look ts ok fs k, Rch (Edg ts fun j => ok j = true) s x := fun x hx => by
  unfold look at hx
  split at hx
  · rename_i t e
    split at hx
    · rename_i hc
      rcases List.mem_append.mp hx with hx | hx
      · exact h x hx
      · have e1 : Edg ts (fun j => ok j = true) t.1 t.2 := ⟨k, t, hc.1, e, .inl ⟨rfl, rfl⟩⟩
        by_cases h1 : t.1 ∈ fs
        · rcases List.mem_cons.mp hx with rfl | hx
          · exact h _ h1
          · rw [List.mem_singleton.mp hx]
            exact .step (h _ h1) e1
        · have h2 : t.2 ∈ fs := by
            have := hc.2
            rw [decide_eq_false h1] at this
            by_cases z : t.2 ∈ fs
            · exact z
            · rw [decide_eq_false z] at this
              exact absurd rfl this
          rcases List.mem_cons.mp hx with rfl | hx
          · exact .step (h _ h2) (Edg.symm _ _ e1)
          · rw [List.mem_singleton.mp hx]
            exact h _ h2
    · exact h x hx
  · exact h x hx
theorem roundS_rch {ts : List (Str × Str)} {ok : Nat → Bool} {s : Str} {fs : List Str} (h : ∀ x ∈ fs, Rch (Edg ts fun j => ok j = true) s x) : ∀ k, ∀ x ∈ roundS ts ok fs k, Rch (Edg ts fun j => ok j = true) s x
  | 0 => h
  | k + 1 => look_rch (roundS_rch h k)
theorem roundsS_rch {ts : List (Str × Str)} {ok : Nat → Bool} {s : Str} : ∀ i, ∀ x ∈ roundsS ts ok s i, Rch (Edg ts fun j => ok j = true) s x
  | 0 => fun x hx => by
    rw [List.mem_singleton.mp hx]
    exact .refl
  | i + 1 => roundS_rch (roundsS_rch i) _
/-- how many of the points are there -/
def cnt (ns fs : List Str) : Nat := (ns.filter fun x => decide (x ∈ fs)).length
theorem cnt_le (ns fs : List Str) : cnt ns fs ≤ ns.length := List.length_filter_le ..
theorem cnt_mono : ∀ {ns fs gs : List Str}, (∀ x ∈ fs, x ∈ gs) → cnt ns fs ≤ cnt ns gs
  | [], _, _, _ => Nat.le_refl _
  | x :: ns, fs, gs, h => by
    have ih := cnt_mono (ns := ns) h
    unfold cnt at ih ⊢
    rw [List.filter_cons, List.filter_cons]
    by_cases h1 : x ∈ fs
    · rw [decide_eq_true h1, decide_eq_true (h x h1)]
      exact Nat.succ_le_succ ih
    · rw [decide_eq_false h1]
      by_cases h2 : x ∈ gs
      · rw [decide_eq_true h2]
        exact Nat.le_succ_of_le ih
      · rw [decide_eq_false h2]
        exact ih
theorem cnt_lt : ∀ {ns fs gs : List Str} {y : Str}, (∀ x ∈ fs, x ∈ gs) → y ∈ ns → y ∉ fs → y ∈ gs → cnt ns fs < cnt ns gs
  | [], _, _, _, _, hy, _, _ => by simp at hy
  | x :: ns, fs, gs, y, h, hy, h1, h2 => by
    by_cases e : y = x
    · subst e
      have := cnt_mono (ns := ns) h
      unfold cnt at this ⊢
      rw [List.filter_cons, List.filter_cons, decide_eq_false h1, decide_eq_true h2]
      exact Nat.lt_succ_of_le this
    · have hy2 : y ∈ ns := (List.mem_cons.mp hy).resolve_left e
      have ih := cnt_lt h hy2 h1 h2
      unfold cnt at ih ⊢
      rw [List.filter_cons, List.filter_cons]
      by_cases h3 : x ∈ fs
      · rw [decide_eq_true h3, decide_eq_true (h x h3)]
        exact Nat.succ_lt_succ ih
      · rw [decide_eq_false h3]
        by_cases h4 : x ∈ gs
        · rw [decide_eq_true h4]
          exact Nat.lt_succ_of_lt ih
        · rw [decide_eq_false h4]
          exact ih
/-- closed by the ties -/
def Shutd (ts : List (Str × Str)) (ok : Nat → Bool) (fs : List Str) (n : Nat) : Prop := ∀ k t, k < n → ts[k]? = some t → ok k = true → (t.1 ∈ fs ↔ t.2 ∈ fs)
theorem roundS_same {ts : List (Str × Str)} {ok : Nat → Bool} {fs : List Str} : ∀ {n : Nat}, Shutd ts ok fs n → roundS ts ok fs n = fs
  | 0, _ => rfl
  | n + 1, h => by
    have ih := roundS_same (n := n) fun k t hk => h k t (Nat.lt_succ_of_lt hk)
    show look ts ok (roundS ts ok fs n) n = fs
    rw [ih]
    unfold look
    split
    · rename_i t e
      rw [if_neg]
      rintro ⟨h1, h2⟩
      exact h2 (decide_eq_decide.mpr (h n t (Nat.lt_succ_self _) e h1))
    · rfl
theorem roundS_more {ns : List Str} {ts : List (Str × Str)} {ok : Nat → Bool} {fs : List Str} (hv : ∀ t ∈ ts, TieOk ns t) : ∀ {n : Nat}, Shutd ts ok fs n ∨ cnt ns fs < cnt ns (roundS ts ok fs n)
  | 0 => .inl fun k t hk => absurd hk (Nat.not_lt_zero _)
  | n + 1 => by
    rcases roundS_more (n := n) hv with h | h
    · have e := roundS_same h
      by_cases hs : Shutd ts ok fs (n + 1)
      · exact .inl hs
      · refine .inr ?_
        show cnt ns fs < cnt ns (look ts ok (roundS ts ok fs n) n)
        rw [e]
        have hx : ∃ t, ts[n]? = some t ∧ ok n = true ∧ ¬ (t.1 ∈ fs ↔ t.2 ∈ fs) := by
          refine Classical.byContradiction fun q => hs fun k t hk ht ho => ?_
          by_cases ek : k = n
          · subst ek
            exact Classical.byContradiction fun z => q ⟨t, ht, ho, z⟩
          · exact h k t (by omega) ht ho
        obtain ⟨t, ht, ho, hne⟩ := hx
        have hok := hv t (List.mem_of_getElem? ht)
        have el : look ts ok fs n = fs ++ [t.1, t.2] := by
          unfold look
          rw [ht]
          show (if ok n = true ∧ decide (t.1 ∈ fs) ≠ decide (t.2 ∈ fs) then fs ++ [t.1, t.2] else fs) = _
          rw [if_pos ⟨ho, fun z => hne (decide_eq_decide.mp z)⟩]
        rw [el]
        by_cases h1 : t.1 ∈ fs
        · have h2 : t.2 ∉ fs := fun z => hne ⟨fun _ => z, fun _ => h1⟩
          exact cnt_lt (fun x hx => List.mem_append_left _ hx) hok.2.1 h2 (by simp)
        · exact cnt_lt (fun x hx => List.mem_append_left _ hx) hok.1 h1 (by simp)
    · exact .inr (Nat.lt_of_lt_of_le h (cnt_mono (look_sub ts ok _ n)))
theorem roundsS_shut {ns : List Str} {ts : List (Str × Str)} {ok : Nat → Bool} {s : Str} (hs : s ∈ ns) (hv : ∀ t ∈ ts, TieOk ns t) : ∀ i, Shutd ts ok (roundsS ts ok s i) ts.length ∨ i < cnt ns (roundsS ts ok s i)
  | 0 => .inr (List.length_pos_of_mem (a := s) (List.mem_filter.mpr ⟨hs, decide_eq_true (List.mem_singleton.mpr rfl)⟩))
  | i + 1 => by
    rcases roundsS_shut (i := i) hs hv with h | h
    · refine .inl ?_
      show Shutd ts ok (roundS ts ok (roundsS ts ok s i) ts.length) ts.length
      rw [roundS_same h]
      exact h
    · rcases roundS_more (n := ts.length) (ok := ok) (fs := roundsS ts ok s i) hv with g | g
      · refine .inl ?_
        show Shutd ts ok (roundS ts ok (roundsS ts ok s i) ts.length) ts.length
        rw [roundS_same g]
        exact g
      · exact .inr (Nat.lt_of_le_of_lt h g)
theorem roundsS_all {ns : List Str} {ts : List (Str × Str)} {ok : Nat → Bool} {s : Str} (hs : s ∈ ns) (hv : ∀ t ∈ ts, TieOk ns t) (x : Str) : x ∈ roundsS ts ok s ns.length ↔ Rch (Edg ts fun j => ok j = true) s x := by
  refine ⟨roundsS_rch _ x, fun h => ?_⟩
  have hsh : Shutd ts ok (roundsS ts ok s ns.length) ts.length := by
    rcases roundsS_shut hs hv ns.length with h | h
    · exact h
    · exact absurd (cnt_le ns _) (Nat.not_le_of_lt h)
  have hst : ∀ i, s ∈ roundsS ts ok s i := fun i => by
    induction i with
    | zero => exact List.mem_singleton.mpr rfl
    | succ i ih => exact roundS_sub ts ok _ _ s ih
  refine h.closed (hst _) fun a b ha ⟨k, t, hk, ht, hd⟩ => ?_
  have hi := hsh k t (List.getElem?_eq_some_iff.mp ht).1 ht hk
  rcases hd with ⟨rfl, rfl⟩ | ⟨rfl, rfl⟩
  · exact hi.mp ha
  · exact hi.mpr ha
end PW

namespace PW
open PySem PySem.Spec PyProof.Rows L2
/-! ### lists or tuples -/
def rowO : Bool → List V → HO
  | true, xs => .lst xs
  | false, xs => .tup xs
theorem rowO.sq {K : PySem.W.Frag} {H : Hp} {a : Addr} {b : Bool} {xs : List V} (h : H a = some (rowO b xs)) : SqL K H a xs ∨ SqT K H a xs := by
  cases b with
  | true => exact .inl (SqL.of h)
  | false => exact .inr (SqT.of h)
theorem rowO.ty {K : PySem.W.Frag} {H : Hp} {a : Addr} {b : Bool} {xs : List V} (h : H a = some (rowO b xs)) : ∃ t, TyX K H (.ref a) t ∧ PySem.W.kitAny K t [.type "list", .type "tuple"] = some true := by
  cases b with
  | true => exact ⟨_, .base (.lst h), rfl⟩
  | false => exact ⟨_, .base (.tup h), rfl⟩
theorem rowO.dp {K : PySem.W.Frag} {H : Hp} {a : Addr} {b : Bool} {xs : List V} {ds : List PyData} (h : H a = some (rowO b xs)) (g : DpAll K H xs ds) : Dp K H (.ref a) (if b then .list ds else .tuple ds) := by
  cases b with
  | true => exact .lst (SqL.of h) g
  | false => exact .tup (SqT.of h) g
/-- a comprehension over a name that holds a list or a tuple -/
theorem lc_row {K : PySem.W.Frag} {a : Addr} {b : Bool} {xs : List V} {j : Nat} {g : TG} {tt : TT} {te : TE} {vs : List Nat} {σ : L2.St} {H : Hp} {Q : VK} (hv : σ[j]? = some (some (.ref a))) (hS : H a = some (rowO b xs))
    (h : ∀ D, H D = none → ∃ Pv : Nat → Hp → Prop, Pv 0 (upd H D (.lst [])) ∧ (∀ i H', Pv i H' → H' a = some (rowO b xs)) ∧
      (∀ i x H', xs[i]? = some x → Pv i H' → g x (wipe σ vs) H' fun σ2 H2 => wipe σ2 vs = wipe σ vs ∧ tt σ2 H2 fun c H3 =>
        if c = true then te σ2 H3 fun y H4 => ∃ acc, H4 D = some (.lst acc) ∧ acc.length < sizeLine ∧ Pv (i + 1) (upd H4 D (.lst (acc ++ [y]))) else Pv (i + 1) H3) ∧ ∀ H', Pv xs.length H' → Q (.ref D) H') :
    tLc (iOr (iList K (tVar j)) (iTup K (tVar j))) g tt te vs σ H Q := by
  cases b with
  | true =>
    refine .inl ⟨_, hv, a, rfl, ⟨_, SqL.of hS⟩, fun D nD => ?_⟩
    obtain ⟨Pv, h0, hl, hs, hd⟩ := h D nD
    exact lc_list (K := K) (a := a) (xs := xs) Pv h0 (fun i H' _ p => SqL.of (hl i H' p)) hs hd
  | false =>
    refine .inr ⟨_, hv, a, rfl, ⟨_, SqT.of hS⟩, fun D nD => ?_⟩
    obtain ⟨Pv, h0, hl, hs, hd⟩ := h D nD
    exact lc_tup (K := K) (a := a) (xs := xs) Pv h0 (fun i H' _ p => SqT.of (hl i H' p)) hs hd
/-! ### pointings -/
def IsTurn (p : Int) : Prop := p = 0 ∨ p = 1
structure PointOk (ats : Ats) (ps : List Int) : Prop where
  len : ps.length = ats.length
  turn : ∀ p ∈ ps, IsTurn p
def lead (t : Str × Str) (p : Int) : Str × Str := if p = 0 then t else (t.2, t.1)
def leadsL (ts : List (Str × Str)) (ps : List Int) : List (Str × Str) := List.zipWith lead ts ps
theorem leadsL_at {ts : List (Str × Str)} {ps : List Int} {i : Nat} {t : Str × Str} {p : Int} (h1 : ts[i]? = some t) (h2 : ps[i]? = some p) : (leadsL ts ps)[i]? = some (lead t p) := by
  unfold leadsL
  rw [List.getElem?_zipWith, h1, h2]
theorem leadsL_len (ts : List (Str × Str)) (ps : List Int) : (leadsL ts ps).length = min ts.length ps.length := by
  unfold leadsL
  rw [List.length_zipWith]
theorem leadsL_mem {ts : List (Str × Str)} {ps : List Int} {l : Str × Str} (h : l ∈ leadsL ts ps) : ∃ t ∈ ts, ∃ p ∈ ps, l = lead t p := by
  obtain ⟨i, hi⟩ := List.getElem?_of_mem h
  unfold leadsL at hi
  rw [List.getElem?_zipWith] at hi
  cases e1 : ts[i]? with
  | none =>
    rw [e1] at hi
    cases hi
  | some t =>
    cases e2 : ps[i]? with
    | none =>
      rw [e1, e2] at hi
      cases hi
    | some p =>
      rw [e1, e2] at hi
      exact ⟨t, List.mem_of_getElem? e1, p, List.mem_of_getElem? e2, (Option.some.inj hi).symm⟩
theorem lead_in {ns : List Str} {t : Str × Str} {p : Int} (h : TieOk ns t) : TieOk ns (lead t p) := by
  unfold lead
  split
  · exact h
  · exact ⟨h.2.1, h.1, fun e => h.2.2 e.symm⟩
theorem leads_in {ns : List Str} {ats : Ats} {ps : List Int} (ok : WebOk ns ats) {l : Str × Str} (h : l ∈ leadsL ats.ties ps) : TieOk ns l := by
  obtain ⟨t, ht, p, _, rfl⟩ := leadsL_mem h
  obtain ⟨y, hy, rfl⟩ := List.mem_map.mp ht
  exact lead_in (ok.ties y hy)
def spIsWhole (K : PySem.W.Frag) : Sp := fun vs H Q _ => ∃ (v : V) (t : Value) (b c : Bool), vs = [v] ∧ TyX K H v t ∧ PySem.W.kitOne K t (.type "int") = some b ∧ PySem.W.kitOne K t (.type "bool") = some c ∧ Q (.bl (b && !c)) H
def spIsTurn (K : PySem.W.Frag) : Sp := fun vs H Q _ => ∃ v : V, vs = [v] ∧ ((∃ i, v = .int i ∧ Q (.bl (decide (0 ≤ i ∧ i ≤ 1))) H) ∨ ∃ (t : Value) (b c : Bool), TyX K H v t ∧ PySem.W.kitOne K t (.type "int") = some b ∧ PySem.W.kitOne K t (.type "bool") = some c ∧ (b && !c) = false ∧ Q (.bl false) H)
def spIsPointing (K : PySem.W.Frag) : Sp := fun vs H Q _ => ∃ (x a : Addr) (b : Bool) (ns : List Str) (ats : Ats) (ps : List Int), vs = [.ref x, .ref a] ∧ WebAt K H x ns ats ∧ WebOk ns ats ∧ H a = some (rowO b (ps.map V.int)) ∧ PointOk ats ps ∧ ∀ H', Same H H' → Q (.bl true) H'
def spWantPointing (K : PySem.W.Frag) : Sp := fun vs H Q _ => ∃ (x a : Addr) (b : Bool) (ns : List Str) (ats : Ats) (ps : List Int), vs = [.ref x, .ref a] ∧ WebAt K H x ns ats ∧ WebOk ns ats ∧ H a = some (rowO b (ps.map V.int)) ∧ PointOk ats ps ∧
  ∀ r H', H r = none → Same H H' → H' r = some (.lst (ps.map V.int)) → Q (.ref r) H'
def spLeadsOf (K : PySem.W.Frag) : Sp := fun vs H Q _ => ∃ (x a : Addr) (ns : List Str) (ats : Ats) (ps : List Int), vs = [.ref x, .ref a] ∧ WebAt K H x ns ats ∧ WebOk ns ats ∧ H a = some (.lst (ps.map V.int)) ∧ PointOk ats ps ∧
  ∀ r (ls : Ats) H', H r = none → Same H H' → H' r = some (.lst ls.vals) → TupsAt H' ls → ls.ties = leadsL ats.ties ps → Q (.ref r) H'
end PW

namespace PW
open PySem PySem.Spec PyProof.Rows L2
/-! ### going on from a point: whom each step meets -/
/-- a point, the number of the tie that led to it, where the point it came from stands -/
abbrev Sts := List (Str × Nat × Nat)
def Sts.names (st : Sts) : List Str := st.map Prod.fst
def stV (e : Str × Nat × Nat) : Key × V := (Sum.inr e.1, V.int (e.2.1 : Nat))
def Sts.kv : Sts → List (Key × V)
  | [] => []
  | e :: r => (Sum.inr e.1, V.non) :: r.map stV
theorem Sts.names_len (st : Sts) : st.names.length = st.length := List.length_map ..
theorem Sts.names_at {st : Sts} {i : Nat} {x : Str} : st.names[i]? = some x ↔ ∃ e, st[i]? = some e ∧ e.1 = x := by
  unfold Sts.names
  rw [List.getElem?_map]
  cases h : st[i]? with
  | none => simp
  | some e => simp
theorem Sts.names_snoc (st : Sts) (e : Str × Nat × Nat) : Sts.names (st ++ [e]) = st.names ++ [e.1] := by
  unfold Sts.names
  rw [List.map_append]
  rfl
theorem Sts.kv_len (st : Sts) : st.kv.length = st.length := by
  cases st with
  | nil => rfl
  | cons e r =>
    show (r.map stV).length + 1 = r.length + 1
    rw [List.length_map]
theorem Sts.kv_keys (st : Sts) : st.kv.map Prod.fst = st.names.map fun x => (Sum.inr x : Key) := by
  cases st with
  | nil => rfl
  | cons e r =>
    show (Sum.inr e.1 : Key) :: (r.map stV).map Prod.fst = (Sum.inr e.1 : Key) :: (r.map Prod.fst).map _
    rw [List.map_map, List.map_map]
    rfl
theorem Sts.kv_snoc {st : Sts} (h : st ≠ []) (e : Str × Nat × Nat) : Sts.kv (st ++ [e]) = st.kv ++ [stV e] := by
  cases st with
  | nil => exact absurd rfl h
  | cons a r =>
    show (_ :: (r ++ [e]).map stV) = (_ :: r.map stV) ++ [stV e]
    rw [List.map_append]
    rfl
theorem val_keys {k : Key} : ∀ {kvs : List (Key × V)}, (valV kvs k).isSome = true ↔ k ∈ kvs.map Prod.fst
  | [] => by simp [valV]
  | p :: r => by
    rw [List.map_cons, List.mem_cons]
    by_cases e : p.1 = k
    · rw [valV_pos e]
      exact ⟨fun _ => .inl e.symm, fun _ => rfl⟩
    · rw [valV_neg e, val_keys]
      exact ⟨Or.inr, fun z => z.resolve_left fun q => e q.symm⟩
theorem Sts.has (st : Sts) (x : Str) : (valV st.kv (Sum.inr x)).isSome = decide (x ∈ st.names) := by
  rw [Bool.eq_iff_iff, val_keys, Sts.kv_keys, decide_eq_true_iff, List.mem_map]
  exact ⟨fun ⟨y, hy, e⟩ => by rw [← Sum.inr.inj e]; exact hy, fun h => ⟨x, h, rfl⟩⟩
theorem Sts.not {st : Sts} {x : Str} (h : x ∉ st.names) : valV st.kv (Sum.inr x) = none := by
  have := st.has x
  rw [decide_eq_false h] at this
  cases e : valV st.kv (Sum.inr x) with
  | none => rfl
  | some v =>
    rw [e] at this
    cases this
/-- what a name's value is -/
theorem val_at {kvs : List (Key × V)} {i : Nat} {p : Key × V} (nd : (kvs.map Prod.fst).Nodup) (h : kvs[i]? = some p) : valV kvs p.1 = some p.2 := by
  induction kvs generalizing i with
  | nil => simp at h
  | cons q r ih =>
    rw [List.map_cons, List.nodup_cons] at nd
    cases i with
    | zero =>
      have e : q = p := Option.some.inj h
      subst e
      exact valV_pos rfl
    | succ i =>
      have h2 : r[i]? = some p := h
      rw [valV_neg fun e => nd.1 (by rw [e]; exact List.mem_map_of_mem (List.mem_of_getElem? h2))]
      exact ih nd.2 h2
theorem inr_nodup {xs : List Str} (h : xs.Nodup) : (xs.map fun x => (Sum.inr x : Key)).Nodup := by
  unfold List.Nodup
  rw [List.pairwise_map]
  exact h.imp fun ne e => ne (Sum.inr.inj e)
theorem Sts.val_first {e : Str × Nat × Nat} {r : Sts} : valV (Sts.kv (e :: r)) (Sum.inr e.1) = some .non := valV_pos rfl
theorem Sts.val_later {st : Sts} {i : Nat} {e : Str × Nat × Nat} (nd : st.names.Nodup) (h : st[i]? = some e) (hi : 0 < i) : valV st.kv (Sum.inr e.1) = some (.int (e.2.1 : Nat)) := by
  have hk : st.kv[i]? = some (stV e) := by
    cases st with
    | nil => simp at h
    | cons a r =>
      obtain ⟨j, rfl⟩ : ∃ j, i = j + 1 := ⟨i - 1, by omega⟩
      show (r.map stV)[j]? = _
      rw [List.getElem?_map, show r[j]? = some e from h]
      rfl
  have nd2 : (st.kv.map Prod.fst).Nodup := by
    rw [Sts.kv_keys]
    exact inr_nodup nd
  exact val_at nd2 hk
/-- the search as a function: one look, a pass over the leads, the passes -/
def bfsStep (ls : List (Str × Str)) (a : Nat) (st : Sts) (m : Nat) : Sts := match ls[m]?, st.names[a]? with
  | some t, some x => if t.1 = x ∧ t.2 ∉ st.names then st ++ [(t.2, m, a)] else st
  | _, _ => st
def bfsPass (ls : List (Str × Str)) (a : Nat) (st : Sts) : Nat → Sts
  | 0 => st
  | m + 1 => bfsStep ls a (bfsPass ls a st m) m
def bfsAt (ls : List (Str × Str)) (s : Str) : Nat → Sts
  | 0 => [(s, 0, 0)]
  | a + 1 => bfsPass ls a (bfsAt ls s a) ls.length
/-- the search at place a, the first m leads looked at -/
structure StepsAt (ns : List Str) (ls : List (Str × Str)) (s : Str) (st : Sts) (a m : Nat) : Prop where
  nd : st.names.Nodup
  inn : ∀ x ∈ st.names, x ∈ ns
  fst : ∃ r, st = (s, 0, 0) :: r
  par : ∀ i g k j, 0 < i → st[i]? = some (g, k, j) → j < i ∧ j ≤ a ∧ ∃ x, ls[k]? = some (x, g) ∧ st.names[j]? = some x
  mono : ∀ (i i' : Nat) (e e' : Str × Nat × Nat), 0 < i → i ≤ i' → st[i]? = some e → st[i']? = some e' → e.2.2 ≤ e'.2.2
  done : ∀ j x y, j < a → st.names[j]? = some x → (x, y) ∈ ls → ∃ (i : Nat) (e : Str × Nat × Nat), st[i]? = some e ∧ e.1 = y ∧ e.2.2 ≤ j
  here : ∀ x k y, st.names[a]? = some x → k < m → ls[k]? = some (x, y) → y ∈ st.names
  fn : st = bfsPass ls a (bfsAt ls s a) m
theorem StepsAt.init {ns : List Str} {ls : List (Str × Str)} {s : Str} (h : s ∈ ns) : StepsAt ns ls s [(s, 0, 0)] 0 0 where
  nd := List.nodup_cons.mpr ⟨by simp, List.nodup_nil⟩
  inn := fun x hx => by
    rw [List.mem_singleton.mp hx]
    exact h
  fst := ⟨[], rfl⟩
  par := fun i g k j hi e => by
    obtain ⟨i, rfl⟩ : ∃ j, i = j + 1 := ⟨i - 1, by omega⟩
    simp at e
  mono := fun i i' e e' hi _ h1 _ => by
    obtain ⟨i, rfl⟩ : ∃ j, i = j + 1 := ⟨i - 1, by omega⟩
    simp at h1
  done := fun j x y hj => absurd hj (Nat.not_lt_zero _)
  here := fun x k y _ hk => absurd hk (Nat.not_lt_zero _)
  fn := rfl
theorem StepsAt.len {ns : List Str} {ls : List (Str × Str)} {s : Str} {st : Sts} {a m : Nat} (S : StepsAt ns ls s st a m) : st.length ≤ ns.length := by
  rw [← Sts.names_len]
  exact nodup_len S.nd S.inn
theorem StepsAt.ne {ns : List Str} {ls : List (Str × Str)} {s : Str} {st : Sts} {a m : Nat} (S : StepsAt ns ls s st a m) : st ≠ [] := by
  obtain ⟨r, e⟩ := S.fst
  rw [e]
  exact List.cons_ne_nil _ _
theorem StepsAt.skip {ns : List Str} {ls : List (Str × Str)} {s x : Str} {st : Sts} {a m : Nat} {t : Str × Str} (S : StepsAt ns ls s st a m) (ha : st.names[a]? = some x) (hm : ls[m]? = some t) (h : ¬ (t.1 = x ∧ t.2 ∉ st.names)) : StepsAt ns ls s st a (m + 1) :=
  ⟨S.nd, S.inn, S.fst, S.par, S.mono, S.done, fun x' k y hx hk hl => by
    by_cases e : k = m
    · subst e
      rw [hm] at hl
      have et : t = (x', y) := Option.some.inj hl
      rw [ha] at hx
      have ex : x = x' := Option.some.inj hx
      refine Classical.byContradiction fun hn => h ⟨by rw [et, ex], by rw [et]; exact hn⟩
    · exact S.here x' k y hx (by omega) hl, by
    show st = bfsStep ls a (bfsPass ls a (bfsAt ls s a) m) m
    rw [← S.fn]
    unfold bfsStep
    rw [hm, ha]
    exact (if_neg h).symm⟩
theorem StepsAt.add {ns : List Str} {ls : List (Str × Str)} {s x y : Str} {st : Sts} {a m : Nat} (S : StepsAt ns ls s st a m) (ha : st.names[a]? = some x) (hm : ls[m]? = some (x, y)) (hy : y ∉ st.names) (hn : y ∈ ns) : StepsAt ns ls s (st ++ [(y, m, a)]) a (m + 1) := by
  have hal : a < st.length := by
    have := (List.getElem?_eq_some_iff.mp ha).1
    rw [Sts.names_len] at this
    exact this
  have old : ∀ {i : Nat} {e : Str × Nat × Nat}, (st ++ [(y, m, a)])[i]? = some e → (i < st.length ∧ st[i]? = some e) ∨ (i = st.length ∧ e = (y, m, a)) := fun {i e} h => by
    by_cases hi : i < st.length
    · rw [List.getElem?_append_left hi] at h
      exact .inl ⟨hi, h⟩
    · have hl := (List.getElem?_eq_some_iff.mp h).1
      rw [List.length_append, List.length_singleton] at hl
      have ei : i = st.length := by omega
      subst ei
      rw [List.getElem?_append_right (Nat.le_refl _), Nat.sub_self] at h
      exact .inr ⟨rfl, (Option.some.inj h).symm⟩
  have up : ∀ {i : Nat} {e : Str × Nat × Nat}, st[i]? = some e → (st ++ [(y, m, a)])[i]? = some e := fun {i e} h => by
    rw [List.getElem?_append_left (List.getElem?_eq_some_iff.mp h).1]
    exact h
  have upn : ∀ {i : Nat} {z : Str}, st.names[i]? = some z → (Sts.names (st ++ [(y, m, a)]))[i]? = some z := fun {i z} h => by
    rw [Sts.names_snoc, List.getElem?_append_left (List.getElem?_eq_some_iff.mp h).1]
    exact h
  have dn : ∀ {i : Nat} {z : Str}, i < st.length → (Sts.names (st ++ [(y, m, a)]))[i]? = some z → st.names[i]? = some z := fun {i z} hi h => by
    rw [Sts.names_snoc, List.getElem?_append_left (by rw [Sts.names_len]; exact hi)] at h
    exact h
  refine ⟨?_, ?_, ?_, ?_, ?_, ?_, ?_, ?_⟩
  · rw [Sts.names_snoc, List.nodup_append]
    refine ⟨S.nd, List.nodup_cons.mpr ⟨by simp, List.nodup_nil⟩, fun u hu v hv e => ?_⟩
    have e' : u = y := e.trans (List.mem_singleton.mp hv)
    exact hy (e' ▸ hu)
  · intro z hz
    rw [Sts.names_snoc] at hz
    rcases List.mem_append.mp hz with hz | hz
    · exact S.inn z hz
    · rw [List.mem_singleton.mp hz]
      exact hn
  · obtain ⟨r, e⟩ := S.fst
    exact ⟨r ++ [(y, m, a)], by rw [e]; rfl⟩
  · intro i g k j hi h
    rcases old h with ⟨_, h⟩ | ⟨rfl, h5⟩
    · obtain ⟨h1, h2, z, h3, h4⟩ := S.par i g k j hi h
      exact ⟨h1, h2, z, h3, upn h4⟩
    · obtain ⟨rfl, rfl, rfl⟩ : g = y ∧ k = m ∧ j = a := by
        clear h
        cases h5
        exact ⟨rfl, rfl, rfl⟩
      exact ⟨hal, Nat.le_refl _, x, hm, upn ha⟩
  · intro i i' e e' hi hii h1 h2
    rcases old h1 with ⟨hl1, h1⟩ | ⟨rfl, rfl⟩
    · rcases old h2 with ⟨_, h2⟩ | ⟨rfl, rfl⟩
      · exact S.mono i i' e e' hi hii h1 h2
      · obtain ⟨g, k, j⟩ := e
        exact (S.par i g k j hi h1).2.1
    · rcases old h2 with ⟨hl2, h2⟩ | ⟨_, rfl⟩
      · omega
      · exact Nat.le_refl _
  · intro j z w hj hz hw
    obtain ⟨i, e, h1, h2, h3⟩ := S.done j z w hj (dn (by omega) hz) hw
    exact ⟨i, e, up h1, h2, h3⟩
  · intro z k w hz hk hl
    rw [Sts.names_snoc]
    by_cases e : k = m
    · subst e
      rw [hm] at hl
      have : y = w := (Prod.mk.inj (Option.some.inj hl)).2
      rw [← this]
      exact List.mem_append_right _ (List.mem_singleton.mpr rfl)
    · exact List.mem_append_left _ (S.here z k w (dn hal hz) (by omega) hl)
  · show st ++ [(y, m, a)] = bfsStep ls a (bfsPass ls a (bfsAt ls s a) m) m
    rw [← S.fn]
    unfold bfsStep
    rw [hm, ha]
    exact (if_pos ⟨rfl, hy⟩).symm
theorem StepsAt.next {ns : List Str} {ls : List (Str × Str)} {s : Str} {st : Sts} {a : Nat} (S : StepsAt ns ls s st a ls.length) : StepsAt ns ls s st (a + 1) 0 := by
  refine ⟨S.nd, S.inn, S.fst, fun i g k j hi h => ?_, S.mono, fun j x y hj hx hy => ?_, fun x k y _ hk => absurd hk (Nat.not_lt_zero _), S.fn⟩
  · obtain ⟨h1, h2, z, h3, h4⟩ := S.par i g k j hi h
    exact ⟨h1, by omega, z, h3, h4⟩
  · by_cases e : j = a
    · subst e
      obtain ⟨k, hk⟩ := List.getElem?_of_mem hy
      have hm := S.here x k y hx (List.getElem?_eq_some_iff.mp hk).1 hk
      obtain ⟨i, hi⟩ := List.getElem?_of_mem hm
      obtain ⟨e, he, rfl⟩ := Sts.names_at.mp hi
      refine ⟨i, e, he, rfl, ?_⟩
      by_cases i0 : 0 < i
      · obtain ⟨g, k', j'⟩ := e
        exact (S.par i g k' j' i0 he).2.1
      · obtain ⟨r, hr⟩ := S.fst
        have : i = 0 := by omega
        subst this
        rw [hr] at he
        have : e = (s, 0, 0) := (Option.some.inj he).symm
        rw [this]
        exact Nat.zero_le _
    · exact S.done j x y (by omega) hx hy
theorem bfsPass_end {ls : List (Str × Str)} {a : Nat} {st : Sts} (h : st.length ≤ a) : ∀ m, bfsPass ls a st m = st
  | 0 => rfl
  | m + 1 => by
    show bfsStep ls a (bfsPass ls a st m) m = st
    rw [bfsPass_end h m]
    unfold bfsStep
    have : st.names[a]? = none := by
      rw [List.getElem?_eq_none_iff, Sts.names_len]
      exact h
    rw [this]
    split
    · rename_i h1 h2
      cases h2
    · rfl
theorem bfsAt_end {ls : List (Str × Str)} {s : Str} {n : Nat} (h : (bfsAt ls s n).length = n) : ∀ k, bfsAt ls s (n + k) = bfsAt ls s n
  | 0 => rfl
  | k + 1 => by
    show bfsPass ls (n + k) (bfsAt ls s (n + k)) ls.length = _
    rw [bfsAt_end h k]
    exact bfsPass_end (by omega) _
/-- the search comes to one end -/
theorem StepsAt.uniq {ns : List Str} {ls : List (Str × Str)} {s : Str} {st st' : Sts} (S : StepsAt ns ls s st st.length 0) (S' : StepsAt ns ls s st' st'.length 0) : st = st' := by
  have f1 : st = bfsAt ls s st.length := S.fn
  have f2 : st' = bfsAt ls s st'.length := S'.fn
  have e1 : (bfsAt ls s st.length).length = st.length := by rw [← f1]
  have e2 : (bfsAt ls s st'.length).length = st'.length := by rw [← f2]
  rcases Nat.le_total st.length st'.length with h | h
  · have := bfsAt_end e1 (st'.length - st.length)
    rw [show st.length + (st'.length - st.length) = st'.length by omega] at this
    rw [f1, f2, this]
  · have := bfsAt_end e2 (st.length - st'.length)
    rw [show st'.length + (st.length - st'.length) = st.length by omega] at this
    rw [f1, f2, this]
/-! ### what it comes to -/
def Led (ls : List (Str × Str)) (x y : Str) : Prop := (x, y) ∈ ls
theorem StepsAt.rch {ns : List Str} {ls : List (Str × Str)} {s : Str} {st : Sts} {a m : Nat} (S : StepsAt ns ls s st a m) : ∀ (i : Nat) (x : Str), st.names[i]? = some x → Rch (Led ls) s x := by
  intro i
  induction i using Nat.strongRecOn with
  | _ i ih =>
    intro x hx
    obtain ⟨⟨g, k, j⟩, he, rfl⟩ := Sts.names_at.mp hx
    by_cases i0 : 0 < i
    · obtain ⟨h1, _, z, h3, h4⟩ := S.par i g k j i0 he
      exact .step (ih j h1 z h4) (List.mem_of_getElem? h3)
    · obtain ⟨r, hr⟩ := S.fst
      have : i = 0 := by omega
      subst this
      rw [hr] at he
      cases he
      exact .refl
theorem StepsAt.all {ns : List Str} {ls : List (Str × Str)} {s : Str} {st : Sts} (S : StepsAt ns ls s st st.length 0) (x : Str) : x ∈ st.names ↔ Rch (Led ls) s x := by
  constructor
  · intro h
    obtain ⟨i, hi⟩ := List.getElem?_of_mem h
    exact S.rch i x hi
  · intro h
    refine h.closed ?_ fun u v hu huv => ?_
    · obtain ⟨r, hr⟩ := S.fst
      rw [hr]
      exact List.mem_cons_self
    · obtain ⟨j, hj⟩ := List.getElem?_of_mem hu
      have hjl := (List.getElem?_eq_some_iff.mp hj).1
      rw [Sts.names_len] at hjl
      obtain ⟨i, e, h1, h2, _⟩ := S.done j u v hjl hj huv
      rw [← h2]
      exact List.mem_map_of_mem (List.mem_of_getElem? h1)
def spStepsFrom (K : PySem.W.Frag) : Sp := fun vs H Q _ => ∃ (l : Addr) (s : Str) (ns : List Str) (ls : Ats), vs = [.ref l, .str s] ∧ H l = some (.lst ls.vals) ∧ TupsAt H ls ∧ (∀ t ∈ ls.ties, t.2 ∈ ns) ∧ s ∈ ns ∧ ns.length ≤ 100 ∧ ls.length ≤ 100 ∧
  ∀ d (st : Sts) H', H d = none → Same H H' → H' d = some (.dK st.kv) → StepsAt ns ls.ties s st st.length 0 → Q (.ref d) H'
end PW

namespace PW
open PySem PySem.Spec PyProof.Rows L2
/-! ### how many steps -/
inductive Wlk (ls : List (Str × Str)) (s : Str) : Nat → Str → Prop
  | zero : Wlk ls s 0 s
  | step {n : Nat} {x y : Str} : Wlk ls s n x → (x, y) ∈ ls → Wlk ls s (n + 1) y
theorem Wlk.rch {ls : List (Str × Str)} {s x : Str} {n : Nat} (h : Wlk ls s n x) : Rch (Led ls) s x := by
  induction h with
  | zero => exact .refl
  | step _ e ih => exact .step ih e
structure IsDist (ls : List (Str × Str)) (s x : Str) (n : Nat) : Prop where
  wk : Wlk ls s n x
  le : ∀ m, Wlk ls s m x → n ≤ m
theorem IsDist.uniq {ls : List (Str × Str)} {s x : Str} {n m : Nat} (a : IsDist ls s x n) (b : IsDist ls s x m) : n = m := Nat.le_antisymm (a.le m b.wk) (b.le n a.wk)
theorem IsDist.self (ls : List (Str × Str)) (s : Str) : IsDist ls s s 0 := ⟨.zero, fun _ _ => Nat.zero_le _⟩
/-- the round in which a place of the search was met -/
inductive Lvl (st : Sts) : Nat → Nat → Prop
  | zero : Lvl st 0 0
  | step {i n : Nat} {e : Str × Nat × Nat} : 0 < i → st[i]? = some e → Lvl st e.2.2 n → Lvl st i (n + 1)
theorem Lvl.uniq {st : Sts} {i n : Nat} (h : Lvl st i n) : ∀ {m : Nat}, Lvl st i m → n = m := by
  induction h with
  | zero =>
    intro m g
    cases g with
    | zero => rfl
    | step h0 => omega
  | step h0 he _ ih =>
    intro m g
    cases g with
    | zero => omega
    | step _ he' g' =>
      rw [he] at he'
      cases he'
      rw [ih g']
section
variable {ns : List Str} {ls : List (Str × Str)} {s : Str} {st : Sts} {a m : Nat}
theorem StepsAt.lvl (S : StepsAt ns ls s st a m) : ∀ i, i < st.length → ∃ n, Lvl st i n ∧ n ≤ i := by
  intro i
  induction i using Nat.strongRecOn with
  | _ i ih =>
    intro hi
    by_cases i0 : 0 < i
    · obtain ⟨⟨g, k, j⟩, he⟩ : ∃ e, st[i]? = some e := ⟨_, List.getElem?_eq_getElem hi⟩
      obtain ⟨h1, _⟩ := S.par i g k j i0 he
      obtain ⟨n, hn, hni⟩ := ih j h1 (by omega)
      exact ⟨n + 1, .step i0 he hn, by omega⟩
    · have : i = 0 := by omega
      subst this
      exact ⟨0, .zero, Nat.le_refl _⟩
theorem StepsAt.lvl_wk (S : StepsAt ns ls s st a m) {i n : Nat} (h : Lvl st i n) : ∀ x, st.names[i]? = some x → Wlk ls s n x := by
  induction h with
  | zero =>
    intro x hx
    obtain ⟨r, e⟩ := S.fst
    rw [e] at hx
    have : s = x := Option.some.inj hx
    rw [← this]
    exact .zero
  | @step i n e h0 he _ ih =>
    intro x hx
    obtain ⟨g, k, j⟩ := e
    obtain ⟨e', he', rfl⟩ := Sts.names_at.mp hx
    rw [he] at he'
    cases he'
    obtain ⟨_, _, z, h3, h4⟩ := S.par i g k j h0 he
    exact .step (ih z h4) (List.mem_of_getElem? h3)
theorem StepsAt.lvl_mono (S : StepsAt ns ls s st a m) : ∀ i', i' < st.length → ∀ i, i ≤ i' → ∀ n n', Lvl st i n → Lvl st i' n' → n ≤ n' := by
  intro i'
  induction i' using Nat.strongRecOn with
  | _ i' ih =>
    intro hl i hi n n' h h'
    cases h with
    | zero => exact Nat.zero_le _
    | @step _ n e h0 he hn =>
      cases h' with
      | zero => omega
      | @step _ n' e' h0' he' hn' =>
        have hm := S.mono i i' e e' h0 hi he he'
        obtain ⟨g', k', j'⟩ := e'
        obtain ⟨h1, _⟩ := S.par i' g' k' j' h0' he'
        have := ih j' h1 (by omega) e.2.2 hm n n' hn hn'
        omega
theorem StepsAt.dist (S : StepsAt ns ls s st st.length 0) {i n : Nat} {x : Str} (hx : st.names[i]? = some x) (h : Lvl st i n) : IsDist ls s x n := by
  refine ⟨S.lvl_wk h x hx, fun k hk => ?_⟩
  have main : ∀ {k : Nat} {y : Str}, Wlk ls s k y → ∀ j n', st.names[j]? = some y → Lvl st j n' → n' ≤ k := by
    intro k y hk
    induction hk with
    | zero =>
      intro j n' hj hl
      obtain ⟨r, e⟩ := S.fst
      have h0 : st.names[0]? = some s := by
        rw [e]
        rfl
      have hj0 : j = 0 := by
        refine Classical.byContradiction fun ne => ?_
        exact nodup_ne S.nd hj h0 ne rfl
      subst hj0
      rw [hl.uniq .zero]
      exact Nat.le_refl _
    | @step k u v hu huv ih =>
      intro j n' hj hl
      have hur : u ∈ st.names := (S.all u).mpr hu.rch
      obtain ⟨i1, hi1⟩ := List.getElem?_of_mem hur
      have hi1l := (List.getElem?_eq_some_iff.mp hi1).1
      rw [Sts.names_len] at hi1l
      obtain ⟨n1, hn1, _⟩ := S.lvl i1 hi1l
      have h1 := ih i1 n1 hi1 hn1
      obtain ⟨i2, e2, he2, hev, hle⟩ := S.done i1 u v hi1l hi1 huv
      have hi2 : st.names[i2]? = some v := Sts.names_at.mpr ⟨e2, he2, hev⟩
      have hij : i2 = j := by
        refine Classical.byContradiction fun ne => ?_
        exact nodup_ne S.nd hi2 hj ne rfl
      subst hij
      cases hl with
      | zero => exact Nat.zero_le _
      | @step _ n2 e h0 he hn2 =>
        rw [he2] at he
        cases he
        have := S.lvl_mono i1 hi1l e2.2.2 hle n2 n1 hn2 hn1
        omega
  exact main hk i n hx h
theorem StepsAt.dist_lt (S : StepsAt ns ls s st st.length 0) {x : Str} {n : Nat} (h : IsDist ls s x n) : n < ns.length := by
  obtain ⟨i, hi⟩ := List.getElem?_of_mem ((S.all x).mpr h.wk.rch)
  have hil := (List.getElem?_eq_some_iff.mp hi).1
  rw [Sts.names_len] at hil
  obtain ⟨k, hk, hki⟩ := S.lvl i hil
  have := h.uniq (S.dist hi hk)
  have := S.len
  omega
end
/-- every point that is come to has its number of steps -/
theorem dist_of_wk {ls : List (Str × Str)} {s x : Str} {n : Nat} (h : Wlk ls s n x) : ∃ k, IsDist ls s x k ∧ k ≤ n := by
  induction n using Nat.strongRecOn with
  | _ n ih =>
    by_cases c : ∃ m, m < n ∧ Wlk ls s m x
    · obtain ⟨m, hm, hw⟩ := c
      obtain ⟨k, hk, hkm⟩ := ih m hm hw
      exact ⟨k, hk, by omega⟩
    · exact ⟨n, ⟨h, fun m hm => Nat.le_of_not_lt fun z => c ⟨m, z, hm⟩⟩, Nat.le_refl _⟩
theorem wk_of_rch {ls : List (Str × Str)} {s x : Str} (h : Rch (Led ls) s x) : ∃ n, Wlk ls s n x := by
  induction h with
  | refl => exact ⟨0, .zero⟩
  | step _ e ih =>
    obtain ⟨n, hn⟩ := ih
    exact ⟨n + 1, .step hn e⟩
theorem dist_of_rch {ls : List (Str × Str)} {s x : Str} (h : Rch (Led ls) s x) : ∃ k, IsDist ls s x k := by
  obtain ⟨n, hn⟩ := wk_of_rch h
  obtain ⟨k, hk, _⟩ := dist_of_wk hn
  exact ⟨k, hk⟩
/-- the step ahead of the last one -/
theorem IsDist.pred {ls : List (Str × Str)} {s y : Str} {n : Nat} (h : IsDist ls s y (n + 1)) : ∃ x, IsDist ls s x n ∧ (x, y) ∈ ls := by
  cases h.wk with
  | step hx e =>
    rename_i x
    refine ⟨x, ⟨hx, fun m hm => ?_⟩, e⟩
    have := h.le _ (.step hm e)
    omega
theorem IsDist.next {ls : List (Str × Str)} {s x y : Str} {n : Nat} (h : IsDist ls s x n) (e : (x, y) ∈ ls) : ∃ k, IsDist ls s y k ∧ k ≤ n + 1 := dist_of_wk (.step h.wk e)
end PW

namespace PW
open PySem PySem.Spec PyProof.Rows L2
/-- as many points as steps, and one more -/
theorem dist_chain {ns : List Str} {ls : List (Str × Str)} {s : Str} (hs : s ∈ ns) (hl : ∀ t ∈ ls, t.2 ∈ ns) : ∀ {n : Nat} {x : Str}, IsDist ls s x n → ∃ L : List Str, L.length = n + 1 ∧ L.Nodup ∧ (∀ y ∈ L, y ∈ ns) ∧ ∀ y ∈ L, ∃ k, k ≤ n ∧ IsDist ls s y k
  | 0, x, h => by
    refine ⟨[x], rfl, List.nodup_cons.mpr ⟨by simp, List.nodup_nil⟩, fun y hy => ?_, fun y hy => ⟨0, Nat.le_refl _, ?_⟩⟩
    · rw [List.mem_singleton.mp hy]
      cases h.wk
      exact hs
    · rw [List.mem_singleton.mp hy]
      exact h
  | n + 1, x, h => by
    obtain ⟨z, hz, e⟩ := h.pred
    obtain ⟨L, h1, h2, h3, h4⟩ := dist_chain hs hl hz
    refine ⟨x :: L, by rw [List.length_cons, h1], List.nodup_cons.mpr ⟨fun q => ?_, h2⟩, fun y hy => ?_, fun y hy => ?_⟩
    · obtain ⟨k, hk, hd⟩ := h4 x q
      have := h.uniq hd
      omega
    · rcases List.mem_cons.mp hy with rfl | hy
      · exact hl _ e
      · exact h3 y hy
    · rcases List.mem_cons.mp hy with rfl | hy
      · exact ⟨n + 1, Nat.le_refl _, h⟩
      · obtain ⟨k, hk, hd⟩ := h4 y hy
        exact ⟨k, by omega, hd⟩
theorem dist_lt {ns : List Str} {ls : List (Str × Str)} {s x : Str} {n : Nat} (hs : s ∈ ns) (hl : ∀ t ∈ ls, t.2 ∈ ns) (h : IsDist ls s x n) : n < ns.length := by
  obtain ⟨L, h1, h2, h3, _⟩ := dist_chain hs hl h
  have := nodup_len h2 h3
  omega
/-! ### the law's own counting of steps -/
abbrev Rds := List (Str × Nat)
def Rds.kv (fl : Rds) : List (Key × V) := fl.map fun e => ((Sum.inr e.1 : Key), V.int (e.2 : Nat))
def Rds.names (fl : Rds) : List Str := fl.map Prod.fst
theorem Rds.kv_len (fl : Rds) : fl.kv.length = fl.length := List.length_map ..
theorem Rds.keys (fl : Rds) : fl.kv.map Prod.fst = fl.names.map fun x => (Sum.inr x : Key) := by
  unfold Rds.kv Rds.names
  rw [List.map_map, List.map_map]
  rfl
theorem Rds.kv_snoc (fl : Rds) (e : Str × Nat) : Rds.kv (fl ++ [e]) = fl.kv ++ [((Sum.inr e.1 : Key), V.int (e.2 : Nat))] := by
  unfold Rds.kv
  rw [List.map_append]
  rfl
theorem Rds.names_snoc (fl : Rds) (e : Str × Nat) : Rds.names (fl ++ [e]) = fl.names ++ [e.1] := by
  unfold Rds.names
  rw [List.map_append]
  rfl
theorem Rds.has (fl : Rds) (x : Str) : (valV fl.kv (Sum.inr x)).isSome = decide (x ∈ fl.names) := by
  rw [Bool.eq_iff_iff, val_keys, Rds.keys, decide_eq_true_iff, List.mem_map]
  exact ⟨fun ⟨y, hy, e⟩ => by rw [← Sum.inr.inj e]; exact hy, fun h => ⟨x, h, rfl⟩⟩
theorem Rds.not {fl : Rds} {x : Str} (h : x ∉ fl.names) : valV fl.kv (Sum.inr x) = none := by
  have := fl.has x
  rw [decide_eq_false h] at this
  cases e : valV fl.kv (Sum.inr x) with
  | none => rfl
  | some v =>
    rw [e] at this
    cases this
theorem Rds.val {fl : Rds} {e : Str × Nat} (nd : fl.names.Nodup) (h : e ∈ fl) : valV fl.kv (Sum.inr e.1) = some (.int (e.2 : Nat)) := by
  obtain ⟨i, hi⟩ := List.getElem?_of_mem h
  have hk : fl.kv[i]? = some ((Sum.inr e.1 : Key), V.int (e.2 : Nat)) := by
    unfold Rds.kv
    rw [List.getElem?_map, hi]
    rfl
  exact val_at (by rw [Rds.keys]; exact inr_nodup nd) hk
/-- round t, the first k leads looked at -/
structure RdAt (ns : List Str) (ls : List (Str × Str)) (s : Str) (fl : Rds) (t k : Nat) : Prop where
  nd : fl.names.Nodup
  inn : ∀ x ∈ fl.names, x ∈ ns
  ok : ∀ e ∈ fl, IsDist ls s e.1 e.2
  all : ∀ x n, IsDist ls s x n → n ≤ t → (x, n) ∈ fl
  here : ∀ j x y, j < k → ls[j]? = some (x, y) → IsDist ls s x t → y ∈ fl.names
section
variable {ns : List Str} {ls : List (Str × Str)} {s : Str} {fl : Rds} {t k : Nat}
theorem RdAt.init (hs : s ∈ ns) : RdAt ns ls s [(s, 0)] 0 0 where
  nd := List.nodup_cons.mpr ⟨by simp, List.nodup_nil⟩
  inn := fun x hx => by
    rw [List.mem_singleton.mp hx]
    exact hs
  ok := fun e he => by
    rw [List.mem_singleton.mp he]
    exact .self ls s
  all := fun x n h hn => by
    have : n = 0 := by omega
    subst this
    cases h.wk
    exact List.mem_singleton.mpr rfl
  here := fun j x y hj => absurd hj (Nat.not_lt_zero _)
theorem RdAt.len (R : RdAt ns ls s fl t k) : fl.length ≤ ns.length := by
  have := nodup_len R.nd R.inn
  unfold Rds.names at this
  rw [List.length_map] at this
  exact this
theorem RdAt.skip (R : RdAt ns ls s fl t k) {x y : Str} (h : ls[k]? = some (x, y)) (c : ¬ (IsDist ls s x t ∧ y ∉ fl.names)) : RdAt ns ls s fl t (k + 1) :=
  ⟨R.nd, R.inn, R.ok, R.all, fun j x' y' hj hl hd => by
    by_cases e : j = k
    · subst e
      rw [h] at hl
      cases hl
      exact Classical.byContradiction fun z => c ⟨hd, z⟩
    · exact R.here j x' y' (by omega) hl hd⟩
theorem RdAt.add (R : RdAt ns ls s fl t k) {x y : Str} (h : ls[k]? = some (x, y)) (hd : IsDist ls s x t) (hy : y ∉ fl.names) (hn : y ∈ ns) : RdAt ns ls s (fl ++ [(y, t + 1)]) t (k + 1) := by
  have hyd : IsDist ls s y (t + 1) := by
    obtain ⟨m, hm, hle⟩ := hd.next (List.mem_of_getElem? h)
    by_cases c : m ≤ t
    · exact absurd (List.mem_map_of_mem (R.all y m hm c)) hy
    · have : m = t + 1 := by omega
      exact this ▸ hm
  refine ⟨?_, fun z hz => ?_, fun e he => ?_, fun z n hz hnt => List.mem_append_left _ (R.all z n hz hnt), fun j x' y' hj hl hd' => ?_⟩
  · rw [Rds.names_snoc, List.nodup_append]
    refine ⟨R.nd, List.nodup_cons.mpr ⟨by simp, List.nodup_nil⟩, fun u hu v hv e => ?_⟩
    have e' : u = y := e.trans (List.mem_singleton.mp hv)
    exact hy (e' ▸ hu)
  · rw [Rds.names_snoc] at hz
    rcases List.mem_append.mp hz with hz | hz
    · exact R.inn z hz
    · rw [List.mem_singleton.mp hz]
      exact hn
  · rcases List.mem_append.mp he with he | he
    · exact R.ok e he
    · rw [List.mem_singleton.mp he]
      exact hyd
  · rw [Rds.names_snoc]
    by_cases e : j = k
    · subst e
      rw [h] at hl
      cases hl
      exact List.mem_append_right _ (List.mem_singleton.mpr rfl)
    · exact List.mem_append_left _ (R.here j x' y' (by omega) hl hd')
theorem RdAt.next (R : RdAt ns ls s fl t ls.length) : RdAt ns ls s fl (t + 1) 0 :=
  ⟨R.nd, R.inn, R.ok, fun x n h hn => by
    by_cases c : n ≤ t
    · exact R.all x n h c
    · have : n = t + 1 := by omega
      subst this
      obtain ⟨z, hz, e⟩ := h.pred
      obtain ⟨j, hj⟩ := List.getElem?_of_mem e
      have hm := R.here j z x (List.getElem?_eq_some_iff.mp hj).1 hj hz
      obtain ⟨⟨x', n'⟩, he, hx⟩ := List.mem_map.mp hm
      have hx : x' = x := hx
      subst hx
      have := (R.ok _ he).uniq h
      have h3 : n' = t + 1 := this
      exact h3 ▸ he, fun j x y hj => absurd hj (Nat.not_lt_zero _)⟩
theorem RdAt.mem (R : RdAt ns ls s fl t k) {x : Str} {n : Nat} (h : (x, n) ∈ fl) : IsDist ls s x n := R.ok _ h
/-- the points of the round -/
theorem RdAt.last (R : RdAt ns ls s fl t k) (x : Str) : decide ((valV fl.kv (Sum.inr x)).getD (.int (-1)) = V.int (t : Nat)) = true ↔ IsDist ls s x t := by
  rw [decide_eq_true_iff]
  constructor
  · intro h
    by_cases c : x ∈ fl.names
    · obtain ⟨e, he, rfl⟩ := List.mem_map.mp c
      rw [Rds.val R.nd he] at h
      have h2 : (e.2 : Int) = (t : Int) := V.int.inj h
      have h3 : e.2 = t := Int.ofNat.inj h2
      exact h3 ▸ R.ok e he
    · rw [Rds.not c] at h
      have h2 : (-1 : Int) = (t : Int) := V.int.inj h
      omega
  · intro h
    rw [Rds.val R.nd (R.all x t h (Nat.le_refl _))]
    rfl
end
/-- what the counting comes to -/
structure RdsOk (ns : List Str) (ls : List (Str × Str)) (s : Str) (fl : Rds) : Prop where
  nd : fl.names.Nodup
  inn : ∀ x ∈ fl.names, x ∈ ns
  iff : ∀ x n, (x, n) ∈ fl ↔ IsDist ls s x n
theorem RdAt.fin {ns : List Str} {ls : List (Str × Str)} {s : Str} {fl : Rds} {k : Nat} (R : RdAt ns ls s fl ns.length k) (hs : s ∈ ns) (hl : ∀ t ∈ ls, t.2 ∈ ns) : RdsOk ns ls s fl :=
  ⟨R.nd, R.inn, fun x n => ⟨fun h => R.ok _ h, fun h => R.all x n h (Nat.le_of_lt (dist_lt hs hl h))⟩⟩
theorem RdsOk.names {ns : List Str} {ls : List (Str × Str)} {s : Str} {fl : Rds} (R : RdsOk ns ls s fl) (x : Str) : x ∈ fl.names ↔ Rch (Led ls) s x := by
  constructor
  · intro h
    obtain ⟨e, he, rfl⟩ := List.mem_map.mp h
    exact ((R.iff e.1 e.2).mp he).wk.rch
  · intro h
    obtain ⟨n, hn⟩ := dist_of_rch h
    exact List.mem_map_of_mem ((R.iff x n).mpr hn)
end PW

namespace PW
open PySem PySem.Spec PyProof.Rows L2
/-! ### going on with a row of waiting points: whom it meets, in how many steps -/
/-- the search: fl met with their steps, the first a of them gone on from, of the place a the leads L looked at -/
structure QAt (ns : List Str) (ls : List (Str × Str)) (s : Str) (fl : Rds) (a : Nat) (L : List (Str × Str)) : Prop where
  nd : fl.names.Nodup
  inn : ∀ x ∈ fl.names, x ∈ ns
  fst : ∃ r, fl = (s, 0) :: r
  ok : ∀ e ∈ fl, IsDist ls s e.1 e.2
  mono : ∀ (i i' : Nat) (e e' : Str × Nat), i ≤ i' → fl[i]? = some e → fl[i']? = some e' → e.2 ≤ e'.2
  near : ∀ (i : Nat) (e h : Str × Nat), fl[i]? = some e → fl[a]? = some h → e.2 ≤ h.2 + 1
  done : ∀ (j : Nat) (e : Str × Nat) (y : Str), j < a → fl[j]? = some e → (e.1, y) ∈ ls → y ∈ fl.names
  here : ∀ (e : Str × Nat) (y : Str), fl[a]? = some e → (e.1, y) ∈ L → y ∈ fl.names
theorem Rds.names_at {fl : Rds} {i : Nat} {x : Str} : fl.names[i]? = some x ↔ ∃ e, fl[i]? = some e ∧ e.1 = x := by
  unfold Rds.names
  rw [List.getElem?_map]
  cases h : fl[i]? with
  | none => simp
  | some e => simp
section
variable {ns : List Str} {ls : List (Str × Str)} {s : Str} {fl : Rds} {a : Nat} {L : List (Str × Str)}
theorem QAt.init (h : s ∈ ns) : QAt ns ls s [(s, 0)] 0 [] where
  nd := List.nodup_cons.mpr ⟨by simp, List.nodup_nil⟩
  inn := fun x hx => by
    rw [List.mem_singleton.mp hx]
    exact h
  fst := ⟨[], rfl⟩
  ok := fun e he => by
    rw [List.mem_singleton.mp he]
    exact .self ls s
  mono := fun i i' e e' _ h1 h2 => by
    rw [List.mem_singleton.mp (List.mem_of_getElem? h1)]
    exact Nat.zero_le _
  near := fun i e h h1 _ => by
    rw [List.mem_singleton.mp (List.mem_of_getElem? h1)]
    exact Nat.zero_le _
  done := fun j e y hj => absurd hj (Nat.not_lt_zero _)
  here := fun e y _ hk => absurd hk List.not_mem_nil
theorem QAt.len (R : QAt ns ls s fl a L) : fl.length ≤ ns.length := by
  have := nodup_len R.nd R.inn
  unfold Rds.names at this
  rw [List.length_map] at this
  exact this
/-- all of fewer steps than the one at place a, or as many, are met -/
theorem QAt.met (R : QAt ns ls s fl a L) {h : Str × Nat} (ha : fl[a]? = some h) : ∀ (n : Nat) (x : Str), IsDist ls s x n → n ≤ h.2 → x ∈ fl.names
  | 0, x, hx, _ => by
    obtain ⟨r, e⟩ := R.fst
    cases hx.wk
    rw [e]
    exact List.mem_cons_self
  | n + 1, x, hx, hn => by
    obtain ⟨z, hz, e⟩ := hx.pred
    have hzm := QAt.met R ha n z hz (by omega)
    obtain ⟨i, hi⟩ := List.getElem?_of_mem hzm
    obtain ⟨ez, hez, hz1⟩ := Rds.names_at.mp hi
    have hzd : ez.2 = n := by
      have := R.ok ez (List.mem_of_getElem? hez)
      rw [hz1] at this
      exact this.uniq hz
    have hia : i < a := by
      refine Nat.lt_of_not_le fun q => ?_
      have := R.mono a i h ez q ha hez
      omega
    exact R.done i ez x hia hez (by rw [hz1]; exact e)
theorem QAt.skip (R : QAt ns ls s fl a L) {h : Str × Nat} (ha : fl[a]? = some h) {t : Str × Str} (c : ¬ (t.1 = h.1 ∧ t.2 ∉ fl.names)) : QAt ns ls s fl a (L ++ [t]) :=
  ⟨R.nd, R.inn, R.fst, R.ok, R.mono, R.near, R.done, fun e y he hy => by
    rcases List.mem_append.mp hy with hy | hy
    · exact R.here e y he hy
    · rw [ha] at he
      have e1 : h = e := Option.some.inj he
      have e2 := List.mem_singleton.mp hy
      rw [← e2, ← e1] at c
      exact Classical.byContradiction fun z => c ⟨rfl, z⟩⟩
theorem QAt.add (R : QAt ns ls s fl a L) {h : Str × Nat} (ha : fl[a]? = some h) {y : Str} (ht : (h.1, y) ∈ ls) (hy : y ∉ fl.names) (hn : y ∈ ns) : QAt ns ls s (fl ++ [(y, h.2 + 1)]) a (L ++ [(h.1, y)]) := by
  have hal := (List.getElem?_eq_some_iff.mp ha).1
  have hd := R.ok h (List.mem_of_getElem? ha)
  have hyd : IsDist ls s y (h.2 + 1) := by
    obtain ⟨k, hk, hle⟩ := hd.next ht
    by_cases c : k ≤ h.2
    · exact absurd (R.met ha k y hk c) hy
    · have : k = h.2 + 1 := by omega
      exact this ▸ hk
  have old : ∀ {i : Nat} {e : Str × Nat}, (fl ++ [(y, h.2 + 1)])[i]? = some e → (i < fl.length ∧ fl[i]? = some e) ∨ (i = fl.length ∧ e = (y, h.2 + 1)) := fun {i e} q => by
    by_cases hi : i < fl.length
    · rw [List.getElem?_append_left hi] at q
      exact .inl ⟨hi, q⟩
    · have hl := (List.getElem?_eq_some_iff.mp q).1
      rw [List.length_append, List.length_singleton] at hl
      have ei : i = fl.length := by omega
      subst ei
      rw [List.getElem?_append_right (Nat.le_refl _), Nat.sub_self] at q
      exact .inr ⟨rfl, (Option.some.inj q).symm⟩
  have at_a : ∀ {e : Str × Nat}, (fl ++ [(y, h.2 + 1)])[a]? = some e → e = h := fun {e} q => by
    rw [List.getElem?_append_left hal, ha] at q
    exact (Option.some.inj q).symm
  refine ⟨?_, fun z hz => ?_, ?_, fun e he => ?_, fun i i' e e' hii h1 h2 => ?_, fun i e h' h1 h2 => ?_, fun j e z hj hz hw => ?_, fun e z he hz => ?_⟩
  · rw [Rds.names_snoc, List.nodup_append]
    refine ⟨R.nd, List.nodup_cons.mpr ⟨by simp, List.nodup_nil⟩, fun u hu v hv e => ?_⟩
    have e' : u = y := e.trans (List.mem_singleton.mp hv)
    exact hy (e' ▸ hu)
  · rw [Rds.names_snoc] at hz
    rcases List.mem_append.mp hz with hz | hz
    · exact R.inn z hz
    · rw [List.mem_singleton.mp hz]
      exact hn
  · obtain ⟨r, e⟩ := R.fst
    exact ⟨r ++ [(y, h.2 + 1)], by rw [e]; rfl⟩
  · rcases List.mem_append.mp he with he | he
    · exact R.ok e he
    · rw [List.mem_singleton.mp he]
      exact hyd
  · rcases old h1 with ⟨_, h1⟩ | ⟨rfl, rfl⟩
    · rcases old h2 with ⟨_, h2⟩ | ⟨_, rfl⟩
      · exact R.mono i i' e e' hii h1 h2
      · exact R.near i e h h1 ha
    · rcases old h2 with ⟨hl2, _⟩ | ⟨_, rfl⟩
      · omega
      · exact Nat.le_refl _
  · rw [at_a h2]
    rcases old h1 with ⟨_, h1⟩ | ⟨_, rfl⟩
    · exact R.near i e h h1 ha
    · exact Nat.le_refl _
  · rw [Rds.names_snoc]
    rw [List.getElem?_append_left (by omega)] at hz
    exact List.mem_append_left _ (R.done j e z hj hz hw)
  · rw [Rds.names_snoc]
    rw [at_a he] at hz
    rcases List.mem_append.mp hz with hz | hz
    · exact List.mem_append_left _ (R.here h z ha hz)
    · have : z = y := (Prod.mk.inj (List.mem_singleton.mp hz)).2
      rw [this]
      exact List.mem_append_right _ (List.mem_singleton.mpr rfl)
theorem QAt.next (R : QAt ns ls s fl a L) (hL : ∀ t ∈ ls, t ∈ L) (hal : a < fl.length) : QAt ns ls s fl (a + 1) [] := by
  obtain ⟨h, ha⟩ : ∃ h, fl[a]? = some h := ⟨_, List.getElem?_eq_getElem hal⟩
  refine ⟨R.nd, R.inn, R.fst, R.ok, R.mono, fun i e h' h1 h2 => ?_, fun j e y hj he hy => ?_, fun e y _ hy => absurd hy List.not_mem_nil⟩
  · have := R.near i e h h1 ha
    have := R.mono a (a + 1) h h' (by omega) ha h2
    omega
  · by_cases c : j = a
    · subst c
      exact R.here e y he (hL _ hy)
    · exact R.done j e y (by omega) he hy
theorem QAt.fin (R : QAt ns ls s fl fl.length []) : RdsOk ns ls s fl := by
  have hall : ∀ x, Rch (Led ls) s x → x ∈ fl.names := fun x hx => hx.closed (by
    obtain ⟨r, e⟩ := R.fst
    rw [e]
    exact List.mem_cons_self) fun u v hu huv => by
    obtain ⟨j, hj⟩ := List.getElem?_of_mem hu
    obtain ⟨e, he, rfl⟩ := Rds.names_at.mp hj
    exact R.done j e v (List.getElem?_eq_some_iff.mp he).1 he huv
  refine ⟨R.nd, R.inn, fun x n => ⟨fun h => R.ok _ h, fun h => ?_⟩⟩
  obtain ⟨e, he, hx⟩ := List.mem_map.mp (hall x h.wk.rch)
  have h1 := R.ok e he
  have hx : e.1 = x := hx
  rw [hx] at h1
  have := h.uniq h1
  have h3 : e = (x, n) := by
    rw [← hx, this]
  exact h3 ▸ he
end
end PW

namespace PW
open PySem PySem.Spec PyProof.Rows L2
def spInOrder (K : PySem.W.Frag) : Sp := fun vs H Q _ => ∃ (x a : Addr) (ns : List Str) (ats : Ats) (xs : List Str), vs = [.ref x, .ref a] ∧ WebAt K H x ns ats ∧ ns.length ≤ 1000 ∧ (SqL K H a (xs.map V.str) ∨ SqT K H a (xs.map V.str)) ∧
  ∀ r H', H r = none → Same H H' → H' r = some (.lst ((ns.filter fun z => decide (z ∈ xs)).map V.str)) → Q (.ref r) H'
def spFarEnd (K : PySem.W.Frag) : Sp := fun vs H Q _ => ∃ (t : Addr) (u v z : Str), vs = [.ref t, .str z] ∧ SqT K H t [.str u, .str v] ∧ Q (.str (if u = z then v else u)) H
def spHanging (K : PySem.W.Frag) : Sp := fun vs H Q _ => ∃ (x l : Addr) (s : Str) (ns : List Str) (ats : Ats) (left : List Int), vs = [.ref x, .str s, .ref l] ∧ WebAt K H x ns ats ∧ WebOk ns ats ∧ s ∈ ns ∧ SqL K H l (left.map V.int) ∧ (∀ i ∈ left, 0 ≤ i ∧ i < (ats.length : Int)) ∧ left.length ≤ 1000 ∧
  ∀ r H', H r = none → Same H H' → H' r = some (.lst ((hangL ns (Edg ats.ties fun k => (k : Int) ∈ left) s).map V.str)) → Q (.ref r) H'
def upTo (n : Nat) : List Int := (List.range n).map fun (i : Nat) => (0 : Int) + (i : Int)
theorem rgV_upTo (n : Nat) : rgV 0 (n : Int) = (upTo n).map V.int := by
  unfold rgV upTo
  rw [List.map_map, show ((n : Int) - 0).toNat = n by omega]
  rfl
theorem mem_upTo {n : Nat} {i : Int} : i ∈ upTo n ↔ 0 ≤ i ∧ i < (n : Int) := by
  unfold upTo
  rw [List.mem_map]
  constructor
  · rintro ⟨k, hk, rfl⟩
    have := List.mem_range.mp hk
    omega
  · rintro ⟨h0, h1⟩
    exact ⟨i.toNat, List.mem_range.mpr (by omega), by omega⟩
theorem upTo_len (n : Nat) : (upTo n).length = n := by
  unfold upTo
  rw [List.length_map, List.length_range]
theorem edg_upTo (ats : Ats) : Edg ats.ties (fun k => (k : Int) ∈ upTo ats.length) = Edg ats.ties fun _ => True := Edg.congr fun k hk => by
  rw [Ats.ties_len] at hk
  exact ⟨fun _ => trivial, fun _ => mem_upTo.mpr ⟨by omega, by omega⟩⟩
/-- the clusters as they are made one by one -/
noncomputable def clusFrom (ns : List Str) (E : Str → Str → Prop) (acc : List (List Str)) : List Str → List (List Str)
  | [] => acc
  | p :: r => clusFrom ns E (if acc.any (fun c => decide (p ∈ c)) = true then acc else acc ++ [hangL ns E p]) r
noncomputable def clusL (ns : List Str) (E : Str → Str → Prop) : List (List Str) := clusFrom ns E [] ns
def spClusters (K : PySem.W.Frag) : Sp := fun vs H Q _ => ∃ (x : Addr) (ns : List Str) (ats : Ats), vs = [.ref x] ∧ WebAt K H x ns ats ∧ WebOk ns ats ∧
  ∀ r (cs : Als) H', Same H H' → H r = none → (∀ c ∈ cs, H c.1 = none ∧ c.1 ≠ r) → H' r = some (.lst cs.vals) → LstsAt H' cs → cs.lists = clusL ns (Edg ats.ties fun _ => True) → Q (.ref r) H'
theorem clusFrom_take (ns : List Str) (E : Str → Str → Prop) : ∀ (ps : List Str) (acc : List (List Str)) (i : Nat) (p : Str), ps[i]? = some p →
    clusFrom ns E acc (ps.take (i + 1)) = (if (clusFrom ns E acc (ps.take i)).any (fun c => decide (p ∈ c)) = true then clusFrom ns E acc (ps.take i) else clusFrom ns E acc (ps.take i) ++ [hangL ns E p])
  | [], acc, i, p, h => by simp at h
  | q :: r, acc, 0, p, h => by
    have e : q = p := Option.some.inj h
    subst e
    rfl
  | q :: r, acc, i + 1, p, h => clusFrom_take ns E r _ i p h
theorem clusFrom_len (ns : List Str) (E : Str → Str → Prop) : ∀ (ps : List Str) (acc : List (List Str)), (clusFrom ns E acc ps).length ≤ acc.length + ps.length
  | [], acc => Nat.le_refl _
  | q :: r, acc => by
    refine Nat.le_trans (clusFrom_len ns E r _) ?_
    rw [List.length_cons]
    split
    · omega
    · rw [List.length_append, List.length_singleton]
      omega
end PW

namespace PW
open PySem PySem.Spec PyProof.Rows L2
theorem look_len (ts : List (Str × Str)) (ok : Nat → Bool) (fs : List Str) (k : Nat) : (look ts ok fs k).length ≤ fs.length + 2 := by
  unfold look
  split
  · split
    · rw [List.length_append]
      simp
    · omega
  · omega
theorem roundS_len (ts : List (Str × Str)) (ok : Nat → Bool) (fs : List Str) : ∀ k, (roundS ts ok fs k).length ≤ fs.length + 2 * k
  | 0 => Nat.le_refl _
  | k + 1 => by
    have h1 := roundS_len ts ok fs k
    have h2 := look_len ts ok (roundS ts ok fs k) k
    show (look ts ok (roundS ts ok fs k) k).length ≤ _
    omega
theorem roundsS_len (ts : List (Str × Str)) (ok : Nat → Bool) (s : Str) (hl : ts.length ≤ 20) : ∀ i, (roundsS ts ok s i).length ≤ 1 + 40 * i
  | 0 => Nat.le_refl _
  | i + 1 => by
    have h1 := roundsS_len ts ok s hl i
    have h2 := roundS_len ts ok (roundsS ts ok s i) ts.length
    show (roundS ts ok (roundsS ts ok s i) ts.length).length ≤ _
    omega
def goneB (g : V) (k : Nat) : Bool := !decide (V.int (k : Int) = g)
def spLawHang (K : PySem.W.Frag) : Sp := fun vs H Q _ => ∃ (w a b : Addr) (s : Str) (g : V) (ns : List Str) (ats : Ats), vs = [.ref w, .str s, g] ∧ H w = some (.tup [.ref a, .ref b]) ∧ H a = some (.lst (ns.map V.str)) ∧ H b = some (.lst ats.vals) ∧ TupsAt H ats ∧ WebOk ns ats ∧ s ∈ ns ∧
  (g = .non ∨ ∃ n, g = .int n) ∧ ∀ r H', H r = none → Same H H' → H' r = some (.lst ((hangL ns (Edg ats.ties fun k => goneB g k = true) s).map V.str)) → Q (.ref r) H'
end PW

namespace PW
open PySem PySem.Spec PyProof.Rows L2
/-! ### ties that bar, plainly -/
noncomputable def lotOf (ns : List Str) (ts : List (Str × Str)) (k : Nat) (b : Str) : List Str := hangL ns (Edg ts fun j => j ≠ k) b
noncomputable def barUp (ns : List Str) (ts : List (Str × Str)) : Nat → List (Nat × List Str)
  | 0 => []
  | k + 1 => barUp ns ts k ++ (match ts[k]? with
    | some t => if t.1 ∈ lotOf ns ts k t.2 then [] else [(k, lotOf ns ts k t.2)]
    | none => [])
noncomputable def barL (ns : List Str) (ts : List (Str × Str)) : List (Nat × List Str) := barUp ns ts ts.length
theorem barUp_succ {ns : List Str} {ts : List (Str × Str)} {k : Nat} {t : Str × Str} (h : ts[k]? = some t) : barUp ns ts (k + 1) = barUp ns ts k ++ (if t.1 ∈ lotOf ns ts k t.2 then [] else [(k, lotOf ns ts k t.2)]) := by
  show barUp ns ts k ++ _ = _
  rw [h]
theorem barUp_len (ns : List Str) (ts : List (Str × Str)) : ∀ k, (barUp ns ts k).length ≤ k
  | 0 => Nat.le_refl _
  | k + 1 => by
    have ih := barUp_len ns ts k
    show (barUp ns ts k ++ _).length ≤ k + 1
    rw [List.length_append]
    split
    · split
      · rw [List.length_nil]
        omega
      · rw [List.length_singleton]
        omega
    · rw [List.length_nil]
      omega
theorem barUp_mem {ns : List Str} {ts : List (Str × Str)} : ∀ {n : Nat} {p : Nat × List Str}, p ∈ barUp ns ts n → ∃ t, ts[p.1]? = some t ∧ p.2 = lotOf ns ts p.1 t.2 ∧ t.1 ∉ p.2
  | 0, p, h => by simp [barUp] at h
  | n + 1, p, h => by
    rcases List.mem_append.mp h with h | h
    · exact barUp_mem h
    · split at h
      · rename_i t e
        split at h
        · simp at h
        · rename_i hn
          rw [List.mem_singleton.mp h]
          exact ⟨t, e, rfl, hn⟩
      · simp at h
theorem lotOf_names {ns : List Str} {ts : List (Str × Str)} {k : Nat} {b : Str} (h : ∀ x ∈ ns, IsName x) : ∀ x ∈ lotOf ns ts k b, IsName x := fun x hx => h x (mem_hangL.mp hx).1
theorem barUp_names {ns : List Str} {ts : List (Str × Str)} {n : Nat} (h : ∀ x ∈ ns, IsName x) : ∀ p ∈ barUp ns ts n, ∀ x ∈ p.2, IsName x := fun p hp => by
  obtain ⟨t, _, e, _⟩ := barUp_mem hp
  rw [e]
  exact lotOf_names h
/-! ### as they stand in the heap -/
abbrev Abs := List (Addr × Nat × Addr × List Str)
def Abs.vals (l : Abs) : List V := l.map fun x => V.ref x.1
def Abs.told (l : Abs) : List (Nat × List Str) := l.map fun x => (x.2.1, x.2.2.2)
def BarsAt (H : Hp) (l : Abs) : Prop := ∀ x ∈ l, H x.1 = some (.tup [.int (x.2.1 : Nat), .ref x.2.2.1]) ∧ H x.2.2.1 = some (.lst (x.2.2.2.map V.str))
theorem BarsAt.same {H H' : Hp} {l : Abs} (h : BarsAt H l) (e : Same H H') : BarsAt H' l := fun x hx => ⟨e _ _ (h x hx).1, e _ _ (h x hx).2⟩
theorem Abs.vals_len (l : Abs) : l.vals.length = l.length := by
  unfold Abs.vals
  rw [List.length_map]
theorem Abs.vals_snoc (l : Abs) (x : Addr × Nat × Addr × List Str) : Abs.vals (l ++ [x]) = l.vals ++ [V.ref x.1] := by
  unfold Abs.vals
  rw [List.map_append]
  rfl
theorem Abs.told_snoc (l : Abs) (x : Addr × Nat × Addr × List Str) : Abs.told (l ++ [x]) = l.told ++ [(x.2.1, x.2.2.2)] := by
  unfold Abs.told
  rw [List.map_append]
  rfl
theorem Abs.told_len (l : Abs) : l.told.length = l.length := by
  unfold Abs.told
  rw [List.length_map]
theorem Abs.vals_at {l : Abs} {i : Nat} {v : V} (h : l.vals[i]? = some v) : ∃ x, l[i]? = some x ∧ v = V.ref x.1 := by
  unfold Abs.vals at h
  rw [List.getElem?_map] at h
  cases e : l[i]? with
  | none =>
    rw [e] at h
    cases h
  | some x =>
    rw [e] at h
    exact ⟨x, rfl, (Option.some.inj h).symm⟩
theorem dp_bars {K : PySem.W.Frag} {H : Hp} {a : Addr} {l : Abs} (h : SqL K H a l.vals) (g : BarsAt H l) : Dp K H (.ref a) (dBars l.told) := by
  unfold dBars Abs.told
  rw [List.map_map]
  refine .lst h (dp_map fun x hx => ?_)
  exact .tup (SqT.of (g x hx).1) (.cons (.int _) (.cons (dp_strs (SqL.of (g x hx).2)) .nil))
structure BarsNew (H : Hp) (r : Addr) (l : Abs) : Prop where
  tup : ∀ x ∈ l, H x.1 = none
  lot : ∀ x ∈ l, H x.2.2.1 = none ∧ x.2.2.1 ≠ r
  nd : (l.map fun x => x.2.2.1).Nodup
def spBars (K : PySem.W.Frag) : Sp := fun vs H Q _ => ∃ (x : Addr) (ns : List Str) (ats : Ats), vs = [.ref x] ∧ WebAt K H x ns ats ∧ WebOk ns ats ∧
  ∀ r (bs : Abs) H', Same H H' → H r = none → BarsNew H r bs → H' r = some (.lst bs.vals) → BarsAt H' bs → bs.told = barL ns ats.ties → Q (.ref r) H'
/-! ### all numbers but one -/
def oth (n k : Nat) : List Int := ((List.range n).filter fun j => decide (j ≠ k)).map fun (j : Nat) => (j : Int)
theorem oth_succ (n k : Nat) : oth (n + 1) k = oth n k ++ (if n = k then [] else [(n : Int)]) := by
  unfold oth
  rw [List.range_succ, List.filter_append, List.map_append, List.filter_cons, List.filter_nil]
  by_cases h : n = k
  · rw [if_pos h, decide_eq_false (fun z => z h)]
    rfl
  · rw [if_neg h, decide_eq_true h]
    rfl
theorem mem_oth {n k : Nat} {i : Int} : i ∈ oth n k ↔ 0 ≤ i ∧ i < (n : Int) ∧ i ≠ (k : Int) := by
  unfold oth
  rw [List.mem_map]
  constructor
  · rintro ⟨j, hj, rfl⟩
    obtain ⟨h1, h2⟩ := List.mem_filter.mp hj
    have h3 := List.mem_range.mp h1
    have h4 : j ≠ k := of_decide_eq_true h2
    omega
  · rintro ⟨h0, h1, h2⟩
    exact ⟨i.toNat, List.mem_filter.mpr ⟨List.mem_range.mpr (by omega), decide_eq_true (by omega)⟩, by omega⟩
theorem oth_len (n k : Nat) : (oth n k).length ≤ n := by
  unfold oth
  rw [List.length_map]
  exact Nat.le_trans (List.length_filter_le ..) (by rw [List.length_range]; exact Nat.le_refl _)
theorem edg_oth (ats : Ats) (k : Nat) : Edg ats.ties (fun j => (j : Int) ∈ oth ats.length k) = Edg ats.ties fun j => j ≠ k := Edg.congr fun j hj => by
  rw [Ats.ties_len] at hj
  rw [mem_oth]
  omega
theorem edg_gone (ats : Ats) (k : Nat) : Edg ats.ties (fun j => goneB (.int (k : Nat)) j = true) = Edg ats.ties fun j => j ≠ k := Edg.congr fun j hj => by
  unfold goneB
  by_cases h : j = k
  · subst h
    rw [decide_eq_true rfl]
    simp
  · rw [decide_eq_false (fun z => h (by have := V.int.inj z; omega))]
    exact ⟨fun _ => h, fun _ => rfl⟩
end PW

namespace PW
open PySem PySem.Spec PyProof.Rows L2
/-! ### lots -/
def crossB (lot : List Str) (t : Str × Str) : Bool := decide (t.1 ∈ lot) != decide (t.2 ∈ lot)
def crossUp (ts : List (Str × Str)) (lot : List Str) : Nat → List Int
  | 0 => []
  | k + 1 => crossUp ts lot k ++ (match ts[k]? with
    | some t => if crossB lot t = true then [(k : Int)] else []
    | none => [])
theorem crossUp_succ {ts : List (Str × Str)} {lot : List Str} {k : Nat} {t : Str × Str} (h : ts[k]? = some t) : crossUp ts lot (k + 1) = crossUp ts lot k ++ (if crossB lot t = true then [(k : Int)] else []) := by
  show crossUp ts lot k ++ _ = _
  rw [h]
theorem crossUp_len (ts : List (Str × Str)) (lot : List Str) : ∀ k, (crossUp ts lot k).length ≤ k
  | 0 => Nat.le_refl _
  | k + 1 => by
    have ih := crossUp_len ts lot k
    show (crossUp ts lot k ++ _).length ≤ k + 1
    rw [List.length_append]
    split
    · split
      · rw [List.length_singleton]
        omega
      · rw [List.length_nil]
        omega
    · rw [List.length_nil]
      omega
def orderL (ns xs : List Str) : List Str := ns.filter fun z => decide (z ∈ xs)
structure LotOk (ns xs : List Str) : Prop where
  nd : xs.Nodup
  inn : ∀ x ∈ xs, x ∈ ns
  pos : 0 < xs.length
  lt : xs.length < ns.length
def spTiesCrossing (K : PySem.W.Frag) : Sp := fun vs H Q _ => ∃ (x a : Addr) (ns : List Str) (ats : Ats) (xs : List Str), vs = [.ref x, .ref a] ∧ WebAt K H x ns ats ∧ ats.length ≤ 1000 ∧ SqL K H a (xs.map V.str) ∧
  ∀ r H', H r = none → Same H H' → H' r = some (.lst ((crossUp ats.ties xs ats.length).map V.int)) → Q (.ref r) H'
def spLotOf (K : PySem.W.Frag) : Sp := fun vs H Q _ => ∃ (x a : Addr) (ns : List Str) (ats : Ats) (xs : List Str), vs = [.ref x, .ref a] ∧ WebAt K H x ns ats ∧ WebOk ns ats ∧ H a = some (.lst (xs.map V.str)) ∧ LotOk ns xs ∧
  ∀ r H', H r = none → Same H H' → H' r = some (.lst ((orderL ns xs).map V.str)) → Q (.ref r) H'
def spCrossing (K : PySem.W.Frag) : Sp := fun vs H Q _ => ∃ (x a : Addr) (ns : List Str) (ats : Ats) (xs : List Str), vs = [.ref x, .ref a] ∧ WebAt K H x ns ats ∧ WebOk ns ats ∧ H a = some (.lst (xs.map V.str)) ∧ LotOk ns xs ∧
  ∀ r H', H r = none → Same H H' → H' r = some (.lst ((crossUp ats.ties (orderL ns xs) ats.length).map V.int)) → Q (.ref r) H'
theorem flat_bls (x y : Bool) : scal (.bl x) (.bl y) = true := rfl
theorem mem_orderL {ns xs : List Str} (h : ∀ x ∈ xs, x ∈ ns) (z : Str) : z ∈ orderL ns xs ↔ z ∈ xs := by
  unfold orderL
  rw [List.mem_filter, decide_eq_true_iff]
  exact ⟨fun q => q.2, fun q => ⟨h z q, q⟩⟩
end PW

namespace PW
open PySem PySem.Spec PyProof.Rows L2
/-! ### a[i], b[j] = x, y of flat things -/
abbrev DStW := XC → List D → DEnv → (DEnv → Prop) → Prop
class DSt (K : PySem.W.Frag) (W : WXT) (g : TGs) (w : outParam DStW) : Prop where
  ok : ∀ {F : Fr} {σ : L2.St} {H : Hp} {ρ : DEnv} {X : XC} {vs : List V} {ds : List D} {R : DEnv → Prop} {Q : L2.St → Hp → Prop}, F.K = K → Env F σ ρ H → XLink F W X σ ρ H → vs = ds.map toV → ds.all D.flat = true → w X ds ρ R →
    (∀ ρ' H', R ρ' → Env F σ ρ' H' → Stp (OwnA σ ρ) H (OwnA σ ρ') H' → Q σ H') → g vs σ H Q
section
variable {K : PySem.W.Frag} {W : WXT}
def dstNil : DStW := fun _ ds ρ R => match ds with
  | [] => R ρ
  | _ => False
def dstCons (wo wi : DW) (ws : DStW) : DStW := fun X ds ρ R => match ds with
  | d :: ds => wo X ρ fun x ρ1 => wi X ρ1 fun n ρ2 => match rd ρ2 n with
    | some (_, .int k) => onList x.tmp ρ2 fun i r0 es => match ixN es.length k with
      | some j => ws X ds (ρ2.set i (some (.ow r0 (.lst (es.set j d))))) R
      | none => False
    | _ => False
  | [] => False
instance : DSt K W gNil dstNil where
  ok := fun {F σ H ρ X vs ds R Q} hK E L e f h q => by
    unfold dstNil at h
    split at h
    · subst e
      exact ⟨rfl, q _ _ h E (.refl _ _)⟩
    · exact h.elim
theorem flat_rep {K : PySem.W.Frag} {H : Hp} {d : D} (h : d.flat = true) : Rep K H (toV d) d := by
  cases d <;> first
    | (simp [D.flat] at h; done)
    | constructor
instance {to ti : TE} {wo wi : DW} {gs : TGs} {ws : DStW} [B : DE K W to wo] [C : DE K W ti wi] [A : DSt K W gs ws] : DSt K W (gCons (gSub to ti rSetL) gs) (dstCons wo wi ws) where
  ok := fun {F σ H ρ X vs ds R Q} hK E L e f h q => by
    subst e
    cases ds with
    | nil => exact h.elim
    | cons d ds =>
      rw [List.all_cons, Bool.and_eq_true] at f
      refine ⟨_, _, rfl, B.ok hK E L h fun x ρ2 v H2 h2 E2 s2 r2 => C.ok hK E2 (L.stp s2) h2 fun n ρ3 w H3 h3 E3 s3 r3 => ?_⟩
      have r2' : RepV F H σ ρ3 H3 v x.tmp := r2.stp E2 s3
      split at h3
      · rename_i rn k en
        cases (show w = .int k from r3.top E3 en)
        obtain ⟨i, r0, es, a, ws', h4, hi, rfl, hs, ha, hv⟩ := onList_at E3 r2' h3
        split at h4
        · rename_i j hj
          obtain ⟨E5, s5⟩ := E3.put (r' := r0) (d' := .lst (es.set j d)) (o := .lst (ws'.set j (toV d))) hi hs (fun z => by cases z) ⟨_, rfl, RepL.set (flat_rep f.1) j hv⟩
          exact ⟨a, ws', k, j, rfl, rfl, ha, by rw [hv.len]; exact hj, A.ok hK E5 (L.stp ((s2.trans s3).trans s5)) rfl f.2 h4 fun ρ' H' g1 E6 s6 => q ρ' H' g1 E6 (((s2.trans s3).trans s5).trans s6)⟩
        · exact h4.elim
      · exact h3.elim
def dStT (n : Nat) (ws : DStW) (w : DW) : DSW := fun X E ρ => w X ρ fun x ρ1 => match st ρ1 x with
  | some (_, .tup ds, ρ2) => ds.all D.flat = true ∧ ds.length = n ∧ ws X ds ρ2 E.nx
  | _ => False
theorem flat_vs {K : PySem.W.Frag} {H : Hp} : ∀ {vs : List V} {ds : List D}, RepL K H vs ds → ds.all D.flat = true → vs = ds.map toV
  | _, _, .nil, _ => rfl
  | _, _, .cons h g, f => by
    rw [List.all_cons, Bool.and_eq_true] at f
    rw [List.map_cons, flat_v (h.top fun _ _ z => z) f.1, flat_vs g f.2]
instance {n : Nat} {t : TE} {w : DW} {gs : TGs} {ws : DStW} [A : DE K W t w] [B : DSt K W gs ws] : DS K W (tAsg t (gTup K n gs)) (dStT n ws w) where
  ok := fun {F σ H ρ X E Dn} hK En L h nx bk ct rt => A.ok hK En L h fun x ρ1 v H1 h1 E1 s1 r1 => by
    split at h1
    · rename_i r ds ρ2 e
      obtain ⟨E2, s2, p2⟩ := r1.st E1 e
      obtain ⟨f, hl, h1⟩ := h1
      subst hK
      obtain ⟨a, vs, rfl, g1, g2⟩ := p2.top rh_le
      exact ⟨a, vs, rfl, SqT.of g1, by rw [g2.len]; exact hl, B.ok rfl E2 (L.stp (s1.trans s2)) (flat_vs g2 f) f h1 fun ρ' H' z E6 s6 => nx ρ' σ H' z E6 ((s1.trans s2).trans s6)⟩
    · exact h1.elim
end
end PW

namespace PW
open PySem PySem.Spec PyProof.Rows L2
/-! ### walks over dicts -/
def tLockI (_ : Nat) (t : TS) : TS := fun D σ H => tLock t D σ H ∨ t D σ H
theorem ps_lockI {X : Cx} {st : Stmt} {t : TS} (i : Nat) (h : PS X st t) : PS X st (tLockI i t) := by
  refine ⟨fun pins s σ H D I hw => ?_⟩
  rcases hw with hw | hw
  · exact (ps_lock h).run pins s σ H D I hw
  · exact h.run pins s σ H D I hw
/-- a heap in which the dict at a is locked -/
structure Lkd (a : Addr) (H H' : Hp) : Prop where
  ot : ∀ b o, b ≠ a → H b = some o → H' b = some o
  at_ : ∀ o, H a = some o → H' a = some o ∨ ∃ od, H' a = some (.frz od o)
  dict : ∀ o, H a = some o → (∃ kvs, o = .dK kvs) ∨ (∃ kvs, o = .dT kvs) ∨ (∃ od kvs, o = .frz od (.dK kvs)) ∨ ∃ od kvs, o = .frz od (.dT kvs)
  nof : ∀ od o, H a = some (.frz od o) → H' a = some (.frz od o)
theorem Lkd.ne {a b : Addr} {H H' : Hp} {o : HO} (l : Lkd a H H') (h : H b = some o) (n1 : ∀ kvs, o ≠ .dK kvs) (n2 : ∀ kvs, o ≠ .dT kvs) (n3 : ∀ od u, o ≠ .frz od u) : H' b = some o := by
  refine l.ot b o (fun e => ?_) h
  subst e
  rcases l.dict o h with ⟨_, z⟩ | ⟨_, z⟩ | ⟨_, _, z⟩ | ⟨_, _, z⟩
  · exact n1 _ z
  · exact n2 _ z
  · exact n3 _ _ z
  · exact n3 _ _ z
theorem Lkd.rd {a b : Addr} {H H' : Hp} {u : HO} (l : Lkd a H H') (h : Rd H b u) : Rd H' b u := by
  by_cases e : b = a
  · subst e
    rcases h with h | ⟨od, h⟩
    · rcases l.at_ u h with z | z
      · exact .inl z
      · exact .inr z
    · exact .inr ⟨od, l.nof od u h⟩
  · rcases h with h | ⟨od, h⟩
    · exact .inl (l.ot b _ e h)
    · exact .inr ⟨od, l.ot b _ e h⟩
section
variable {K : PySem.W.Frag} {H H' : Hp} {a : Addr}
mutual
theorem Rep.lkd (l : Lkd a H H') : ∀ {v : V} {d : D}, Rep K H v d → Rep K H' v d
  | _, _, .non => .non
  | _, _, .bl b => .bl b
  | _, _, .int i => .int i
  | _, _, .str s => .str s
  | _, _, .ty n => .ty n
  | _, _, .lst h g => .lst (l.ne h (fun _ z => by cases z) (fun _ z => by cases z) (fun _ _ z => by cases z)) (RepL.lkd l g)
  | _, _, .tup h g => .tup (l.ne h (fun _ z => by cases z) (fun _ z => by cases z) (fun _ _ z => by cases z)) (RepL.lkd l g)
  | _, _, .dK h k g => .dK (l.rd h) k (RepL.lkd l g)
  | _, _, .dT h k g => .dT (l.rd h) k (RepL.lkd l g)
  | _, _, .ins h k g => .ins (l.ne h (fun _ z => by cases z) (fun _ z => by cases z) (fun _ _ z => by cases z)) k (RepL.lkd l g)
theorem RepL.lkd (l : Lkd a H H') : ∀ {vs : List V} {ds : List D}, RepL K H vs ds → RepL K H' vs ds
  | _, _, .nil => .nil
  | _, _, .cons h g => .cons (Rep.lkd l h) (RepL.lkd l g)
end
end
/-- the same, back: the lock is taken off -/
structure Unl (a : Addr) (H H' : Hp) : Prop where
  ot : ∀ b o, b ≠ a → H b = some o → H' b = some o
  at_ : ∀ o, H a = some o → ∃ od u, o = .frz od u ∧ H' a = some u
theorem Unl.rd {a b : Addr} {H H' : Hp} {u : HO} (l : Unl a H H') (h : Rd H b u) (nf : ∀ od w, u ≠ .frz od w) : Rd H' b u := by
  by_cases e : b = a
  · subst e
    rcases h with h | ⟨od, h⟩
    · obtain ⟨od, w, z, _⟩ := l.at_ _ h
      exact absurd z (nf od w)
    · obtain ⟨_, w, z, y⟩ := l.at_ _ h
      cases z
      exact .inl y
  · rcases h with h | ⟨od, h⟩
    · exact .inl (l.ot b _ e h)
    · exact .inr ⟨od, l.ot b _ e h⟩
theorem Unl.ne {a b : Addr} {H H' : Hp} {o : HO} (l : Unl a H H') (h : H b = some o) (n3 : ∀ od u, o ≠ .frz od u) : H' b = some o := by
  refine l.ot b o (fun e => ?_) h
  subst e
  obtain ⟨od, u, z, _⟩ := l.at_ _ h
  exact n3 _ _ z
section
variable {K : PySem.W.Frag} {H H' : Hp} {a : Addr}
mutual
theorem Rep.unl (l : Unl a H H') : ∀ {v : V} {d : D}, Rep K H v d → Rep K H' v d
  | _, _, .non => .non
  | _, _, .bl b => .bl b
  | _, _, .int i => .int i
  | _, _, .str s => .str s
  | _, _, .ty n => .ty n
  | _, _, .lst h g => .lst (l.ne h (fun _ _ z => by cases z)) (RepL.unl l g)
  | _, _, .tup h g => .tup (l.ne h (fun _ _ z => by cases z)) (RepL.unl l g)
  | _, _, .dK h k g => .dK (l.rd h fun _ _ z => by cases z) k (RepL.unl l g)
  | _, _, .dT h k g => .dT (l.rd h fun _ _ z => by cases z) k (RepL.unl l g)
  | _, _, .ins h k g => .ins (l.ne h (fun _ _ z => by cases z)) k (RepL.unl l g)
theorem RepL.unl (l : Unl a H H') : ∀ {vs : List V} {ds : List D}, RepL K H vs ds → RepL K H' vs ds
  | _, _, .nil => .nil
  | _, _, .cons h g => .cons (Rep.unl l h) (RepL.unl l g)
end
end
theorem XRep.lkd {K : PySem.W.Frag} {H H' : Hp} {a : Addr} {dd : Option Addr} {x : Exn} (h : XRep K H dd x) (l : Lkd a H H') : XRep K H' dd x := by
  unfold XRep at h ⊢
  split at h
  · exact h
  · obtain ⟨b, fvs, h1, h2, h3, h4⟩ := h
    exact ⟨b, fvs, h1, l.ne h2 (fun _ z => by cases z) (fun _ z => by cases z) (fun _ _ z => by cases z), h3, h4.lkd l⟩
theorem XRep.unl {K : PySem.W.Frag} {H H' : Hp} {a : Addr} {dd : Option Addr} {x : Exn} (h : XRep K H dd x) (l : Unl a H H') : XRep K H' dd x := by
  unfold XRep at h ⊢
  split at h
  · exact h
  · obtain ⟨b, fvs, h1, h2, h3, h4⟩ := h
    exact ⟨b, fvs, h1, l.ne h2 (fun _ _ z => by cases z), h3, h4.unl l⟩
theorem LkP.lkd {K : PySem.W.Frag} {H H' : Hp} {a b : Addr} {d : D} (h : LkP K H b d) (l : Lkd a H H') : LkP K H' b d := by
  have key : ∀ od u, H b = some (.frz od u) → H' b = some (.frz od u) := fun od u h => by
    by_cases e : b = a
    · subst e
      exact l.nof od u h
    · exact l.ot b _ e h
  cases d with
  | dK es =>
    obtain ⟨od, kvs, h1, h2, h3⟩ := h
    exact ⟨od, kvs, key _ _ h1, h2, h3.lkd l⟩
  | dT es =>
    obtain ⟨od, kvs, h1, h2, h3⟩ := h
    exact ⟨od, kvs, key _ _ h1, h2, h3.lkd l⟩
  | _ => exact h.elim
/-- nothing told of the entry, and only slot i's dict may be walked -/
def lockOk (ρ : DEnv) (i : Nat) : Bool := (List.range ρ.length).all fun j => match ρ[j]? with
  | some (some (.pa _ _)) => false
  | some (some (.po _)) => false
  | some (some (.lk _ _)) => decide (j = i)
  | _ => true
theorem lockOk_at {ρ : DEnv} {i j : Nat} {s : Sl} (h : lockOk ρ i = true) (e : ρ[j]? = some (some s)) : (∀ r d, s ≠ .pa r d) ∧ (∀ d, s ≠ .po d) ∧ ∀ r d, s = .lk r d → j = i := by
  have hj : j < ρ.length := (List.getElem?_eq_some_iff.mp e).1
  have := List.all_eq_true.mp h j (List.mem_range.mpr hj)
  rw [e] at this
  refine ⟨?_, ?_, ?_⟩
  · intro r d z
    subst z
    cases this
  · intro d z
    subst z
    cases this
  · intro r d z
    subst z
    exact of_decide_eq_true this
def isDictB : D → Bool
  | .dK _ => true
  | .dT _ => true
  | _ => false
theorem RepO.lkd {K : PySem.W.Frag} {H H' : Hp} {a : Addr} {o : Option HO} {d : D} (h : RepO K H o d) (l : Lkd a H H') : RepO K H' o d := by
  cases d with
  | lst ds => obtain ⟨vs, h1, h2⟩ := h; exact ⟨vs, h1, h2.lkd l⟩
  | dK es => obtain ⟨kvs, h1, h2, h3⟩ := h; exact ⟨kvs, h1, h2, h3.lkd l⟩
  | dT es => obtain ⟨kvs, h1, h2, h3⟩ := h; exact ⟨kvs, h1, h2, h3.lkd l⟩
  | ins c es => obtain ⟨dx, kvs, h1, h2, h3⟩ := h; exact ⟨dx, kvs, h1, h2, h3.lkd l⟩
  | pot => exact h
  | wlk w ks ms us => exact ⟨h.1, h.2.lkd l⟩
  | _ => exact h.elim
theorem RepO.unl {K : PySem.W.Frag} {H H' : Hp} {a : Addr} {o : Option HO} {d : D} (h : RepO K H o d) (l : Unl a H H') : RepO K H' o d := by
  cases d with
  | lst ds => obtain ⟨vs, h1, h2⟩ := h; exact ⟨vs, h1, h2.unl l⟩
  | dK es => obtain ⟨kvs, h1, h2, h3⟩ := h; exact ⟨kvs, h1, h2, h3.unl l⟩
  | dT es => obtain ⟨kvs, h1, h2, h3⟩ := h; exact ⟨kvs, h1, h2, h3.unl l⟩
  | ins c es => obtain ⟨dx, kvs, h1, h2, h3⟩ := h; exact ⟨dx, kvs, h1, h2, h3.unl l⟩
  | pot => exact h
  | wlk w ks ms us => exact ⟨h.1, h.2.unl l⟩
  | _ => exact h.elim
theorem RepO.nofrz {K : PySem.W.Frag} {H : Hp} {o : Option HO} {d : D} (h : RepO K H o d) (od : Obj) (u : HO) : o ≠ some (.frz od u) := fun z => by
  subst z
  cases d with
  | lst ds => obtain ⟨vs, h1, _⟩ := h; cases h1
  | dK es => obtain ⟨kvs, h1, _⟩ := h; cases h1
  | dT es => obtain ⟨kvs, h1, _⟩ := h; cases h1
  | ins c es => obtain ⟨dx, kvs, h1, _⟩ := h; cases h1
  | pot => obtain ⟨x, y, _, _, h1⟩ := h; cases h1
  | wlk w ks ms us => cases h.1
  | _ => exact h.elim
def lkF (F : Fr) (a : Addr) : Fr := { F with lk := fun b => b = a ∨ F.lk b }
section
variable {F : Fr} {σ : L2.St} {ρ : DEnv} {H : Hp} {i : Nat} {r : Bool} {d : D} {a : Addr} {u : HO} {od : Obj}
theorem own_nset {s : Sl} (h : ρ[i]? = some (some s)) (hs : ∀ r d, s ≠ .ow r d) (s' : Sl) (hs' : ∀ r d, s' ≠ .ow r d) (b : Addr) : OwnA σ (ρ.set i (some s')) b ↔ OwnA σ ρ b := by
  constructor
  · rintro ⟨j, rj, dj, h1, h2⟩
    by_cases hj : j = i
    · subst hj
      rw [List.getElem?_set_self (List.getElem?_eq_some_iff.mp h).1] at h1
      exact absurd (Option.some.inj (Option.some.inj h1)) (hs' rj dj)
    · rw [List.getElem?_set_ne (Ne.symm hj)] at h1
      exact ⟨j, rj, dj, h1, h2⟩
  · rintro ⟨j, rj, dj, h1, h2⟩
    have hj : j ≠ i := fun z => by
      subst z
      rw [h] at h1
      exact hs rj dj (Option.some.inj (Option.some.inj h1))
    exact ⟨j, rj, dj, by rw [List.getElem?_set_ne (Ne.symm hj)]; exact h1, h2⟩
theorem Env.lock1 (E : Env F σ ρ H) (hi : ρ[i]? = some (some (.sh r d))) (hs : σ[i]? = some (some (.ref a))) (ok : lockOk ρ i = true) (hu : H a = some u) (hd : (∃ kvs, u = .dK kvs) ∨ ∃ kvs, u = .dT kvs) (rep : Rep F.K (F.RH (OwnA σ ρ) H r) (.ref a) d) (di : isDictB d = true) (od : Obj) :
    Env (lkF F a) σ (ρ.set i (some (.lk r d))) (upd H a (.frz od u)) ∧ (∀ b, OwnA σ (ρ.set i (some (.lk r d))) b ↔ OwnA σ ρ b) ∧ ¬ OwnA σ ρ a ∧ ¬ F.hid a := by
  have hil := (List.getElem?_eq_some_iff.mp hi).1
  have own := own_nset (σ := σ) hi (fun _ _ z => by cases z) (.lk r d) (fun _ _ z => by cases z)
  have at_i : (ρ.set i (some (.lk r d)))[i]? = some (some (.lk r d)) := List.getElem?_set_self hil
  have at_j : ∀ j, j ≠ i → (ρ.set i (some (.lk r d)))[j]? = ρ[j]? := fun j hj => List.getElem?_set_ne (Ne.symm hj)
  have nt : ∀ xs, u ≠ .tup xs := fun xs z => by
    subst z
    rcases hd with ⟨_, z⟩ | ⟨_, z⟩ <;> cases z
  have nf : ∀ od w, u ≠ .frz od w := fun od w z => by
    subst z
    rcases hd with ⟨_, z⟩ | ⟨_, z⟩ <;> cases z
  have rha : F.RH (OwnA σ ρ) H r a = some u := by
    have key : ∀ w, Rd (F.RH (OwnA σ ρ) H r) a w → (∀ od z, w ≠ .frz od z) → F.RH (OwnA σ ρ) H r a = some u := fun w h _ => by
      rcases h with h | ⟨o, h⟩
      · have := cut_le _ _ h
        rw [hu] at this
        cases this
        exact h
      · have := cut_le _ _ h
        rw [hu] at this
        exact absurd (Option.some.inj this) (nf _ _)
    cases rep with
    | dK h _ _ => exact key _ h (fun _ _ z => by cases z)
    | dT h _ _ => exact key _ h (fun _ _ z => by cases z)
    | lst h _ => cases di
    | tup h _ => cases di
    | ins h _ _ => cases di
  have nbad : ¬ F.bad (OwnA σ ρ) r a := by
    rcases (cut_inv rha).2 with z | ⟨xs, z⟩
    · exact z
    · exact absurd z (nt xs)
  have nown : ¬ OwnA σ ρ a := fun z => nbad (.inr (.inl z))
  have nhid : ¬ F.hid a := fun z => nbad (.inl z)
  have ll : ∀ r', Lkd a (F.RH (OwnA σ ρ) H r') ((lkF F a).RH (OwnA σ (ρ.set i (some (.lk r d)))) (upd H a (.frz od u)) r') := fun r' => by
    have bad' : ∀ b, (lkF F a).bad (OwnA σ (ρ.set i (some (.lk r d)))) r' b ↔ F.bad (OwnA σ ρ) r' b := fun b => by
      unfold Fr.bad lkF
      rw [own b]
    refine ⟨fun b o hb h => ?_, fun o h => ?_, fun o h => ?_, fun od' o h => ?_⟩
    · obtain ⟨h1, h2⟩ := cut_inv h
      have h1' : upd H a (.frz od u) b = some o := by rw [upd_ne hb]; exact h1
      rcases h2 with h2 | ⟨xs, rfl⟩
      · exact cut_of h1' fun z => h2 ((bad' b).mp z)
      · exact cut_tup h1'
    · obtain ⟨h1, h2⟩ := cut_inv h
      rw [hu] at h1
      cases h1
      rcases h2 with h2 | ⟨xs, z⟩
      · exact .inr ⟨od, cut_of upd_same fun z => h2 ((bad' a).mp z)⟩
      · exact absurd z (nt xs)
    · obtain ⟨h1, _⟩ := cut_inv h
      rw [hu] at h1
      cases h1
      exact hd.imp_right .inl
    · obtain ⟨h1, _⟩ := cut_inv h
      rw [hu] at h1
      exact absurd (Option.some.inj h1) (nf _ _)
  have nj : ∀ {j : Nat} {r' : Bool} {d' : D}, (ρ.set i (some (.lk r d)))[j]? = some (some (.ow r' d')) → ρ[j]? = some (some (.ow r' d')) := fun {j r' d'} h => by
    have hji : j ≠ i := fun z => by
      subst z
      rw [at_i] at h
      cases h
    rw [at_j j hji] at h
    exact h
  refine ⟨⟨?_, fun b o hb np npx => ?_, fun j rj dj hj => ?_, fun j rj dj hj => ?_, fun j k b ⟨rj, dj, hj, sj⟩ ⟨rk, dk, hk, sk⟩ => ?_, fun b hb => ?_, fun b hb => ?_, fun j rj dj hj => ?_, fun j rj dj b hj hb => E.xt j rj dj b (nj hj) hb, fun b hb => ?_, fun b xs hb => ?_, fun b o hb hx => ?_, E.tc, fun b ns hb => ?_, fun j s hj => ?_⟩, own, nown, nhid⟩
  · rw [List.length_set]
    exact E.len
  · by_cases e : b = a
    · subst e
      rcases E.keep b o hb np npx with z | ⟨_, od', z⟩
      · rw [hu] at z
        cases z
        exact .inr ⟨.inl rfl, od, upd_same⟩
      · rw [hu] at z
        exact absurd (Option.some.inj z) (nf _ _)
    · rw [upd_ne e]
      rcases E.keep b o hb np npx with z | ⟨l, od', z⟩
      · exact .inl z
      · exact .inr ⟨.inr l, od', z⟩
  · have hji : j ≠ i := fun z => by
      subst z
      rw [at_i] at hj
      cases hj
    rw [at_j j hji] at hj
    obtain ⟨v, h1, h2⟩ := E.sh j rj dj hj
    exact ⟨v, h1, h2.lkd (ll rj)⟩
  · have hji : j ≠ i := fun z => by
      subst z
      rw [at_i] at hj
      cases hj
    rw [at_j j hji] at hj
    obtain ⟨b, h1, h2, h3, h4⟩ := E.ow j rj dj hj
    have hba : b ≠ a := fun z => nown ⟨j, rj, dj, hj, .inl (z ▸ h1)⟩
    exact ⟨b, h1, by rw [upd_ne hba]; exact h2.lkd (ll rj), h3, h4⟩
  · exact E.inj j k b ⟨rj, dj, nj hj, sj⟩ ⟨rk, dk, nj hk, sk⟩
  · obtain ⟨r0, d0, h1, h2, h3⟩ := E.pt b hb
    have : (0 : Nat) ≠ i := fun z => by
      subst z
      rw [hi] at h1
      cases h1
    exact ⟨r0, d0, by rw [at_j 0 this]; exact h1, h2, h3⟩
  · obtain ⟨⟨o, ho⟩, hz⟩ := E.hidIn b hb
    refine ⟨?_, hz⟩
    by_cases e : b = a
    · exact ⟨_, by rw [e]; exact upd_same⟩
    · exact ⟨o, by rw [upd_ne e]; exact ho⟩
  · refine (E.xo j rj dj (nj hj)).same fun b hb o ho => ?_
    have hba : b ≠ a := fun z => nown ⟨j, rj, dj, nj hj, .inr (z ▸ hb)⟩
    rw [upd_ne hba]
    exact ho
  · obtain ⟨o, ho⟩ := E.pxIn b hb
    by_cases e : b = a
    · exact ⟨_, by rw [e]; exact upd_same⟩
    · exact ⟨o, by rw [upd_ne e]; exact ho⟩
  · have h1 := E.tp b xs hb
    have hba : b ≠ a := fun z => by
      rw [z, hu] at h1
      exact nt _ (Option.some.inj h1)
    rw [upd_ne hba]
    exact h1
  · exact E.hc b o hb fun z => hx (by
      rcases z with z | z | z | z
      · exact .inl z
      · exact .inr (.inl z)
      · exact .inr (.inr (.inl (.inr z)))
      · exact .inr (.inr (.inr z)))
  · rcases E.sc b ns hb with ⟨rd, n1, n2, n3⟩ | z
    · refine .inl ⟨rd, n1, fun z => ?_, n3⟩
      rcases z with rfl | z
      · have key : ∀ o, F.H0 b = some o → u = o := fun o ho => by
          rcases E.keep b o ho n1 n3 with z | ⟨z, _⟩
          · rw [hu] at z
            exact Option.some.inj z
          · exact absurd z n2
        rcases rd with rd | ⟨od', rd⟩
        · have := key _ rd
          subst this
          rcases hd with ⟨_, z⟩ | ⟨_, z⟩ <;> cases z
        · exact nf _ _ (key _ rd)
      · exact n2 z
    · exact .inr z
  · by_cases hji : j = i
    · subst hji
      rw [at_i] at hj
      cases hj
      refine ⟨a, hs, ?_⟩
      have la := (ll r).at_ u rha
      have la : (lkF F a).RH (OwnA σ (ρ.set j (some (.lk r d)))) (upd H a (.frz od u)) r a = some (.frz od u) := by
        rcases la with z | ⟨od', z⟩
        · have := cut_le _ _ z
          rw [upd_same] at this
          exact absurd (Option.some.inj this).symm (nf _ _)
        · have := cut_le _ _ z
          rw [upd_same] at this
          cases this
          exact z
      cases rep with
      | @dK _ kvs es h k g =>
        have hk : u = .dK kvs := by
          rcases h with h | ⟨o, h⟩
          · rw [rha] at h
            exact Option.some.inj h
          · rw [rha] at h
            exact absurd (Option.some.inj h) (nf _ _)
        subst hk
        exact ⟨od, kvs, la, k, g.lkd (ll r)⟩
      | @dT _ kvs es h k g =>
        have hk : u = .dT kvs := by
          rcases h with h | ⟨o, h⟩
          · rw [rha] at h
            exact Option.some.inj h
          · rw [rha] at h
            exact absurd (Option.some.inj h) (nf _ _)
        subst hk
        exact ⟨od, kvs, la, k, g.lkd (ll r)⟩
      | lst h _ => cases di
      | tup h _ => cases di
      | ins h _ _ => cases di
    · rw [at_j j hji] at hj
      obtain ⟨n1, n2, n3⟩ := lockOk_at ok hj
      have g := E.raw j s hj
      cases s with
      | scr ns => exact g
      | lk r' d' => exact absurd (n3 r' d' rfl) hji
      | exn b dd x => exact ⟨g.1, g.2.lkd (ll true)⟩
      | exo b dd x => exact ⟨g.1, g.2.lkd (ll false)⟩
      | pa r' d' => exact absurd rfl (n1 r' d')
      | po d' => exact absurd rfl (n2 d')
      | _ => trivial
theorem Env.unlock1 (E : Env (lkF F a) σ ρ H) (hi : ρ[i]? = some (some (.lk r d))) (ok : lockOk ρ i = true) (hu : H a = some (.frz od u)) (hd : (∃ kvs, u = .dK kvs) ∨ ∃ kvs, u = .dT kvs) (h0 : ∀ o, F.H0 a = some o → F.pt ≠ some a → ¬ F.px a → o = u) (hc0 : ∀ b o, F.Hx b = some o → ¬ F.ex b → F.H0 b = some o) :
    Env F σ (ρ.set i (some (.sh r d))) (upd H a u) ∧ (∀ b, OwnA σ (ρ.set i (some (.sh r d))) b ↔ OwnA σ ρ b) ∧ ∀ r', Unl a ((lkF F a).RH (OwnA σ ρ) H r') (F.RH (OwnA σ (ρ.set i (some (.sh r d)))) (upd H a u) r') := by
  have hil := (List.getElem?_eq_some_iff.mp hi).1
  have own := own_nset (σ := σ) hi (fun _ _ z => by cases z) (.sh r d) (fun _ _ z => by cases z)
  have at_i : (ρ.set i (some (.sh r d)))[i]? = some (some (.sh r d)) := List.getElem?_set_self hil
  have at_j : ∀ j, j ≠ i → (ρ.set i (some (.sh r d)))[j]? = ρ[j]? := fun j hj => List.getElem?_set_ne (Ne.symm hj)
  have nt : ∀ xs, u ≠ .tup xs := fun xs z => by
    subst z
    rcases hd with ⟨_, z⟩ | ⟨_, z⟩ <;> cases z
  have nf : ∀ od w, u ≠ .frz od w := fun od w z => by
    subst z
    rcases hd with ⟨_, z⟩ | ⟨_, z⟩ <;> cases z
  have ll : ∀ r', Unl a ((lkF F a).RH (OwnA σ ρ) H r') (F.RH (OwnA σ (ρ.set i (some (.sh r d)))) (upd H a u) r') := fun r' => by
    have bad' : ∀ b, (lkF F a).bad (OwnA σ ρ) r' b ↔ F.bad (OwnA σ (ρ.set i (some (.sh r d)))) r' b := fun b => by
      unfold Fr.bad lkF
      rw [own b]
    refine ⟨fun b o hb h => ?_, fun o h => ?_⟩
    · obtain ⟨h1, h2⟩ := cut_inv h
      have h1' : upd H a u b = some o := by rw [upd_ne hb]; exact h1
      rcases h2 with h2 | ⟨xs, rfl⟩
      · exact cut_of h1' fun z => h2 ((bad' b).mpr z)
      · exact cut_tup h1'
    · obtain ⟨h1, h2⟩ := cut_inv h
      rw [hu] at h1
      cases h1
      rcases h2 with h2 | ⟨xs, z⟩
      · exact ⟨od, u, rfl, cut_of upd_same fun z => h2 ((bad' a).mpr z)⟩
      · cases z
  have nj : ∀ {j : Nat} {r' : Bool} {d' : D}, (ρ.set i (some (.sh r d)))[j]? = some (some (.ow r' d')) → ρ[j]? = some (some (.ow r' d')) := fun {j r' d'} h => by
    have hji : j ≠ i := fun z => by
      subst z
      rw [at_i] at h
      cases h
    rw [at_j j hji] at h
    exact h
  refine ⟨⟨?_, fun b o hb np npx => ?_, fun j rj dj hj => ?_, fun j rj dj hj => ?_, fun j k b ⟨rj, dj, hj, sj⟩ ⟨rk, dk, hk, sk⟩ => ?_, fun b hb => ?_, fun b hb => ?_, fun j rj dj hj => ?_, fun j rj dj b hj hb => E.xt j rj dj b (nj hj) hb, fun b hb => ?_, fun b xs hb => ?_, fun b o hb hx => ?_, E.tc, fun b ns hb => ?_, fun j s hj => ?_⟩, own, ll⟩
  · rw [List.length_set]
    exact E.len
  · by_cases e : b = a
    · subst e
      cases h0 o hb np npx
      exact .inl upd_same
    · rw [upd_ne e]
      rcases E.keep b o hb np npx with z | ⟨l, od', z⟩
      · exact .inl z
      · rcases l with l | l
        · exact absurd l e
        · exact .inr ⟨l, od', z⟩
  · by_cases hji : j = i
    · subst hji
      rw [at_i] at hj
      cases hj
      obtain ⟨b, g1, g2⟩ := E.raw j _ hi
      exact ⟨.ref b, g1, g2.rep.unl (ll r)⟩
    · rw [at_j j hji] at hj
      obtain ⟨v, h1, h2⟩ := E.sh j rj dj hj
      exact ⟨v, h1, h2.unl (ll rj)⟩
  · have hji : j ≠ i := fun z => by
      subst z
      rw [at_i] at hj
      cases hj
    rw [at_j j hji] at hj
    obtain ⟨b, h1, h2, h3, h4⟩ := E.ow j rj dj hj
    have hba : b ≠ a := fun z => h2.nofrz od u (by rw [z]; exact hu)
    exact ⟨b, h1, by rw [upd_ne hba]; exact h2.unl (ll rj), h3, h4⟩
  · exact E.inj j k b ⟨rj, dj, nj hj, sj⟩ ⟨rk, dk, nj hk, sk⟩
  · obtain ⟨r0, d0, h1, h2, h3⟩ := E.pt b hb
    have : (0 : Nat) ≠ i := fun z => by
      subst z
      rw [hi] at h1
      cases h1
    exact ⟨r0, d0, by rw [at_j 0 this]; exact h1, h2, h3⟩
  · obtain ⟨⟨o, ho⟩, hz⟩ := E.hidIn b hb
    refine ⟨?_, hz⟩
    by_cases e : b = a
    · exact ⟨_, by rw [e]; exact upd_same⟩
    · exact ⟨o, by rw [upd_ne e]; exact ho⟩
  · refine (E.xo j rj dj (nj hj)).same fun b hb o ho => ?_
    have hba : b ≠ a := fun z => by
      obtain ⟨o, ho, _⟩ := (E.xo j rj dj (nj hj)).there hb
      subst z
      have q := E.xo j rj dj (nj hj)
      cases dj with
      | wlk w ks ms us =>
        have q : H w.am = some (.lst (ms.map V.str)) ∧ H w.au = some (.dK (us.map fun n => ((Sum.inl n : Key), V.bl true))) := q
        rcases List.mem_cons.mp hb with e | hb
        · rw [← e, hu] at q
          cases q.1
        · rw [← List.mem_singleton.mp hb, hu] at q
          cases q.2
      | _ => cases hb
    rw [upd_ne hba]
    exact ho
  · obtain ⟨o, ho⟩ := E.pxIn b hb
    by_cases e : b = a
    · exact ⟨_, by rw [e]; exact upd_same⟩
    · exact ⟨o, by rw [upd_ne e]; exact ho⟩
  · have h1 := E.tp b xs hb
    have hba : b ≠ a := fun z => by
      rw [z, hu] at h1
      cases h1
    rw [upd_ne hba]
    exact h1
  · by_cases e : b = a
    · subst e
      exact hc0 _ _ hb hx
    · exact E.hc b o hb fun z => hx (by
        rcases z with z | z | (z | z) | z
        · exact .inl z
        · exact .inr (.inl z)
        · exact absurd z e
        · exact .inr (.inr (.inl z))
        · exact .inr (.inr (.inr z)))
  · rcases E.sc b ns hb with ⟨rd, n1, n2, n3⟩ | z
    · exact .inl ⟨rd, n1, fun z => n2 (.inr z), n3⟩
    · exact .inr z
  · by_cases hji : j = i
    · subst hji
      rw [at_i] at hj
      cases hj
      trivial
    · rw [at_j j hji] at hj
      obtain ⟨n1, n2, n3⟩ := lockOk_at ok hj
      have g := E.raw j s hj
      cases s with
      | scr ns => exact g
      | lk r' d' => exact absurd (n3 r' d' rfl) hji
      | exn b dd x => exact ⟨g.1, g.2.unl (ll true)⟩
      | exo b dd x => exact ⟨g.1, g.2.unl (ll false)⟩
      | pa r' d' => exact absurd rfl (n1 r' d')
      | po d' => exact absurd rfl (n2 d')
      | _ => trivial
end
/-! ### a statement that walks over the dict of slot i -/
def lkEnds (i : Nat) (r : Bool) (d : D) (E : DEnds) : DEnds where
  nx := fun ρ => ρ[i]? = some (some (.lk r d)) ∧ lockOk ρ i = true ∧ E.nx (ρ.set i (some (.sh r d)))
  rt := fun v ρ => ρ[i]? = some (some (.lk r d)) ∧ lockOk ρ i = true ∧ E.rt v (ρ.set i (some (.sh r d)))
  bk := fun ρ => ρ[i]? = some (some (.lk r d)) ∧ lockOk ρ i = true ∧ E.bk (ρ.set i (some (.sh r d)))
  ct := fun ρ => ρ[i]? = some (some (.lk r d)) ∧ lockOk ρ i = true ∧ E.ct (ρ.set i (some (.sh r d)))
def dLock (i : Nat) (w : DSW) : DSW := fun _ E ρ => match ρ[i]? with
  | some (some (.sh r d)) => isDictB d = true ∧ lockOk ρ i = true ∧ w noX (lkEnds i r d E) (ρ.set i (some (.lk r d)))
  | some (some (.ow r d)) => isDictB d = true ∧ lockOk ρ i = true ∧ w noX (lkEnds i r d E) (ρ.set i (some (.lk r d)))
  | _ => False
theorem Stp.own {O O1 O' : Addr → Prop} {H H' : Hp} (s : Stp O H O' H') (e : ∀ b, O1 b ↔ O b) : Stp O1 H O' H' := ⟨fun a o h n => s.kp a o h fun z => n ((e a).mpr z), s.dom⟩
theorem lock_sh {K : PySem.W.Frag} {W : WXT} {t : TS} {w : DSW} [A : DS K W t w] {F : Fr} {σ : L2.St} {H : Hp} {ρ : DEnv} {E : DEnds} {Dn : Ends} {i : Nat} {r : Bool} {d : D} (hK : F.K = K) (En : Env F σ ρ H) (hi : ρ[i]? = some (some (.sh r d))) (di : isDictB d = true) (ok : lockOk ρ i = true)
    (h : w noX (lkEnds i r d E) (ρ.set i (some (.lk r d))))
    (nx : ∀ ρ' σ' H', E.nx ρ' → Env F σ' ρ' H' → Stp (OwnA σ ρ) H (OwnA σ' ρ') H' → Dn.nx σ' H')
    (bk : ∀ ρ' σ' H', E.bk ρ' → Env F σ' ρ' H' → Stp (OwnA σ ρ) H (OwnA σ' ρ') H' → Dn.bk σ' H')
    (ct : ∀ ρ' σ' H', E.ct ρ' → Env F σ' ρ' H' → Stp (OwnA σ ρ) H (OwnA σ' ρ') H' → Dn.ct σ' H')
    (rt : ∀ d ρ' σ' v H', E.rt d ρ' → Env F σ' ρ' H' → Stp (OwnA σ ρ) H (OwnA σ' ρ') H' → Rep F.K (F.RH (OwnA σ' ρ') H' true) v d → Dn.rt v H') : tLockI i t Dn σ H := by
  obtain ⟨v, hs, rep⟩ := En.sh i r d hi
  have hil := (List.getElem?_eq_some_iff.mp hi).1
  -- what stands there
  obtain ⟨a, rfl, u, hr, hd⟩ : ∃ a, v = .ref a ∧ ∃ u, Rd (F.RH (OwnA σ ρ) H r) a u ∧ ((∃ kvs, u = .dK kvs) ∨ ∃ kvs, u = .dT kvs) := by
    cases rep with
    | dK y1 _ _ => exact ⟨_, rfl, _, y1, .inl ⟨_, rfl⟩⟩
    | dT y1 _ _ => exact ⟨_, rfl, _, y1, .inr ⟨_, rfl⟩⟩
    | _ => cases di
  have nf : ∀ od w, u ≠ .frz od w := fun od w z => by
    subst z
    rcases hd with ⟨_, z⟩ | ⟨_, z⟩ <;> cases z
  rcases hr with hr | ⟨od, hr⟩
  · -- lock it
    have hu := cut_le _ _ hr
    refine .inl ⟨a, u, hu, ?_, fun od => ?_⟩
    · rcases hd with ⟨_, rfl⟩ | ⟨_, rfl⟩ <;> trivial
    obtain ⟨E1, own1, nown, nhid⟩ := En.lock1 hi hs ok hu hd rep di od
    have h0 : ∀ o, F.H0 a = some o → F.pt ≠ some a → ¬ F.px a → o = u := fun o z np npx => by
      rcases En.keep a o z np npx with y | ⟨_, od', y⟩
      · rw [hu] at y
        exact (Option.some.inj y).symm
      · rw [hu] at y
        exact absurd (Option.some.inj y) (nf _ _)
    have back : ∀ {ρ' : DEnv} {σ' : L2.St} {H' : Hp}, ρ'[i]? = some (some (.lk r d)) → lockOk ρ' i = true → Env (lkF F a) σ' ρ' H' → Stp (OwnA σ (ρ.set i (some (.lk r d)))) (upd H a (.frz od u)) (OwnA σ' ρ') H' →
        H' a = some (.frz od u) ∧ Env F σ' (ρ'.set i (some (.sh r d))) (upd H' a u) ∧ Stp (OwnA σ ρ) H (OwnA σ' (ρ'.set i (some (.sh r d)))) (upd H' a u) ∧ ∀ r', Unl a ((lkF F a).RH (OwnA σ' ρ') H' r') (F.RH (OwnA σ' (ρ'.set i (some (.sh r d)))) (upd H' a u) r') := fun {ρ' σ' H'} hi' ok' E' s' => by
      obtain ⟨ha', no'⟩ := s'.kp a _ upd_same fun z => nown ((own1 a).mp z)
      obtain ⟨E2, own2, ul⟩ := E'.unlock1 hi' ok' ha' hd h0 En.hc
      refine ⟨ha', E2, ⟨fun b o hb nb => ?_, fun b hb => ?_⟩, ul⟩
      · by_cases e : b = a
        · subst e
          rw [hu] at hb
          cases hb
          exact ⟨upd_same, fun z => no' ((own2 b).mp z)⟩
        · obtain ⟨g1, g2⟩ := s'.kp b o (by rw [upd_ne e]; exact hb) fun z => nb ((own1 b).mp z)
          exact ⟨by rw [upd_ne e]; exact g1, fun z => g2 ((own2 b).mp z)⟩
      · by_cases e : b = a
        · rw [e, upd_same] at hb
          cases hb
        · rw [upd_ne e] at hb
          have := s'.dom b hb
          rw [upd_ne e] at this
          exact this
    have hK1 : (lkF F a).K = K := hK
    exact A.ok hK1 E1 XLink.no h
      (fun ρ' σ' H' z E' s' => by
        obtain ⟨z1, z2, z3⟩ := z
        obtain ⟨g1, g2, g3, _⟩ := back z1 z2 E' s'
        exact ⟨g1, nx _ _ _ z3 g2 g3⟩)
      (fun ρ' σ' H' z E' s' => by
        obtain ⟨z1, z2, z3⟩ := z
        obtain ⟨g1, g2, g3, _⟩ := back z1 z2 E' s'
        exact ⟨g1, bk _ _ _ z3 g2 g3⟩)
      (fun ρ' σ' H' z E' s' => by
        obtain ⟨z1, z2, z3⟩ := z
        obtain ⟨g1, g2, g3, _⟩ := back z1 z2 E' s'
        exact ⟨g1, ct _ _ _ z3 g2 g3⟩)
      fun d' ρ' σ' v H' z E' s' r' => by
        obtain ⟨z1, z2, z3⟩ := z
        obtain ⟨g1, g2, g3, g4⟩ := back z1 z2 E' s'
        exact ⟨g1, rt _ _ _ _ _ z3 g2 g3 (Rep.unl (g4 true) r')⟩
  · -- it is locked already
    refine .inr ?_
    have lkp : LkP F.K (F.RH (OwnA σ ρ) H r) a d := by
      have one : ∀ w, Rd (F.RH (OwnA σ ρ) H r) a w → (∀ od z, w ≠ .frz od z) → w = u := fun w hw nw => by
        rcases hw with hw | ⟨o, hw⟩
        · rw [hr] at hw
          exact absurd (Option.some.inj hw).symm (nw _ _)
        · rw [hr] at hw
          cases hw
          rfl
      cases rep with
      | @dK _ kvs es y1 y2 y3 =>
        cases one _ y1 (fun _ _ z => by cases z)
        exact ⟨od, kvs, hr, y2, y3⟩
      | @dT _ kvs es y1 y2 y3 =>
        cases one _ y1 (fun _ _ z => by cases z)
        exact ⟨od, kvs, hr, y2, y3⟩
      | _ => cases di
    have hp : noPot ρ i := fun r' d' z y => by
      rw [hi] at y
      cases y
    obtain ⟨E1, s1⟩ := En.setN (w := some (.ref a)) (s := some (.lk r d)) hp (fun _ _ z => by cases z) (fun _ _ z => by cases z) (fun s z => by cases z; exact ⟨a, rfl, lkp⟩)
    have same : σ.set i (some (.ref a)) = σ := by
      refine List.ext_getElem? fun j => ?_
      by_cases e : j = i
      · subst e
        rw [List.getElem?_set_self (by rw [En.len]; exact hil), hs]
      · rw [List.getElem?_set_ne (Ne.symm e)]
    rw [same] at E1 s1
    have back : ∀ {ρ' : DEnv} {σ' : L2.St} {H' : Hp}, ρ'[i]? = some (some (.lk r d)) → Env F σ' ρ' H' → Env F σ' (ρ'.set i (some (.sh r d))) H' ∧ Stp (OwnA σ' ρ') H' (OwnA σ' (ρ'.set i (some (.sh r d)))) H' := fun {ρ' σ' H'} hi' E' => by
      obtain ⟨b, g1, g2⟩ := E'.raw i _ hi'
      have hp' : noPot ρ' i := fun r' d' z y => by
        rw [hi'] at y
        cases y
      obtain ⟨E2, s2⟩ := E'.setSh (i := i) hp' g2.rep
      have same' : σ'.set i (some (.ref b)) = σ' := by
        refine List.ext_getElem? fun j => ?_
        by_cases e : j = i
        · subst e
          rw [List.getElem?_set_self (by rw [E'.len]; exact (List.getElem?_eq_some_iff.mp hi').1), g1]
        · rw [List.getElem?_set_ne (Ne.symm e)]
      rw [same'] at E2 s2
      exact ⟨E2, s2⟩
    exact A.ok hK E1 XLink.no h
      (fun ρ' σ' H' z E' s' => by
        obtain ⟨z1, z2, z3⟩ := z
        obtain ⟨g1, g2⟩ := back z1 E'
        exact nx _ _ _ z3 g1 ((s1.trans s').trans g2))
      (fun ρ' σ' H' z E' s' => by
        obtain ⟨z1, z2, z3⟩ := z
        obtain ⟨g1, g2⟩ := back z1 E'
        exact bk _ _ _ z3 g1 ((s1.trans s').trans g2))
      (fun ρ' σ' H' z E' s' => by
        obtain ⟨z1, z2, z3⟩ := z
        obtain ⟨g1, g2⟩ := back z1 E'
        exact ct _ _ _ z3 g1 ((s1.trans s').trans g2))
      fun d' ρ' σ' v H' z E' s' r' => by
        obtain ⟨z1, z2, z3⟩ := z
        obtain ⟨g1, g2⟩ := back z1 E'
        exact rt _ _ _ _ _ z3 g1 ((s1.trans s').trans g2) (r'.mono (E'.rh g2))
instance {K : PySem.W.Frag} {W : WXT} {i : Nat} {t : TS} {w : DSW} [A : DS K W t w] : DS K W (tLockI i t) (dLock i w) where
  ok := fun {F σ H ρ X E Dn} hK En L h nx bk ct rt => by
    unfold dLock at h
    split at h
    · rename_i r d hi
      obtain ⟨h1, h2, h3⟩ := h
      exact lock_sh (W := W) hK En hi h1 h2 h3 nx bk ct rt
    · rename_i r d hi
      obtain ⟨h1, h2, h3⟩ := h
      have hil := (List.getElem?_eq_some_iff.mp hi).1
      obtain ⟨a, hs, _⟩ := En.ow i r d hi
      have np : d.isPot = false := by
        cases d <;> first | rfl | cases h1
      obtain ⟨E1, s1, _⟩ := En.freeze hi np hs
      have ok' : lockOk (ρ.set i (some (.sh r d))) i = true := by
        refine List.all_eq_true.mpr fun j hj => ?_
        rw [List.length_set] at hj
        by_cases e : j = i
        · subst e
          rw [List.getElem?_set_self hil]
        · rw [List.getElem?_set_ne (Ne.symm e)]
          exact List.all_eq_true.mp h2 j hj
      refine lock_sh (W := W) hK E1 (List.getElem?_set_self hil) h1 ok' (by rw [List.set_set]; exact h3) (fun ρ' σ' H' z E' s' => nx _ _ _ z E' (s1.trans s')) (fun ρ' σ' H' z E' s' => bk _ _ _ z E' (s1.trans s')) (fun ρ' σ' H' z E' s' => ct _ _ _ z E' (s1.trans s')) fun d' ρ' σ' v H' z E' s' r' => rt _ _ _ _ _ z E' (s1.trans s') r'
    · exact h.elim
/-! ### the walks -/
theorem wk_keys {F : Fr} {O : Addr → Prop} {H : Hp} {a : Addr} {od : Obj} {kvs : List (Key × V)} {es : List (Key × D)} {r : Bool} (h1 : F.RH O H r a = some (.frz od (.dK kvs))) (h2 : kvs.map (·.1) = es.map (·.1)) : Wk (Itk a od kvs) (es.map fun kv => (true, keyD kv.1)) F O H := by
  have hl : kvs.length = es.length := by
    have := congrArg List.length h2
    rwa [List.length_map, List.length_map] at this
  refine ⟨fun G O H => G.RH O H r a = some (.frz od (.dK kvs)), h1, fun G O H O' H' h s _ => s r _ _ h, fun G O H b o h hb => rh_hide hb r _ _ h, fun G O H b u o h hh hb nt => rh_hid hh hb nt r _ _ h, fun G O H i h hi => ?_, fun G O H i h hi => ?_, fun G O H i r' d x H' h hi y => ?_⟩
  · rw [List.length_map] at hi
    exact ⟨cut_le _ _ h, by omega⟩
  · rw [List.length_map] at hi
    exact ⟨cut_le _ _ h, by omega⟩
  · obtain ⟨rfl, k, v, hk, rfl⟩ := y
    refine ⟨.refl _, ?_⟩
    rw [List.getElem?_map] at hi
    have e : es[i]?.map (·.1) = some k := by
      have := congrArg (fun l => l[i]?) h2
      simp only [List.getElem?_map, hk, Option.map_some] at this
      exact this.symm
    cases q : es[i]? with
    | none =>
      rw [q] at e
      cases e
    | some kv =>
      rw [q] at e hi
      obtain ⟨kk, dd⟩ := kv
      cases e
      cases hi
      cases kk with
      | inl n => exact .int n
      | inr z => exact .str z
section
variable {K : PySem.W.Frag} {W : WXT}
def dKeys (i : Nat) : DIW := fun _ ρ R => match ρ[i]? with
  | some (some (.lk _ (.dK es))) => R (es.map fun kv => (true, keyD kv.1)) ρ
  | some (some (.lk _ (.dT es))) => R (es.map fun kv => (true, .tup (kv.1.map keyD))) ρ
  | _ => False
theorem rep_keyD {K : PySem.W.Frag} {H : Hp} (k : Key) : Rep K H (kV k) (keyD k) := by
  cases k with
  | inl n => exact .int n
  | inr z => exact .str z
theorem rep_keysD {K : PySem.W.Frag} {H : Hp} : ∀ ks : List Key, RepL K H (ks.map kV) (ks.map keyD)
  | [] => .nil
  | k :: ks => .cons (rep_keyD k) (rep_keysD ks)
theorem wk_keysT {F : Fr} {O : Addr → Prop} {H : Hp} {a : Addr} {od : Obj} {kvs : List (List Key × V)} {es : List (List Key × D)} {r : Bool} (h1 : F.RH O H r a = some (.frz od (.dT kvs))) (h2 : kvs.map (·.1) = es.map (·.1)) : Wk (Itkt a od kvs) (es.map fun kv => (true, D.tup (kv.1.map keyD))) F O H := by
  have hl : kvs.length = es.length := by
    have := congrArg List.length h2
    rwa [List.length_map, List.length_map] at this
  refine ⟨fun G O H => G.RH O H r a = some (.frz od (.dT kvs)), h1, fun G O H O' H' h s _ => s r _ _ h, fun G O H b o h hb => rh_hide hb r _ _ h, fun G O H b u o h hh hb nt => rh_hid hh hb nt r _ _ h, fun G O H i h hi => ?_, fun G O H i h hi => ?_, fun G O H i r' d x H' h hi y => ?_⟩
  · rw [List.length_map] at hi
    exact ⟨cut_le _ _ h, by omega⟩
  · rw [List.length_map] at hi
    exact ⟨cut_le _ _ h, by omega⟩
  · obtain ⟨rfl, k, v, q, hk, rfl, hq⟩ := y
    refine ⟨.refl _, ?_⟩
    rw [List.getElem?_map] at hi
    have e : es[i]?.map (·.1) = some k := by
      have := congrArg (fun l => l[i]?) h2
      simp only [List.getElem?_map, hk, Option.map_some] at this
      exact this.symm
    cases z : es[i]? with
    | none =>
      rw [z] at e
      cases e
    | some kv =>
      rw [z] at e hi
      obtain ⟨kk, dd⟩ := kv
      cases e
      cases hi
      exact .tup (cut_tup hq) (rep_keysD _)
instance {i : Nat} : DI K W (iKeys (tVar i)) (dKeys i) where
  ok := fun {F σ H ρ X R Q} hK E L h q => by
    unfold dKeys at h
    split at h
    · rename_i r es hi
      obtain ⟨a, g1, od, kvs, g2, g3, g4⟩ := E.raw i _ hi
      exact ⟨.ref a, g1, a, od, rfl, .inl ⟨kvs, cut_le _ _ g2, q _ ρ H _ h E (.refl _ _) (wk_keys g2 g3)⟩⟩
    · rename_i r es hi
      obtain ⟨a, g1, od, kvs, g2, g3, g4⟩ := E.raw i _ hi
      exact ⟨.ref a, g1, a, od, rfl, .inr ⟨kvs, cut_le _ _ g2, q _ ρ H _ h E (.refl _ _) (wk_keysT g2 g3)⟩⟩
    · exact h.elim
/-- for k, v in d.items() -/
theorem wk_items {F : Fr} {O : Addr → Prop} {H : Hp} {a : Addr} {od : Obj} {kvs : List (Key × V)} {es : List (Key × D)} {r : Bool} (h1 : F.RH O H r a = some (.frz od (.dK kvs))) (h2 : kvs.map (·.1) = es.map (·.1)) (h3 : RepL F.K (F.RH O H r) (kvs.map Prod.snd) (es.map Prod.snd)) : Wk (Iti a od kvs) (es.map fun kv => (r, D.tup [keyD kv.1, kv.2])) F O H := by
  have hl : kvs.length = es.length := by
    have := congrArg List.length h2
    rwa [List.length_map, List.length_map] at this
  refine ⟨fun G O H => G.K = F.K ∧ G.RH O H r a = some (.frz od (.dK kvs)) ∧ RepL F.K (G.RH O H r) (kvs.map Prod.snd) (es.map Prod.snd), ⟨rfl, h1, h3⟩, fun G O H O' H' h s _ => ⟨h.1, s r _ _ h.2.1, h.2.2.mono (s r)⟩, fun G O H b o h hb => ⟨h.1, rh_hide hb r _ _ h.2.1, h.2.2.mono (rh_hide hb r)⟩,
    fun G O H b u o h hh hb nt => ⟨h.1, rh_hid hh hb nt r _ _ h.2.1, h.2.2.mono (rh_hid hh hb nt r)⟩, fun G O H i h hi => ?_, fun G O H i h hi => ?_, fun G O H i r' d x H' h hi y => ?_⟩
  · rw [List.length_map] at hi
    exact ⟨cut_le _ _ h.2.1, by omega⟩
  · rw [List.length_map] at hi
    exact ⟨cut_le _ _ h.2.1, by omega⟩
  · obtain ⟨T, k, v, hk, rfl, nT, rfl⟩ := id y
    have sm : Same H (upd H T (.tup [kV k, v])) := same_new nT
    refine ⟨sm, ?_⟩
    rw [List.getElem?_map] at hi
    have e : es[i]?.map (·.1) = some k := by
      have := congrArg (fun l => l[i]?) h2
      simp only [List.getElem?_map, hk, Option.map_some] at this
      exact this.symm
    cases z : es[i]? with
    | none =>
      rw [z] at e
      cases e
    | some kv =>
      rw [z] at e hi
      obtain ⟨kk, dd⟩ := kv
      cases e
      cases hi
      obtain ⟨w, g1, g2⟩ := h.2.2.get (show (es.map Prod.snd)[i]? = some dd by rw [List.getElem?_map, z]; rfl)
      rw [List.getElem?_map, hk] at g1
      cases g1
      have up : Same (G.RH O H r) (G.RH O (upd H T (.tup [kV kk, v])) r) := cut_mono (fun b u hb nb => ⟨sm _ _ hb, nb⟩) fun b xs hb _ => sm _ _ hb
      rw [h.1]
      exact .tup (cut_tup upd_same) (.cons (rep_keyD kk) (.one (g2.mono up)))
def dItems (i : Nat) : DIW := fun _ ρ R => match ρ[i]? with
  | some (some (.lk r (.dK es))) => R (es.map fun kv => (r, .tup [keyD kv.1, kv.2])) ρ
  | _ => False
instance {i : Nat} : DI K W (iItems (tVar i)) (dItems i) where
  ok := fun {F σ H ρ X R Q} hK E L h q => by
    unfold dItems at h
    split at h
    · rename_i r es hi
      obtain ⟨a, g1, od, kvs, g2, g3, g4⟩ := E.raw i _ hi
      exact ⟨.ref a, g1, a, od, kvs, rfl, cut_le _ _ g2, q _ ρ H _ h E (.refl _ _) (wk_items g2 g3 g4)⟩
    · exact h.elim
end
end PW

namespace PW
open PySem PySem.Spec PyProof.Rows L2
/-! ### dicts by whole numbers -/
def intE {α : Type} (f : α → D) (l : List (Int × α)) : List (Key × D) := l.map fun e => ((Sum.inl e.1 : Key), f e.2)
section
variable {α : Type} {f : α → D} {l : List (Int × α)}
theorem intE_val (nd : (l.map Prod.fst).Nodup) {e : Int × α} (h : e ∈ l) : valC (intE f l) (Sum.inl e.1) = some (f e.2) := by
  rw [valC_eq]
  unfold valD intE
  induction l with
  | nil => cases h
  | cons a l ih =>
    rw [List.map_cons, List.nodup_cons] at nd
    rw [List.map_cons, List.find?_cons]
    rcases List.mem_cons.mp h with rfl | h
    · rw [decide_eq_true (rfl : (Sum.inl e.1 : Key) = Sum.inl e.1)]
      rfl
    · have ne : ¬ (Sum.inl a.1 : Key) = Sum.inl e.1 := fun z => nd.1 (by rw [Sum.inl.inj z]; exact List.mem_map_of_mem h)
      rw [decide_eq_false ne]
      exact ih nd.2 h
theorem intE_none {x : Int} (h : x ∉ l.map Prod.fst) : valC (intE f l) (Sum.inl x) = none := by
  rw [valC_eq]
  unfold valD intE
  induction l with
  | nil => rfl
  | cons a l ih =>
    rw [List.map_cons, List.mem_cons, not_or] at h
    rw [List.map_cons, List.find?_cons, decide_eq_false (fun z => h.1 (Sum.inl.inj z).symm : ¬ (Sum.inl a.1 : Key) = Sum.inl x)]
    exact ih h.2
theorem intE_put {x : Int} {a : α} {d : D} (hd : d = f a) (h : x ∉ l.map Prod.fst) : putC (intE f l) (Sum.inl x) d = intE f (l ++ [(x, a)]) := by
  subst hd
  rw [putC_eq]
  unfold putD intE
  rw [if_neg, List.map_append]
  · rfl
  · intro z
    obtain ⟨e, he, z⟩ := List.any_eq_true.mp z
    obtain ⟨e', he', rfl⟩ := List.mem_map.mp he
    exact h (by rw [← Sum.inl.inj (of_decide_eq_true z)]; exact List.mem_map_of_mem he')
theorem intE_len : (intE f l).length = l.length := by
  unfold intE
  rw [List.length_map]
end
theorem valC_hasI {α : Type} {f : α → D} {l : List (Int × α)} (x : Int) : (valC (intE f l) (Sum.inl x)).isSome = decide (x ∈ l.map Prod.fst) := by
  rw [valC_eq]
  unfold valD intE
  induction l with
  | nil => rfl
  | cons a l ih =>
    rw [List.map_cons, List.find?_cons]
    by_cases h : a.1 = x
    · rw [decide_eq_true (show (Sum.inl a.1 : Key) = Sum.inl x by rw [h])]
      rw [decide_eq_true]
      · rfl
      · rw [List.map_cons, h]
        exact List.mem_cons_self
    · rw [decide_eq_false (fun z => h (Sum.inl.inj z) : ¬ (Sum.inl a.1 : Key) = Sum.inl x)]
      show (Option.map _ (List.find? _ _)).isSome = _
      rw [ih]
      rw [Bool.eq_iff_iff, decide_eq_true_iff, decide_eq_true_iff, List.map_cons, List.mem_cons]
      exact ⟨.inr, fun z => z.resolve_left fun y => h y.symm⟩
theorem ifC_keyI {α : Type} {f : α → D} {l : List (Int × α)} {x : Int} {A B : Prop} (h : ifC (decide (x ∈ l.map Prod.fst)) A B) : ifC (valC (intE f l) (Sum.inl x)).isSome A B := by
  rw [valC_hasI]
  exact h
theorem ifC_nkeyI {α : Type} {f : α → D} {l : List (Int × α)} {x : Int} {A B : Prop} (h : ifC (!decide (x ∈ l.map Prod.fst)) A B) : ifC (!(valC (intE f l) (Sum.inl x)).isSome) A B := by
  rw [valC_hasI]
  exact h
theorem getI_some {α : Type} {f : α → D} {l : List (Int × α)} (nd : (l.map Prod.fst).Nodup) {e : Int × α} (h : e ∈ l) (r r' : Bool) : getD (r, .dK (intE f l)) (r', .int e.1) = some (some (f e.2)) := by
  show some (valC (intE f l) (Sum.inl e.1)) = _
  rw [intE_val nd h]
theorem getI_none {α : Type} {f : α → D} {l : List (Int × α)} {x : Int} (h : x ∉ l.map Prod.fst) (r r' : Bool) : getD (r, .dK (intE f l)) (r', .int x) = some none := by
  show some (valC (intE f l) (Sum.inl x)) = _
  rw [intE_none h]
/-- a key that stands already -/
theorem intE_putN {α : Type} {f : α → D} {l : List (Int × α)} {x : Int} {a : α} {d : D} (hd : d = f a) (h : x ∈ l.map Prod.fst) : putC (intE f l) (Sum.inl x) d = intE f (l.map fun e => if e.1 = x then (x, a) else e) := by
  subst hd
  rw [putC_eq]
  unfold putD intE
  rw [if_pos, List.map_map, List.map_map]
  · refine List.map_congr_left fun e _ => ?_
    show (if (Sum.inl e.1 : Key) = Sum.inl x then _ else _) = _
    by_cases z : e.1 = x
    · rw [if_pos (by rw [z])]
      show _ = ((Sum.inl (if e.1 = x then (x, a) else e).1 : Key), f (if e.1 = x then (x, a) else e).2)
      rw [if_pos z]
      show ((Sum.inl e.1 : Key), f a) = (Sum.inl x, f a)
      rw [z]
    · rw [if_neg (fun y => z (Sum.inl.inj y))]
      show _ = ((Sum.inl (if e.1 = x then (x, a) else e).1 : Key), f (if e.1 = x then (x, a) else e).2)
      rw [if_neg z]
  · obtain ⟨e, he, z⟩ := List.mem_map.mp h
    exact List.any_eq_true.mpr ⟨_, List.mem_map_of_mem he, decide_eq_true (by show (Sum.inl e.1 : Key) = _; rw [z])⟩
theorem pairsOf_ints {α : Type} (g : α → D) (l : List (Int × α)) : pairsOf (l.map fun e => .tup [.int e.1, g e.2]) = some (intE g l) := by
  induction l with
  | nil => rfl
  | cons e l ih =>
    rw [List.map_cons, pairsOf, ih]
    rfl
theorem merge_ints {α : Type} {g : α → D} {l : List (Int × α)} (h : (l.map Prod.fst).Nodup) : mergeC (intE g l) = intE g l := by
  rw [mergeC_eq, mergeD_new _ [] ?_]
  · rfl
  · rw [List.nil_append]
    unfold intE
    rw [List.map_map]
    have e : (l.map ((fun x : Key × D => x.1) ∘ fun e : Int × α => ((Sum.inl e.1 : Key), g e.2))) = (l.map Prod.fst).map Sum.inl := by
      rw [List.map_map]
      rfl
    rw [e]
    exact nodup_map (fun a b z => Sum.inl.inj z) h
/-! what may stand in a frame while a dict is walked -/
def lkN (s : Option Sl) : Bool := match s with
  | some (.lk _ _) => false
  | some (.pa _ _) => false
  | some (.po _) => false
  | _ => true
def lkAll : DEnv → Nat → Nat → Bool
  | [], _, _ => true
  | s :: ρ, j, i => (decide (j = i) || lkN s) && lkAll ρ (j + 1) i
theorem lkAll_at : ∀ {ρ : DEnv} {j i k : Nat} {s : Option Sl}, lkAll ρ j i = true → ρ[k]? = some s → j + k ≠ i → lkN s = true
  | [], _, _, _, _, _, e, _ => by simp at e
  | a :: ρ, j, i, 0, s, h, e, n => by
    cases e
    unfold lkAll at h
    rw [Bool.and_eq_true, decide_eq_false (show ¬ j = i from n), Bool.false_or] at h
    exact h.1
  | a :: ρ, j, i, k + 1, s, h, e, n => by
    unfold lkAll at h
    rw [Bool.and_eq_true] at h
    exact lkAll_at (j := j + 1) (k := k) h.2 e (by omega)
theorem lock_of {ρ : DEnv} {i : Nat} {r : Bool} {d : D} (hi : ρ[i]? = some (some (.lk r d))) (h : lkAll ρ 0 i = true) : lockOk ρ i = true := by
  refine List.all_eq_true.mpr fun j hj => ?_
  have hl := List.mem_range.mp hj
  by_cases e : j = i
  · subst e
    rw [hi]
    exact decide_eq_true rfl
  · have := lkAll_at (k := j) h (List.getElem?_eq_getElem hl) (by omega)
    rw [List.getElem?_eq_getElem hl]
    revert this
    cases ρ[j] with
    | none => intro _; rfl
    | some s => cases s <;> intro z <;> first | rfl | cases z
theorem lock_new {ρ : DEnv} {i : Nat} (h : lkAll ρ 0 ρ.length = true) : lockOk ρ i = true := by
  refine List.all_eq_true.mpr fun j hj => ?_
  have hl := List.mem_range.mp hj
  have := lkAll_at (k := j) h (List.getElem?_eq_getElem hl) (by omega)
  rw [List.getElem?_eq_getElem hl]
  revert this
  cases ρ[j] with
  | none => intro _; rfl
  | some s => cases s <;> intro z <;> first | rfl | cases z
theorem mergeI {α : Type} {g : α → D} {l m : List (Int × α)} (h : ((l ++ m).map Prod.fst).Nodup) : mergeD (intE g l) (intE g m) = intE g (l ++ m) := by
  rw [mergeD_new]
  · unfold intE
    rw [List.map_append]
  · have e : ((intE g l ++ intE g m).map (·.1)) = ((l ++ m).map Prod.fst).map Sum.inl := by
      unfold intE
      rw [← List.map_append, List.map_map, List.map_map]
      rfl
    rw [e]
    exact nodup_map (fun a b z => Sum.inl.inj z) h
theorem lockF {ρ : DEnv} {i : Nat} (ρ' : DEnv) (e : ρ = ρ') (h : lockOk ρ' i = true) : lockOk ρ i = true := e ▸ h
end PW

namespace PW
open PySem PySem.Spec PyProof.Rows L2
/-! ### dict(d), d.update(e), d.clear(), comparing with an empty dict -/
def rDictC : List V → Hp → VK → Prop := fun xs H Q => ∃ (a : Addr) (kvs : List (Key × V)), xs = [.ref a] ∧ Rd H a (.dK kvs) ∧ ∀ p, H p = none → Q (.ref p) (upd H p (.dK kvs))
theorem dictC {X : Cx} : CallR X (.type "dict") rDictC := call_dictD
def dDictC : DR1W := fun ps R => match ps with
  | [(r, .dK es)] => R (.fr (reg (r, .dK es)) (.dK es))
  | _ => False
instance {K : PySem.W.Frag} : DR1 K rDictC dDictC where
  ok := fun {F σ H ρ ps xs R Q} hK E ht h k => by
    subst hK
    unfold dDictC at h
    split at h
    · rename_i r es
      obtain ⟨v, rfl, h0⟩ := tops1 ht
      obtain ⟨a, kvs, rfl, h1, h2, h3⟩ := h0
      exact ⟨a, kvs, rfl, h1, fun c hc => k _ _ _ h (same_new hc) (fresh_of E hc rfl ⟨_, rfl, h2, h3.up (b := (D.dK es).pim) id⟩)⟩
    · exact h.elim
theorem immL_intE (fx : List (Int × Int)) : D.immL ((intE D.int fx).map (·.2)) = true := by
  unfold intE
  rw [List.map_map]
  exact immL_map (fun e => imm_int _) fx
theorem reg_intE (r : Bool) (fx : List (Int × Int)) : reg (r, .dK (intE D.int fx)) = true := by
  show (r || D.immL ((intE D.int fx).map (·.2))) = true
  rw [immL_intE, Bool.or_true]
def rDUpd : V → List V → Hp → VK → Prop := fun x xs H Q => ∃ (a b : Addr) (ks ls : List (Key × V)), x = .ref a ∧ xs = [.ref b] ∧ a ≠ b ∧ H a = some (.dK ks) ∧ Rd H b (.dK ls) ∧ ks.length + ls.length ≤ sizeLine ∧ Q .non (upd H a (.dK (mergeK ks ls)))
theorem mtd_update {X : Cx} : MtR X "dict.update" rDUpd := by
  intro pins s σ H x xs v us Q I rx rv want
  obtain ⟨a, b, ks, ls, rfl, rfl, ne, ha, hb, sz, q⟩ := want
  obtain rfl : v = Value.ref a := rx
  obtain ⟨u, rfl, ru⟩ := rv.one
  cases ru
  obtain ⟨za, da, va, ra, ta⟩ := dk_of I.hok ha
  obtain ⟨zb, db, vb, rb, tb⟩ := dk_rd I.hok hb
  refine call_meetsIn PySem.F.slot_dict_update ta.typeIs PySem.F.entry_dict_update (PySem.F.args_dict_update_2 _ _) (meets_dict_update (mixKind X.prog X.w) a b ne db) ⟨va, vb, ta, tb, by rw [← ra.length, ← rb.length]; exact sz, fun h' td _ sb => ?_⟩
  have he : ∃ z, h'.get? a = some z := let ⟨z, _, _, y, _⟩ := td; ⟨z, y⟩
  refine ⟨.non, _, d_write (t' := s.toks) I (by rw [ha]; exact True.intro) sb he (dk_new (Nat.le_trans (length_mergeK ls ks) sz) da (KV.merge rb ra) td), rfl, q⟩
def dDUpd (i : Nat) (u : DAW) : DW := fun X ρ R => match ρ[i]? with
  | some (some (.ow _ (.dK _))) => u X ρ fun ys ρ1 => match ys.map DV.tmp with
    | [y] => match st ρ1 y with
      | some (r2, .dK fs, ρ2) => match ρ2[i]? with
        | some (some (.ow r (.dK es))) => es.length + fs.length ≤ 100000 ∧ R (.v true .non) (ρ2.set i (some (.ow (r && r2) (.dK (mergeD es fs)))))
        | _ => False
      | _ => False
    | _ => False
  | _ => False
instance {K : PySem.W.Frag} {W : WXT} {i : Nat} {t : TA} {u : DAW} [B : DA K W t u] : DE K W (tBM K "dict" rDUpd (tVar i) t) (dDUpd i u) where
  ok := fun {F σ H ρ X R Q} hK E L h q => by
    subst hK
    unfold dDUpd at h
    split at h
    · rename_i r0 es0 hi
      obtain ⟨a, hs, ⟨kvs, h1, h2, h3⟩, _⟩ := E.ow i _ _ hi
      refine ⟨.ref a, hs, .inr (.inr (.inl ⟨rfl, .inl ⟨kvs, h1⟩⟩)), B.ok rfl E L h fun xs ρ1 vs H1 g1 E1 s1 r1 => ?_⟩
      split at g1
      · rename_i y ey
        have rr := dCons_tmp r1
        rw [ey] at rr
        obtain ⟨w, rfl, hw, _⟩ := paired1 rr
        split at g1
        · rename_i r2 fs ρ2 e2
          obtain ⟨E2, s2, p2⟩ := hw.st E1 e2
          split at g1
          · rename_i r es hi2
            obtain ⟨hsz, g1⟩ := g1
            obtain ⟨a2, hs2, ⟨kv2, k1, k2, k3⟩, _⟩ := E2.ow i _ _ hi2
            rw [hs] at hs2
            cases hs2
            cases p2 with
            | @dK b ls _ hb hk hl =>
              have ne : a ≠ b := fun z => by
                subst z
                have own : OwnA σ ρ2 a := ⟨i, _, _, hi2, .inl hs⟩
                rcases hb with hb | ⟨od, hb⟩
                · rcases (cut_inv hb).2 with n | ⟨_, n⟩
                  · exact n (.inr (.inl own))
                  · cases n
                · rcases (cut_inv hb).2 with n | ⟨_, n⟩
                  · exact n (.inr (.inl own))
                  · cases n
              have hb' : Rd H1 b (.dK ls) := by
                rcases hb with hb | ⟨od, hb⟩
                · exact .inl (cut_le _ _ hb)
                · exact .inr ⟨od, cut_le _ _ hb⟩
              have l1 : kv2.length = es.length := by
                have := congrArg List.length k2
                rwa [List.length_map, List.length_map] at this
              have l2 : ls.length = fs.length := by
                have := congrArg List.length hk
                rwa [List.length_map, List.length_map] at this
              have m := merge_rep (K := F.K) (H := F.RH (OwnA σ ρ2) H1 (r && r2)) (more := ls) (more' := fs) ⟨hk, hl.weak fun z => by rw [Bool.and_eq_true] at z; exact z.2⟩ (kvs := kv2) (es := es) ⟨k2, k3.weak fun z => by rw [Bool.and_eq_true] at z; exact z.1⟩
              obtain ⟨E5, s5⟩ := E2.put (r' := r && r2) (d' := .dK (mergeD es fs)) (o := .dK (mergeK kv2 ls)) hi2 hs (fun z => by cases z) ⟨_, rfl, m.1, m.2⟩
              exact ⟨a, b, kv2, ls, rfl, rfl, ne, k1, hb', small (by omega), q _ _ _ _ g1 E5 ((s1.trans s2).trans s5) .non⟩
          · exact g1.elim
        · exact g1.elim
      · exact g1.elim
    · exact h.elim
def dDClr (i : Nat) : DW := fun _ ρ R => match ρ[i]? with
  | some (some (.ow _ (.dK _))) => R (.v true .non) (ρ.set i (some (.ow true (.dK []))))
  | _ => False
instance {K : PySem.W.Frag} {W : WXT} {i : Nat} : DE K W (tBM0 K "dict" L2.rDClear (tVar i)) (dDClr i) where
  ok := fun {F σ H ρ X R Q} hK E L h q => by
    subst hK
    unfold dDClr at h
    split at h
    · rename_i r0 es0 hi
      obtain ⟨a, hs, ⟨kvs, h1, h2, h3⟩, _⟩ := E.ow i _ _ hi
      obtain ⟨E5, s5⟩ := E.put (r' := true) (d' := .dK []) (o := .dK []) hi hs (fun z => by cases z) ⟨_, rfl, rfl, .nil⟩
      exact ⟨.ref a, hs, .inr (.inr (.inl ⟨rfl, .inl ⟨kvs, h1⟩⟩)), a, kvs, rfl, rfl, h1, q _ _ _ _ h E5 s5 .non⟩
    · exact h.elim
/-! an empty dict is an empty dict -/
def rEqE (r : Bool) : V → V → Hp → VK → Prop := fun x y H Q => ∃ a b : Addr, x = .ref a ∧ y = .ref b ∧ Rd H a (.dK []) ∧ Rd H b (.dK []) ∧ Q (.bl r) H
theorem op_eqE {X : Cx} (hu : X.A.units < cLine) : OpR X (compareOp .Eq) (rEqE true) := by
  intro pins s σ H x y v u Q I rx ry want
  obtain ⟨a, b, rfl, rfl, ha, hb, q⟩ := want
  obtain rfl : v = Value.ref a := rx
  obtain rfl : u = Value.ref b := ry
  obtain ⟨_, ya, va, ra, ta⟩ := dk_rd I.hok ha
  obtain ⟨_, yb, vb, rb, tb⟩ := dk_rd I.hok hb
  have lv : va.length = vb.length := by rw [← ra.length, ← rb.length]
  exact PySem.W.keq_eq (knd := mixKind X.prog X.w) (r := true) ya yb ta tb hu (fun _ => L2.hits_all rb ra (fun p hp => by cases hp)) (L2.fin_bl I q (by simp [lv]))
theorem op_neE {X : Cx} (hu : X.A.units < cLine) : OpR X (compareOp .NotEq) (rEqE false) := by
  intro pins s σ H x y v u Q I rx ry want
  obtain ⟨a, b, rfl, rfl, ha, hb, q⟩ := want
  obtain rfl : v = Value.ref a := rx
  obtain rfl : u = Value.ref b := ry
  obtain ⟨_, ya, va, ra, ta⟩ := dk_rd I.hok ha
  obtain ⟨_, yb, vb, rb, tb⟩ := dk_rd I.hok hb
  have lv : va.length = vb.length := by rw [← ra.length, ← rb.length]
  exact PySem.W.keq_ne (knd := mixKind X.prog X.w) (r := true) ya yb ta tb hu (fun _ => L2.hits_all rb ra (fun p hp => by cases hp)) (L2.fin_bl I q (by simp [lv]))
def dEqE (b : Bool) : DR2W := fun p q R => match p.2, q.2 with
  | .dK es, .dK fs => es = [] ∧ fs = [] ∧ R (.v true (.bl b))
  | _, _ => False
instance {K : PySem.W.Frag} {b : Bool} : DR2 K (rEqE b) (dEqE b) where
  ok := fun {F σ H ρ p q x y R Q} hK E hx hy h k => by
    subst hK
    unfold dEqE at h
    split at h
    · rename_i es fs hp hq
      obtain ⟨rfl, rfl, h⟩ := h
      rw [hp] at hx
      rw [hq] at hy
      obtain ⟨a, ks, rfl, h1, h2, h3⟩ := hx
      obtain ⟨c, ls, rfl, g1, g2, g3⟩ := hy
      cases ks with
      | cons _ _ => cases h2
      | nil =>
        cases ls with
        | cons _ _ => cases g2
        | nil => exact ⟨a, c, rfl, rfl, h1, g1, k _ _ H h (.refl _) (.bl _)⟩
    · exact h.elim
end PW

namespace PW
open PySem PySem.Spec PyProof.Rows L2
/-! ### sorted -/
def rSortG (K : PySem.W.Frag) : List V → Hp → VK → Prop := fun xs H Q => rSortedI K xs H Q ∨ ∃ (a : Addr) (kvs : List (Key × V)) (ks : List Int), xs = [.ref a] ∧ Rd H a (.dK kvs) ∧ kvs.map (·.1) = ks.map Sum.inl ∧ ks.length < 64 ∧
    ∀ (ys : List Int) (p : Addr), ys.Perm ks → ys.Pairwise (· ≤ ·) → H p = none → Q (.ref p) (upd H p (.lst (ys.map V.int)))
theorem gSorted {X : Cx} {K : PySem.W.Frag} (hc : X.calm = true) (h : X.K = K := by rfl) : CallR X (.builtin "sorted") (rSortG K) := by
  subst h
  intro pins s σ H xs us Q I r z
  rcases z with z | z
  · exact cr_sortedI pins s σ H xs us Q I r z
  · exact call_sortedDI hc pins s σ H xs us Q I r z
def dSortG : DR1W := fun ps R => match ps with
  | [(_, .lst ds)] => ∃ ns, intsD ds = some ns ∧ ∀ ys : List Int, ys.Perm ns → ys.Pairwise (· ≤ ·) → R (.fr true (intsL ys))
  | [(_, .dK es)] => ∃ ns : List Int, es.map (·.1) = ns.map Sum.inl ∧ ns.length < 64 ∧ ∀ ys : List Int, ys.Perm ns → ys.Pairwise (· ≤ ·) → R (.fr true (intsL ys))
  | _ => False
instance {K : PySem.W.Frag} : DR1 K (rSortG K) dSortG where
  ok := fun {F σ H ρ ps xs R Q} hK E ht h k => by
    subst hK
    unfold dSortG at h
    split at h
    · obtain ⟨ns, hn, h⟩ := h
      obtain ⟨v, rfl, h0⟩ := tops1 ht
      obtain ⟨a, vs, rfl, h1, h2⟩ := h0.lst rfl
      rw [ints_v h2 hn] at h1
      exact .inl ⟨a, ns, rfl, SqL.of h1, fun ys c p1 p2 hc => k _ _ _ (h ys p1 p2) (same_new hc) (fresh_of E hc rfl ⟨_, rfl, ints_rep ys⟩)⟩
    · obtain ⟨ns, hn, hl, h⟩ := h
      obtain ⟨v, rfl, a, kvs, rfl, h1, h2, h3⟩ := tops1 ht
      exact .inr ⟨a, kvs, ns, rfl, h1, h2.trans hn, hl, fun ys c p1 p2 hc => k _ _ _ (h ys p1 p2) (same_new hc) (fresh_of E hc rfl ⟨_, rfl, ints_rep ys⟩)⟩
    · exact h.elim
/-- two risings of the same numbers -/
theorem sorted_one {xs ys : List Int} (p : xs.Perm ys) (hx : xs.Pairwise (· ≤ ·)) (hy : ys.Pairwise (· ≤ ·)) : xs = ys :=
  p.eq_of_pairwise (fun a b _ _ h1 h2 => Int.le_antisymm h1 h2) hx hy
/-! ### a list among lists -/
theorem inC_pl {d : D} {ds : List D} {n m : Nat} {k : Bool → Prop} (h1 : PlD n d) (h2 : ∀ e ∈ ds, PlD m e) (hn : n ≤ 64) (hm : m + 1 ≤ 64) (h : ∀ b : Bool, (b = true ↔ d ∈ ds) → k b) : inC d (.lst ds) k := by
  have o1 := h1.ok
  have o2 := (PlD.lst h2 : PlD (m + 1) (.lst ds)).ok
  unfold inC
  refine .inr (.inr (.inr ⟨ds, rfl, ⟨o1.1, o1.2.shaped hn⟩, ⟨o2.1, o2.2.shaped hm⟩, h _ ?_⟩))
  rw [List.any_eq_true]
  constructor
  · rintro ⟨e, he, q⟩
    rw [h1.inj (h2 e he) (((h2 e he).ok.2.eqv_iff o1.2).mp q).symm]
    exact he
  · exact fun hd => ⟨d, hd, (o1.2.eqv_iff o1.2).mpr rfl⟩
end PW

namespace PW
open PySem PySem.Spec PyProof.Rows L2
/-! ### what is told is changed by whoever asked: methods -/
class MKill (r : V → List V → Hp → VK → Prop) (n : outParam Nat) : Prop where
  run : ∀ {a : Addr} {vs ys : List V} {H : Hp} {Q : VK}, H a = some (.lst vs) → vs.length < sizeLine → ys.length = n → (∀ vs', vs'.length ≤ vs.length + 1 → Q .non (upd H a (.lst vs'))) → r (.ref a) ys H Q
instance : MKill rClear 0 where
  run := fun {a vs ys H Q} h _ hy q => ⟨a, vs, rfl, List.length_eq_zero_iff.mp hy, h, q [] (Nat.zero_le _)⟩
instance : MKill rReverse 0 where
  run := fun {a vs ys H Q} h _ hy q => ⟨a, vs, rfl, List.length_eq_zero_iff.mp hy, h, q _ (by rw [List.length_reverse]; exact Nat.le_succ _)⟩
instance : MKill rAppend 1 where
  run := fun {a vs ys H Q} h hl hy q => by
    match ys, hy with
    | [y], _ => exact ⟨a, vs, y, rfl, rfl, h, hl, q _ (by rw [List.length_append]; exact Nat.le_refl _)⟩
def tKl (t : TS) : TS := t
theorem ps_kl {X : Cx} {s : Stmt} {t : TS} (h : PS X s t) : PS X s (tKl t) := h
def klEnd (n : Nat) (o : Option (Bool × D × DEnv)) (k : DEnv → Prop) : Prop := match o with
  | some (true, .lst ds, ρ) => ds.length < sizeLine ∧ ρ.all killB = true ∧ k (ρ.map killS)
  | _ => False
def dKl0 (w : DW) : DSW := fun X E ρ => w X ρ fun dv ρ1 => klEnd 0 (st ρ1 dv) E.nx
def isLstP : Option (Bool × D) → Prop
  | some (_, .lst _) => True
  | _ => False
def dKl1 (n : Nat) (w : DW) (u : DAW) : DSW := fun X E ρ => w X ρ fun dv ρ1 => isLstP (rd ρ1 dv) ∧ u X ρ1 fun ys ρ2 => ys.length = n ∧ klEnd 1 (st ρ2 dv.tmp) E.nx
theorem klEnd_of {n : Nat} {o : Option (Bool × D × DEnv)} {k : DEnv → Prop} (h : klEnd n o k) : ∃ ds ρ, o = some (true, .lst ds, ρ) ∧ ds.length < sizeLine ∧ ρ.all killB = true ∧ k (ρ.map killS) := by
  unfold klEnd at h
  split at h
  · exact ⟨_, _, rfl, h⟩
  · exact h.elim
theorem killR_upd {Hn H : Hp} {a : Addr} {u o : HO} (h : H a = some u) (hn : Hn a ≠ none) (nt : ∀ xs, u ≠ .tup xs) : KillR Hn H (upd H a o) :=
  ⟨fun b v hb hz => by
    have : b ≠ a := fun z => by
      subst z
      rw [h] at hb
      cases hb
      rcases hz with hz | ⟨xs, hz⟩
      · exact hn hz
      · exact nt xs hz
    rw [upd_ne this]
    exact hb, fun b hb => by
    by_cases z : b = a
    · subst z
      rw [upd_same] at hb
      cases hb
    · rw [upd_ne z] at hb
      exact hb⟩
section
variable {K : PySem.W.Frag} {W : WXT}
instance {r : V → List V → Hp → VK → Prop} {to : TE} {w : DW} [A : DE K W to w] [M : MKill r 0] : DSk K W (tKl (tDrop (tBM0 K "list" r to))) (dKl0 w) where
  ok := fun {F σ H ρ X E Dn} hK En L h nx bk ct rt => by
    subst hK
    refine A.ok rfl En (L.to σ ρ) h fun dv ρ1 v H1 h1 E1 s1 r1 => ?_
    obtain ⟨ds, ρ2, e, hl, hb, hn⟩ := klEnd_of h1
    obtain ⟨E2, s2, r2⟩ := RepV.st E1 r1 e
    cases r2 with
    | lst g1 g2 =>
      have c1 := cut_le _ _ g1
      refine ⟨.inl ⟨rfl, _, SqL.of c1⟩, M.run c1 (by rw [g2.len]; exact hl) rfl fun vs' _ => ?_⟩
      have k : KillR (F.RH (OwnA σ ρ2) H1 true) H1 (upd H1 _ (.lst vs')) := killR_upd c1 (by rw [g1]; exact fun z => by cases z) (fun _ z => by cases z)
      exact nx _ _ _ hn (by have := E2.kill (js := []) hb k rfl (fun _ _ => rfl) rfl; exact this) fun b hb' => s1.dom b (k.dom b hb')
instance {r : V → List V → Hp → VK → Prop} {n : Nat} {to : TE} {w : DW} {t : TA} {u : DAW} [A : DE K W to w] [B : DA K W t u] [M : MKill r n] : DSk K W (tKl (tDrop (tBM K "list" r to t))) (dKl1 n w u) where
  ok := fun {F σ H ρ X E Dn} hK En L h nx bk ct rt => by
    subst hK
    refine A.ok rfl En (L.to σ ρ) h fun dv ρ1 v H1 h1 E1 s1 r1 => ?_
    obtain ⟨hL, h1⟩ := h1
    have ty : tyV F.K "list" v H1 := by
      unfold isLstP at hL
      split at hL
      · rename_i q
        obtain ⟨a, vs, rfl, g1, _⟩ := r1.top E1 q
        exact .inl ⟨rfl, vs, SqL.of g1⟩
      · exact hL.elim
    refine ⟨ty, B.ok rfl E1 ((L.dm s1.dom).to σ ρ1) h1 fun ys ρ2 vs H2 h2 E2 s2 r2 => ?_⟩
    obtain ⟨hy, h2⟩ := h2
    obtain ⟨ds, ρ3, e, hl, hb, hn⟩ := klEnd_of h2
    obtain ⟨E3, s3, r3⟩ := RepV.st (Hs := H) E2 (r1.stp E1 s2) e
    cases r3 with
    | lst g1 g2 =>
      have c1 := cut_le _ _ g1
      refine M.run c1 (by rw [g2.len]; exact hl) (by rw [Paired.length r2]; exact hy) fun vs' _ => ?_
      have k : KillR (F.RH (OwnA σ ρ3) H2 true) H2 (upd H2 _ (.lst vs')) := killR_upd c1 (by rw [g1]; exact fun z => by cases z) (fun _ z => by cases z)
      exact nx _ _ _ hn (by have := E3.kill (js := []) hb k rfl (fun _ _ => rfl) rfl; exact this) fun b hb' => s1.dom b (s2.dom b (k.dom b hb'))
/-! ### each of the told things -/
def smallLst : D → Bool
  | .lst xs => decide (xs.length ≤ 100000)
  | _ => false
def dKlF (j : Nat) (w : DW) : DSW := fun X E ρ => w X ρ fun dv ρ1 => match st ρ1 dv with
  | some (true, .lst ds, ρ2) => ds.all smallLst = true ∧ ds.length ≤ 100000 ∧ ρ2.all killB = true ∧ (j ≠ 0 ∧ j < ρ2.length) ∧ E.nx ((ρ2.map killS).set j none)
  | _ => False
structure KlAt (K : PySem.W.Frag) (Hn H1 : Hp) (a : Addr) (vs : List V) (σ : L2.St) (j i : Nat) (σ2 : L2.St) (H2 : Hp) : Prop where
  k : KillR Hn H1 H2
  at_ : H2 a = some (.lst vs)
  its : ∀ v, v ∈ vs → ∃ b ws, v = .ref b ∧ b ≠ a ∧ (∃ us, Hn b = some (.lst us)) ∧ H2 b = some (.lst ws) ∧ ws.length ≤ 100000 + i
  len : σ2.length = σ.length
  oth : ∀ l, l ≠ j → σ2[l]? = σ[l]?
theorem klAt_init {K : PySem.W.Frag} {Hn H1 : Hp} {a : Addr} {vs : List V} {ds : List D} {σ : L2.St} {j : Nat} (le : Same Hn H1) (g1 : Hn a = some (.lst vs)) (g2 : RepL K Hn vs ds) (sm : ds.all smallLst = true) : KlAt K Hn H1 a vs σ j 0 σ H1 := by
  refine ⟨KillR.refl _ _, le _ _ g1, fun v hv => ?_, rfl, fun _ _ => rfl⟩
  obtain ⟨i, hi⟩ := List.getElem?_of_mem hv
  obtain ⟨d, hd, rd⟩ := g2.getV hi
  have s1 := List.all_eq_true.mp sm d (List.mem_of_getElem? hd)
  cases d with
  | lst xs =>
    have dd : (D.lst xs).dp < (D.lst ds).dp := by
      have := dpL_mem (List.mem_of_getElem? hd)
      simp only [D.dp] at this ⊢
      omega
    have whole : Rep K Hn (.ref a) (.lst ds) := .lst g1 g2
    cases rd with
    | @lst b ws _ f1 f2 =>
      refine ⟨b, ws, rfl, fun z => ?_, ⟨_, f1⟩, le _ _ f1, ?_⟩
      · subst z
        have := whole.dp1 (.lst f1 f2)
        omega
      · rw [f2.len]
        have := of_decide_eq_true s1
        omega
  | _ => cases s1
theorem KlAt.next {K : PySem.W.Frag} {Hn H1 : Hp} {a : Addr} {vs : List V} {σ : L2.St} {j i : Nat} {σ2 : L2.St} {H2 : Hp} (S : KlAt K Hn H1 a vs σ j i σ2 H2) {x : V} (hx : x ∈ vs) (hi : i < 100000) (le : Same Hn H1) :
    ∃ b ws, x = .ref b ∧ H2 b = some (.lst ws) ∧ ws.length < sizeLine ∧ ∀ vs', vs'.length ≤ ws.length + 1 → KlAt K Hn H1 a vs σ j (i + 1) (σ2.set j (some x)) (upd H2 b (.lst vs')) := by
  obtain ⟨b, ws, e, ne, ⟨us, hb⟩, h2, hl⟩ := S.its x hx
  refine ⟨b, ws, e, h2, by rw [sizeLine_eq]; omega, fun vs' hv => ⟨S.k.trans (killR_upd h2 (by rw [hb]; exact fun z => by cases z) fun _ z => by cases z), by rw [upd_ne (Ne.symm ne)]; exact S.at_, fun v hv2 => ?_, by rw [List.length_set]; exact S.len, fun l hl2 => by rw [List.getElem?_set_ne (Ne.symm hl2)]; exact S.oth l hl2⟩⟩
  obtain ⟨b2, ws2, e2, ne2, h3, h4, hl2⟩ := S.its v hv2
  by_cases z : b2 = b
  · subst z
    exact ⟨b2, vs', e2, ne2, h3, upd_same, by rw [h4] at h2; cases h2; omega⟩
  · exact ⟨b2, ws2, e2, ne2, h3, by rw [upd_ne z]; exact h4, by omega⟩
theorem klFor {te : TE} {w : DW} [A : DE K W te w] {j : Nat} {tb : TS}
    (body : ∀ {a : Addr} {ws : List V} {σ2 : L2.St} {H2 : Hp} {Dn : Ends}, σ2[j]? = some (some (.ref a)) → H2 a = some (.lst ws) → ws.length < sizeLine → (∀ vs', vs'.length ≤ ws.length + 1 → Dn.nx σ2 (upd H2 a (.lst vs'))) → tb Dn σ2 H2) :
    DSk K W (tKl (tFor (iG K te) (gName j) tb)) (dKlF j w) where
  ok := fun {F σ H ρ X E Dn} hK En L h nx bk ct rt => by
    subst hK
    refine A.ok rfl En (L.to σ ρ) h fun dv ρ1 v H1 h1 E1 s1 r1 => ?_
    unfold dKlF at h1
    split at h1
    · rename_i ds ρ2 e
      obtain ⟨sm, hl, hb, ⟨hj, hjr⟩, hn⟩ := h1
      obtain ⟨E2, s2, r2⟩ := RepV.st E1 r1 e
      cases r2 with
      | @lst a vs _ g1 g2 =>
        have c1 := cut_le _ _ g1
        have gl := g2.len
        refine .inl ⟨a, rfl, ⟨vs, SqL.of c1⟩, fun i m σ2 H2 => m = vs.length - i ∧ i ≤ vs.length ∧ KlAt F.K (F.RH (OwnA σ ρ2) H1 true) H1 a vs σ j i σ2 H2, ⟨_, rfl, Nat.zero_le _, klAt_init rh_le g1 g2 sm⟩, ?_⟩
        rintro i m σ2 H2 ⟨rfl, hi, S⟩
        by_cases hlt : i < vs.length
        · refine .inr ⟨⟨vs, vs[i], SqL.of S.at_, by simp [hlt]⟩, fun σ3 H3 => i + 1 ≤ vs.length ∧ KlAt F.K (F.RH (OwnA σ ρ2) H1 true) H1 a vs σ j (i + 1) σ3 H3, fun σ3 H3 z => ⟨vs.length - (i + 1), by omega, rfl, z⟩, fun x H3 y => ?_⟩
          obtain ⟨rfl, y⟩ := y
          have hx := y vs (SqL.of S.at_)
          obtain ⟨b, ws, rfl, f1, f2, f3⟩ := S.next (List.mem_of_getElem? hx) (by omega) rh_le
          have hjl : j < σ2.length := by
            rw [S.len, E2.len]
            exact hjr
          exact body (List.getElem?_set_self hjl) f1 f2 fun vs' hv => ⟨hlt, f3 vs' hv⟩
        · have hk := E2.kill (js := [j]) hb S.k S.len (fun l hl2 => S.oth l fun z => hl2 (by rw [z]; exact List.mem_cons_self)) (by cases j with | zero => exact absurd rfl hj | succ j => rfl)
          refine .inl ⟨⟨vs, SqL.of S.at_, by omega⟩, nx _ _ _ hn hk fun b hb' => s1.dom b (S.k.dom b hb')⟩
    · exact h1.elim
instance {te : TE} {w : DW} [A : DE K W te w] {j : Nat} {r : V → List V → Hp → VK → Prop} [M : MKill r 0] : DSk K W (tKl (tFor (iG K te) (gName j) (tDrop (tBM0 K "list" r (tVar j))))) (dKlF j w) :=
  klFor fun {a ws σ2 H2 Dn} h1 h2 h3 h4 => ⟨_, h1, .inl ⟨rfl, _, SqL.of h2⟩, M.run h2 h3 rfl h4⟩
instance {te : TE} {w : DW} [A : DE K W te w] {j : Nat} {v : V} {r : V → List V → Hp → VK → Prop} [M : MKill r 1] : DSk K W (tKl (tFor (iG K te) (gName j) (tDrop (tBM K "list" r (tVar j) (tCons (tC v) tNil))))) (dKlF j w) :=
  klFor fun {a ws σ2 H2 Dn} h1 h2 h3 h4 => ⟨_, h1, .inl ⟨rfl, _, SqL.of h2⟩, M.run h2 h3 rfl h4⟩
end
end PW

namespace PW
open PySem PySem.Spec PyProof.Rows L2
/-! ### both parts of a told pair are emptied: for x in t[0]: x.clear(); t[1].clear() -/
def tKl2 (t : TS) : TS := t
theorem pss_kl2 {X : Cx} {b : List Stmt} {t : TS} (h : PSs X b t) : PSs X b (tKl2 t) := h
def dKl2 (i j : Nat) (wr : DSW) : DSW := fun X E ρ => match ρ[i]? with
  | some (some (.sh true (.tup [.lst ds, .lst es]))) => ds.all smallLst = true ∧ ds.length ≤ 100000 ∧ es.length ≤ 100000 ∧ ρ.all killB = true ∧ (j ≠ 0 ∧ j < ρ.length ∧ j ≠ i) ∧ wr X E ((ρ.map killS).set j none)
  | _ => False
section
variable {K : PySem.W.Frag} {W : WXT}
instance {i j : Nat} {tr : TS} {wr : DSW} [R : DSk K W tr wr] : DSk K W (tKl2 (tSeq (tFor (iG K (tOp (rIxG K) (tVar i) (tC (.int 0)))) (gName j) (tDrop (tBM0 K "list" rClear (tVar j)))) (tSeq (tDrop (tBM0 K "list" rClear (tOp (rIxG K) (tVar i) (tC (.int 1))))) tr))) (dKl2 i j wr) where
  ok := fun {F σ H ρ X E Dn} hK En L h nx bk ct rt => by
    subst hK
    unfold dKl2 at h
    split at h
    · rename_i ds es hi
      obtain ⟨sm, dl, el, hb, ⟨hj, hjl, hji⟩, hr⟩ := h
      obtain ⟨v, hv, rp⟩ := En.sh i _ _ hi
      cases rp with
      | @tup T vs2 _ g1 g2 =>
        cases g2 with
        | @cons v0 _ _ _ r0 g3 =>
          cases g3 with
          | @cons v1 _ _ _ r1 g4 =>
            cases g4
            cases r0 with
            | @lst a vs _ a1 a2 =>
              cases r1 with
              | @lst c ws _ c1 c2 =>
                have TH := cut_le _ _ g1
                have aH := cut_le _ _ a1
                have cH := cut_le _ _ c1
                have gl := a2.len
                have cl := c2.len
                refine ⟨_, hv, .inr (.inl ⟨T, _, 0, _, rfl, rfl, SqT.of TH, rfl, ?_⟩)⟩
                refine .inl ⟨a, rfl, ⟨vs, SqL.of aH⟩, fun k m σ2 H2 => m = vs.length - k ∧ k ≤ vs.length ∧ KlAt F.K (F.RH (OwnA σ ρ) H true) H a vs σ j k σ2 H2 ∧ ∃ ws', H2 c = some (.lst ws') ∧ ws'.length ≤ 100000 + k, ⟨_, rfl, Nat.zero_le _, klAt_init rh_le a1 a2 sm, ws, cH, by omega⟩, ?_⟩
                rintro k m σ2 H2 ⟨rfl, hk, S, ws', hc, hcl⟩
                have hjl2 : j < σ2.length := by
                  rw [S.len, En.len]
                  exact hjl
                by_cases hlt : k < vs.length
                · refine .inr ⟨⟨vs, vs[k], SqL.of S.at_, by simp [hlt]⟩, fun σ3 H3 => k + 1 ≤ vs.length ∧ KlAt F.K (F.RH (OwnA σ ρ) H true) H a vs σ j (k + 1) σ3 H3 ∧ ∃ ws', H3 c = some (.lst ws') ∧ ws'.length ≤ 100000 + (k + 1), fun σ3 H3 z => ⟨vs.length - (k + 1), by omega, rfl, z⟩, fun x H3 y => ?_⟩
                  obtain ⟨rfl, y⟩ := y
                  have hx := y vs (SqL.of S.at_)
                  obtain ⟨b, wb, rfl, f1, f2, f3⟩ := S.next (List.mem_of_getElem? hx) (by omega) rh_le
                  refine ⟨_, List.getElem?_set_self hjl2, .inl ⟨rfl, _, SqL.of f1⟩, MKill.run (r := rClear) f1 f2 rfl fun vs' hv' => ⟨hlt, f3 vs' hv', ?_⟩⟩
                  by_cases e : c = b
                  · subst e
                    rw [hc] at f1
                    cases f1
                    exact ⟨vs', upd_same, by omega⟩
                  · exact ⟨ws', by rw [upd_ne e]; exact hc, by omega⟩
                · have si : σ2[i]? = σ[i]? := S.oth i (Ne.symm hji)
                  have T2 : H2 T = some (.tup _) := S.k.kp _ _ TH (.inr ⟨_, rfl⟩)
                  refine .inl ⟨⟨vs, SqL.of S.at_, by omega⟩, _, si.trans hv, .inr (.inl ⟨T, _, 1, _, rfl, rfl, SqT.of T2, rfl, .inl ⟨rfl, _, SqL.of hc⟩, MKill.run (r := rClear) hc (by rw [sizeLine_eq]; omega) rfl fun vs' _ => ?_⟩)⟩
                  have k2 : KillR (F.RH (OwnA σ ρ) H true) H (upd H2 c (.lst vs')) := S.k.trans (killR_upd hc (by rw [c1]; exact fun z => by cases z) fun _ z => by cases z)
                  have hkE := En.kill (js := [j]) hb k2 S.len (fun l hl2 => S.oth l fun z => hl2 (by rw [z]; exact List.mem_cons_self)) (by cases j with | zero => exact absurd rfl hj | succ j => rfl)
                  have dm : Dm H (upd H2 c (.lst vs')) := fun b hb' => k2.dom b hb'
                  exact R.ok rfl hkE (L.dm dm) hr (fun ρ' σ' H' z E' d => nx ρ' σ' H' z E' (fun a b => dm a (d a b))) (fun ρ' σ' H' z E' d => bk ρ' σ' H' z E' (fun a b => dm a (d a b))) (fun ρ' σ' H' z E' d => ct ρ' σ' H' z E' (fun a b => dm a (d a b))) fun e ρ' σ' v H' z E' d r => rt e ρ' σ' v H' z E' (fun a b => dm a (d a b)) r
    · exact h.elim
/-! a restart that waits till its frame is written out -/
@[irreducible] def rstC (w : DSW) : DSW := fun X E ρ => dRst w X E ρ
theorem rst_of {w : DSW} {X : XC} {E : DEnds} {ρ : DEnv} (ρ1 ρ2 : DEnv) (e : ρ = ρ1) (h1 : rstB (frzN ρ1 ρ1.length) = true) (h2 : (frzN ρ1 ρ1.length).map paS = ρ2) (h : w (fun x r => X x (r.map unS)) (rstE E) ρ2) : rstC w X E ρ := by
  unfold rstC
  subst e
  subst h2
  exact ⟨h1, h⟩
def tRst2 (t : TS) : TS := t
theorem pss_rst2 {X : Cx} {b : List Stmt} {t : TS} (h : PSs X b t) : PSs X b (tRst2 t) := h
instance {t : TS} {w : DSW} [A : DSk K W t w] : DS K W (tRst2 t) (rstC w) where
  ok := fun {F σ H ρ X E Dn} hK En L h nx bk ct rt => by
    unfold rstC at h
    exact (inferInstance : DS K W (tRst t) (dRst w)).ok hK En L h nx bk ct rt
end
end PW

namespace PW
open PySem PySem.Spec PyProof.Rows L2
/-! ### slots that are told no more -/
section
variable {F : Fr} {σ : L2.St} {ρ : DEnv} {H : Hp} {i : Nat}
theorem Env.fgt1 (E : Env F σ ρ H) (h0 : i ≠ 0) : Env F σ (ρ.set i none) H ∧ Stp (OwnA σ ρ) H (OwnA σ (ρ.set i none)) H := by
  have back : ∀ {j : Nat} {s : Sl}, (ρ.set i none)[j]? = some (some s) → ρ[j]? = some (some s) := fun {j s} h => by
    by_cases e : i = j
    · subst e
      by_cases hl : i < ρ.length
      · rw [List.getElem?_set_self hl] at h
        cases h
      · rw [List.getElem?_eq_none (by rw [List.length_set]; omega)] at h
        cases h
    · rw [List.getElem?_set_ne e] at h
      exact h
  have own : ∀ j a, OwnAt σ (ρ.set i none) j a → OwnAt σ ρ j a := fun j a ⟨r, d, h1, h2⟩ => ⟨r, d, back h1, h2⟩
  have ownA : ∀ a, OwnA σ (ρ.set i none) a → OwnA σ ρ a := fun a ⟨j, h⟩ => ⟨j, own j a h⟩
  have st : Stp (OwnA σ ρ) H (OwnA σ (ρ.set i none)) H := ⟨fun a o h n => ⟨h, fun z => n (ownA a z)⟩, fun _ h => h⟩
  have up : ∀ r, Same (F.RH (OwnA σ ρ) H r) (F.RH (OwnA σ (ρ.set i none)) H r) := fun r => E.rh st
  refine ⟨⟨by rw [List.length_set]; exact E.len, E.keep, fun j r d h => ?_, fun j r d h => ?_, fun j k a h g => E.inj j k a (own j a h) (own k a g), fun a h => ?_, E.hidIn, fun j r d h => E.xo j r d (back h), fun j r d b h hb => E.xt j r d b (back h) hb, E.pxIn, E.tp, E.hc, E.tc, E.sc, fun j s h => (E.raw j s (back h)).mono up⟩, st⟩
  · obtain ⟨v, h1, h2⟩ := E.sh j r d (back h)
    exact ⟨v, h1, h2.mono (up r)⟩
  · obtain ⟨a, h1, h2, h3⟩ := E.ow j r d (back h)
    exact ⟨a, h1, h2.mono (up r), h3⟩
  · obtain ⟨r, d, h1, h2⟩ := E.pt a h
    exact ⟨r, d, by rw [List.getElem?_set_ne h0]; exact h1, h2⟩
def fgtN : List Nat → DEnv → DEnv
  | [], ρ => ρ
  | i :: is, ρ => fgtN is (ρ.set i none)
theorem Env.fgtN : ∀ {is : List Nat} {ρ : DEnv} (_ : Env F σ ρ H), is.contains 0 = false → Env F σ (PW.fgtN is ρ) H ∧ Stp (OwnA σ ρ) H (OwnA σ (PW.fgtN is ρ)) H
  | [], _, E, _ => ⟨E, .refl _ _⟩
  | i :: is, ρ, E, h => by
    rw [List.contains_cons, Bool.or_eq_false_iff] at h
    obtain ⟨h1, h2⟩ := E.fgt1 (i := i) fun z => by
      subst z
      exact absurd h.1 (by decide)
    obtain ⟨h3, h4⟩ := Env.fgtN (is := is) h1 h.2
    exact ⟨h3, h2.trans h4⟩
end
def tFg (_ : List Nat) (t : TS) : TS := t
theorem pss_fg (is : List Nat) {X : Cx} {b : List Stmt} {t : TS} (h : PSs X b t) : PSs X b (tFg is t) := h
def dFg (is : List Nat) (w : DSW) : DSW := fun X E ρ => is.contains 0 = false ∧ w X E (fgtN is ρ)
instance {K : PySem.W.Frag} {W : WXT} {is : List Nat} {t : TS} {w : DSW} [A : DS K W t w] : DS K W (tFg is t) (dFg is w) where
  ok := fun {F σ H ρ X E Dn} hK En L h nx bk ct rt => by
    obtain ⟨h0, h⟩ := h
    obtain ⟨E1, s1⟩ := En.fgtN h0
    exact A.ok hK E1 (fun x ρ' σ' dd H' hx E' s r => L x ρ' σ' dd H' hx E' (s1.trans s) r) h (fun ρ' σ' H' z E' s => nx ρ' σ' H' z E' (s1.trans s)) (fun ρ' σ' H' z E' s => bk ρ' σ' H' z E' (s1.trans s)) (fun ρ' σ' H' z E' s => ct ρ' σ' H' z E' (s1.trans s)) fun d ρ' σ' v H' z E' s r => rt d ρ' σ' v H' z E' (s1.trans s) r
end PW

namespace PW
open PySem PySem.Spec PyProof.Rows L2
/-! ### what was told some time ago is changed: what was made since, and what stood before it, stays -/
def midS : Option Sl → Option Sl
  | some (.sh true d) => some (.sh true d)
  | s => killS (unS s)
section
variable {F : Fr} {σ σ1 σ2 : L2.St} {ρ ρ1 : DEnv} {H H1 H2 : Hp} {j : Nat}
/-- where told things are: new since an entry, there at a later one -/
noncomputable abbrev midH (F : Fr) (σ : L2.St) (ρ : DEnv) (H : Hp) : Hp := cut (fun a => (F.rst (OwnA σ ρ) H).ex a ∨ (true = true ∧ F.H0 a ≠ none)) H
theorem mid_le (E1 : Env (F.rst (OwnA σ ρ) H) σ1 ρ1 H1) : Same (midH F σ ρ H) H1 := fun a o h => by
  obtain ⟨h1, h2⟩ := cut_inv h
  rcases h2 with h2 | ⟨xs, rfl⟩
  · exact (E1.keep a o h1 (fun z => h2 (.inl (.inl z))) fun z => h2 (.inl (.inr (.inl z)))).resolve_right fun z => z.1
  · exact E1.tp a xs h1
theorem Env.killMid {js : List Nat} (E0 : Env F σ ρ H) (ok : rstB ρ = true) (E1 : Env (F.rst (OwnA σ ρ) H) σ1 ρ1 H1) (dm : ∀ a, H1 a = none → H a = none) (hb : (ρ1.map unS).all killB = true) (fz : rstB ρ1 = true) (k : KillR (midH F σ ρ H) H1 H2) (hl : σ2.length = σ1.length) (hs : ∀ l, l ∉ js → σ2[l]? = σ1[l]?) (hj : js.contains 0 = false) : Env F σ2 (wipeD (ρ1.map midS) js) H2 := by
  obtain ⟨E2, _, _⟩ := E0.unrst ok E1 dm
  have km : KillR (F.RH (OwnA σ1 (ρ1.map unS)) H1 true) H1 H2 := ⟨fun a o h hz => k.kp a o h (hz.imp_left fun z => by
    cases e : midH F σ ρ H a with
    | none => rfl
    | some u =>
      exfalso
      obtain ⟨h1, h2⟩ := cut_inv e
      have h3 := mid_le E1 a u e
      rw [h] at h3
      cases h3
      rcases h2 with h2 | ⟨xs, rfl⟩
      · have nb : ¬ F.bad (OwnA σ1 (ρ1.map unS)) true a := fun b => by
          rcases b with b | b | b
          · exact h2 (.inl (.inr (.inr (.inr b))))
          · exact E1.notOwn h1 (fun z => h2 (.inl (.inl z))) (fun z => h2 (.inl (.inr (.inl z)))) (unS_ownA.mp b)
          · exact h2 (.inr b)
        have := cut_of h nb
        exact absurd (z.symm.trans this) fun y => by cases y
      · have := cut_tup (bad := F.bad (OwnA σ1 (ρ1.map unS)) true) h
        exact absurd (z.symm.trans this) fun y => by cases y), k.dom⟩
  have E3 := E2.kill (js := js) hb km hl hs hj
  have back : ∀ {ρ' : DEnv} {l : Nat} {s : Sl}, (wipeD ρ' js)[l]? = some (some s) → l ∉ js ∧ ρ'[l]? = some (some s) := fun {ρ' l s} h => by
    rw [wipeD_at] at h
    split at h
    · cases h
    · rename_i n
      exact ⟨fun z => n ⟨z, (List.getElem?_eq_some_iff.mp h).1⟩, h⟩
  have fwd : ∀ {ρ' : DEnv} {l : Nat}, l ∉ js → (wipeD ρ' js)[l]? = ρ'[l]? := fun {ρ' l} h => by
    rw [wipeD_at, if_neg fun z => h z.1]
  let ρ4 : DEnv := wipeD ((ρ1.map unS).map killS) js
  let ρ3 : DEnv := wipeD (ρ1.map midS) js
  have rel : ∀ {l : Nat} {s : Sl}, ρ3[l]? = some (some s) → ρ4[l]? = some (some s) ∨ ∃ d, s = .sh true d ∧ ρ1[l]? = some (some (.sh true d)) ∧ l ∉ js := fun {l s} h => by
    obtain ⟨e, h⟩ := back h
    have g4 : ρ4[l]? = ((ρ1.map unS).map killS)[l]? := fwd e
    rw [List.getElem?_map] at h
    cases e1 : ρ1[l]? with
    | none =>
      rw [e1] at h
      cases h
    | some s1 =>
      rw [e1] at h
      have h : midS s1 = some s := Option.some.inj h
      have g5 : ρ4[l]? = some (killS (unS s1)) := by
        rw [g4, List.getElem?_map, List.getElem?_map, e1]
        rfl
      unfold midS at h
      split at h
      · cases h
        exact .inr ⟨_, rfl, rfl, e⟩
      · rw [g5, h]
        exact .inl rfl
  have rel2 : ∀ {l : Nat} {r : Bool} {d : D}, ρ4[l]? = some (some (.ow r d)) → ρ3[l]? = some (some (.ow r d)) := fun {l r d} h => by
    obtain ⟨e, h⟩ := back h
    have h1 := unS_ow.mp (killS_ow h).1
    cases rst_pot fz h1
    have g3 : ρ3[l]? = (ρ1.map midS)[l]? := fwd e
    rw [g3, List.getElem?_map, h1]
    rfl
  have own : ∀ {l a}, OwnAt σ2 ρ3 l a → OwnAt σ2 ρ4 l a := fun {l a} ⟨r, d, h1, h2⟩ => by
    rcases rel h1 with h1 | ⟨d', z, _⟩
    · exact ⟨r, d, h1, h2⟩
    · cases z
  have own2 : ∀ {l a}, OwnAt σ2 ρ4 l a → OwnAt σ2 ρ3 l a := fun {l a} ⟨r, d, h1, h2⟩ => ⟨r, d, rel2 h1, h2⟩
  have ownA : ∀ a, OwnA σ2 ρ3 a ↔ OwnA σ2 ρ4 a := fun a => ⟨fun ⟨l, h⟩ => ⟨l, own h⟩, fun ⟨l, h⟩ => ⟨l, own2 h⟩⟩
  have up : ∀ r, Same (F.RH (OwnA σ2 ρ4) H2 r) (F.RH (OwnA σ2 ρ3) H2 r) := fun r => cut_mono (fun b o hb nb => ⟨hb, fun z => nb (z.imp_right (Or.imp_left (ownA b).mp))⟩) fun b xs hb _ => hb
  have own1 : ∀ a, OwnA σ2 ρ3 a → OwnA σ1 ρ1 a := fun a ⟨l, h⟩ => by
    obtain ⟨r, d, h1, h2⟩ := own h
    obtain ⟨e, h1⟩ := back h1
    have h1 := unS_ow.mp (killS_ow h1).1
    exact ⟨l, r, d, h1, by rw [← hs l e]; exact h2⟩
  show Env F σ2 ρ3 H2
  refine ⟨?_, E3.keep, fun l r d h => ?_, fun l r d h => ?_, fun l m a h g => E3.inj l m a (own h) (own g), fun a h => ?_, E3.hidIn, fun l r d h => ?_, fun l r d b h hb' => ?_, E3.pxIn, E3.tp, E3.hc, E3.tc, E3.sc, fun l s h => ?_⟩
  · show σ2.length = (wipeD (ρ1.map midS) js).length
    rw [wipeD_len, List.length_map, hl]
    exact E1.len
  · rcases rel h with h | ⟨d', z, h1, hne⟩
    · obtain ⟨v, g1, g2⟩ := E3.sh l r d h
      exact ⟨v, g1, g2.mono (up r)⟩
    · cases z
      obtain ⟨v, g1, g2⟩ := E1.sh l true _ h1
      refine ⟨v, by rw [hs l hne]; exact g1, g2.mono (cut_mono (fun b o hb' nb => ?_) fun b xs hb' _ => k.kp b _ hb' (.inr ⟨xs, rfl⟩))⟩
      have hn : H b = none := Classical.byContradiction fun z => nb (.inr (.inr ⟨rfl, z⟩))
      refine ⟨k.kp b o hb' (.inl ?_), fun z => ?_⟩
      · cases e : midH F σ ρ H b with
        | none => rfl
        | some u =>
          have := (cut_inv e).1
          rw [hn] at this
          cases this
      · rcases z with z | z | z
        · exact nb (.inl z)
        · exact nb (.inr (.inl (own1 b z)))
        · exact z.2 (E0.new hn).1
  · rcases rel h with h | ⟨d', z, _⟩
    · obtain ⟨a, g1, g2, g3⟩ := E3.ow l r d h
      exact ⟨a, g1, g2.mono (up r), g3⟩
    · cases z
  · obtain ⟨r, d, h1, h2⟩ := E3.pt a h
    exact ⟨r, d, rel2 h1, h2⟩
  · rcases rel h with h | ⟨d', z, _⟩
    · exact E3.xo l r d h
    · cases z
  · rcases rel h with h | ⟨d', z, _⟩
    · exact E3.xt l r d b h hb'
    · cases z
  · rcases rel h with h | ⟨d', rfl, _⟩
    · exact (E3.raw l s h).mono up
    · trivial
end
/-! a block begun anew within one, at whose end told things are changed -/
class DMk (K : PySem.W.Frag) (W : WXT) (t : TS) (w : outParam DSW) : Prop where
  ok : ∀ {F : Fr} {σ σ1 : L2.St} {H H1 : Hp} {ρ ρ1 : DEnv} {X : XC} {E : DEnds} {Dn : Ends}, F.K = K → Env F σ ρ H → rstB ρ = true → XLinkK F W X H → Env (F.rst (OwnA σ ρ) H) σ1 ρ1 H1 → Dm H H1 → w X E ρ1 →
    (∀ ρ' σ' H', E.nx ρ' → Env F σ' ρ' H' → Dm H H' → Dn.nx σ' H') →
    (∀ ρ' σ' H', E.bk ρ' → Env F σ' ρ' H' → Dm H H' → Dn.bk σ' H') →
    (∀ ρ' σ' H', E.ct ρ' → Env F σ' ρ' H' → Dm H H' → Dn.ct σ' H') →
    (∀ d ρ' σ' v H', E.rt d ρ' → Env F σ' ρ' H' → Dm H H' → Rep F.K (F.RH (OwnA σ' ρ') H' true) v d → Dn.rt v H') → t Dn σ1 H1
def dMidSeq (w y : DSW) : DSW := fun X E ρ => w (fun x r => X x (r.map unS)) { rstE E with nx := fun ρ2 => y X E ρ2 } ρ
section
variable {K : PySem.W.Frag} {W : WXT}
instance (priority := low) {s u : TS} {w y : DSW} [A : DS K W s w] [B : DMk K W u y] : DMk K W (tSeq s u) (dMidSeq w y) where
  ok := fun {F σ σ1 H H1 ρ ρ1 X E Dn} hK E0 ok L E1 m1 h nx bk ct rt => by
    have back : ∀ {σ' ρ' H'}, Env (F.rst (OwnA σ ρ) H) σ' ρ' H' → Dm H1 H' → Env F σ' (ρ'.map unS) H' ∧ Dm H H' ∧ ∀ r, Same ((F.rst (OwnA σ ρ) H).RH (OwnA σ' ρ') H' r) (F.RH (OwnA σ' (ρ'.map unS)) H' r) := fun {σ' ρ' H'} E' m => by
      have mm : Dm H H' := fun a z => m1 a (m a z)
      obtain ⟨g1, g2, g3⟩ := E0.unrst ok E' mm
      exact ⟨g1, mm, g3⟩
    refine A.ok (F := F.rst (OwnA σ ρ) H) hK E1 (fun x ρ' σ' dd H' hx E' s r' => ?_) h (fun ρ' σ' H' z E' s => B.ok hK E0 ok L E' (fun a q => m1 a (s.dom a q)) z nx bk ct rt) (fun ρ' σ' H' z E' s => ?_) (fun ρ' σ' H' z E' s => ?_) fun d ρ' σ' v H' z E' s r => ?_
    · obtain ⟨g1, g2, g3⟩ := back E' s.dom
      exact L x _ σ' dd H' hx g1 g2 (r'.mono (g3 true))
    · obtain ⟨g1, g2, g3⟩ := back E' s.dom
      exact bk _ σ' H' z g1 g2
    · obtain ⟨g1, g2, g3⟩ := back E' s.dom
      exact ct _ σ' H' z g1 g2
    · obtain ⟨g1, g2, g3⟩ := back E' s.dom
      exact rt d _ σ' v H' z g1 g2 (r.mono (g3 true))
instance {is : List Nat} {t : TS} {w : DSW} [A : DMk K W t w] : DMk K W (tFg is t) (dFg is w) where
  ok := fun {F σ σ1 H H1 ρ ρ1 X E Dn} hK E0 ok L E1 m1 h nx bk ct rt => A.ok hK E0 ok L (E1.fgtN h.1).1 m1 h.2 nx bk ct rt
def tMid (t : TS) : TS := t
theorem pss_mid {X : Cx} {b : List Stmt} {t : TS} (h : PSs X b t) : PSs X b (tMid t) := h
@[irreducible] def midC (w : DSW) : DSW := fun X E ρ => rstB (frzN ρ ρ.length) = true ∧ w X E ((frzN ρ ρ.length).map paS)
theorem mid_of {w : DSW} {X : XC} {E : DEnds} {ρ : DEnv} (ρ1 ρ2 : DEnv) (e : ρ = ρ1) (h1 : rstB (frzN ρ1 ρ1.length) = true) (h2 : (frzN ρ1 ρ1.length).map paS = ρ2) (h : w X E ρ2) : midC w X E ρ := by
  unfold midC
  subst e
  subst h2
  exact ⟨h1, h⟩
instance {t : TS} {w : DSW} [A : DMk K W t w] : DSk K W (tMid t) (midC w) where
  ok := fun {F σ H ρ X E Dn} hK En L h nx bk ct rt => by
    unfold midC at h
    obtain ⟨hok, h⟩ := h
    obtain ⟨E0, s0⟩ := En.frzN ρ.length
    exact A.ok hK E0 hok L (E0.restart hok) (fun _ z => z) h nx bk ct rt
/-! the change itself -/
theorem frzN_len (ρ : DEnv) : ∀ n, (frzN ρ n).length = ρ.length
  | 0 => rfl
  | n + 1 => by
    rw [frzN]
    unfold frz1
    split
    · split
      · exact frzN_len ρ n
      · rw [List.length_set]
        exact frzN_len ρ n
    · exact frzN_len ρ n
/-- a change of what stands in a slot -/
class DMKill (K : PySem.W.Frag) (t : TS) (i : outParam Nat) (js : outParam (List Nat)) (ok : outParam (D → Prop)) : Prop where
  run : ∀ {σ : L2.St} {H Hn : Hp} {v : V} {d : D} {Dn : Ends}, σ[i]? = some (some v) → (∀ j ∈ js, j < σ.length) → Rep K Hn v d → Same Hn H → ok d →
    (∀ σ' H', KillR Hn H H' → σ'.length = σ.length → (∀ j, j ∉ js → σ'[j]? = σ[j]?) → Dn.nx σ' H') → t Dn σ H
@[irreducible] def mkC (i : Nat) (js : List Nat) (okd : D → Prop) (wr : DSW) : DSW := fun X E ρ => match (frzN ρ ρ.length)[i]? with
  | some (some (.pa true d)) => rstB (frzN ρ ρ.length) = true ∧ okd d ∧ ((frzN ρ ρ.length).map unS).all killB = true ∧ (js.contains 0 = false ∧ ∀ j ∈ js, j < ρ.length) ∧ wr X E (wipeD ((frzN ρ ρ.length).map midS) js)
  | _ => False
theorem mk_of {i : Nat} {js : List Nat} {okd : D → Prop} {wr : DSW} {X : XC} {E : DEnds} {ρ : DEnv} {d : D} (ρ1 ρ2 ρ3 : DEnv) (e : ρ = ρ1) (h2 : frzN ρ1 ρ1.length = ρ2) (hi : ρ2[i]? = some (some (.pa true d))) (hr : rstB ρ2 = true) (hok : okd d) (hb : (ρ2.map unS).all killB = true) (hj : js.contains 0 = false ∧ ∀ j ∈ js, j < ρ1.length) (h3 : wipeD (ρ2.map midS) js = ρ3) (h : wr X E ρ3) : mkC i js okd wr X E ρ := by
  unfold mkC
  subst e
  subst h2
  subst h3
  rw [hi]
  exact ⟨hr, hok, hb, hj, h⟩
def tMk (t : TS) : TS := t
theorem pss_mk {X : Cx} {b : List Stmt} {t : TS} (h : PSs X b t) : PSs X b (tMk t) := h
def tMk2 (t : TS) : TS := t
theorem pss_mk2 {X : Cx} {b : List Stmt} {t : TS} (h : PSs X b t) : PSs X b (tMk2 t) := h
instance mkSeq {i : Nat} {js : List Nat} {okd : D → Prop} {t tr : TS} {wr : DSW} [A : DMKill K t i js okd] [R : DSk K W tr wr] : DMk K W (tMk (tSeq t tr)) (mkC i js okd wr) where
  ok := fun {F σ σ1 H H1 ρ ρ1 X E Dn} hK E0 ok L E1 m1 h nx bk ct rt => by
    subst hK
    unfold mkC at h
    obtain ⟨Ef, sf⟩ := E1.frzN ρ1.length
    have lf := frzN_len ρ1 ρ1.length
    generalize frzN ρ1 ρ1.length = ρf at *
    split at h
    · rename_i d hi
      obtain ⟨hrb, hok, hb, ⟨hj, hjr⟩, hr⟩ := h
      obtain ⟨v, hv, rp⟩ := Ef.raw i _ hi
      have le : Same (midH F σ ρ H) H1 := mid_le (ρ1 := ρf) Ef
      have rp : Rep F.K (midH F σ ρ H) v d := rp
      refine A.run hv (fun j hj2 => by rw [Ef.len, lf]; exact hjr j hj2) rp le hok fun σ2 H2 k hl hs => ?_
      have hkE := E0.killMid ok Ef m1 hb hrb k hl hs hj
      have dm : Dm H H2 := fun b hb' => m1 b (k.dom b hb')
      exact R.ok rfl hkE (L.dm dm) hr (fun ρ' σ' H' z E' d => nx ρ' σ' H' z E' (fun a b => dm a (d a b))) (fun ρ' σ' H' z E' d => bk ρ' σ' H' z E' (fun a b => dm a (d a b))) (fun ρ' σ' H' z E' d => ct ρ' σ' H' z E' (fun a b => dm a (d a b))) fun e ρ' σ' v H' z E' d r => rt e ρ' σ' v H' z E' (fun a b => dm a (d a b)) r
    · exact h.elim
instance {i : Nat} {js : List Nat} {okd : D → Prop} {s u tr : TS} {wr : DSW} [A : DMKill K (tSeq s u) i js okd] [R : DSk K W tr wr] : DMk K W (tMk2 (tSeq s (tSeq u tr))) (mkC i js okd wr) :=
  mkSeq (t := tSeq s u)
/-! each of the told things; then the told list itself -/
def okRows (i j : Nat) (d : D) : Prop := ∃ ds, d = .lst ds ∧ ds.all smallLst = true ∧ ds.length ≤ 100000 ∧ j ≠ i
theorem klEach {i j : Nat} {tb : TS} {σ : L2.St} {H Hn : Hp} {v : V} {d : D} {Dn : Ends}
    (body : ∀ {a : Addr} {ws : List V} {σ2 : L2.St} {H2 : Hp} {Dn : Ends}, σ2[j]? = some (some (.ref a)) → H2 a = some (.lst ws) → ws.length < sizeLine → (∀ vs', vs'.length ≤ ws.length + 1 → Dn.nx σ2 (upd H2 a (.lst vs'))) → tb Dn σ2 H2)
    (hv : σ[i]? = some (some v)) (hjr : j < σ.length) (rp : Rep K Hn v d) (le : Same Hn H) (hok : okRows i j d)
    (nx : ∀ a vs σ' H', v = .ref a → Hn a = some (.lst vs) → H' a = some (.lst vs) → vs.length ≤ 100000 → KillR Hn H H' → σ'.length = σ.length → (∀ l, l ≠ j → σ'[l]? = σ[l]?) → Dn.nx σ' H') : tFor (iG K (tVar i)) (gName j) tb Dn σ H := by
  obtain ⟨ds, rfl, sm, hl, hji⟩ := hok
  cases rp with
  | @lst a vs _ g1 g2 =>
    have c1 := le _ _ g1
    have gl := g2.len
    refine ⟨_, hv, .inl ⟨a, rfl, ⟨vs, SqL.of c1⟩, fun k m σ2 H2 => m = vs.length - k ∧ k ≤ vs.length ∧ KlAt K Hn H a vs σ j k σ2 H2, ⟨_, rfl, Nat.zero_le _, klAt_init le g1 g2 sm⟩, ?_⟩⟩
    rintro k m σ2 H2 ⟨rfl, hk, S⟩
    by_cases hlt : k < vs.length
    · refine .inr ⟨⟨vs, vs[k], SqL.of S.at_, by simp [hlt]⟩, fun σ3 H3 => k + 1 ≤ vs.length ∧ KlAt K Hn H a vs σ j (k + 1) σ3 H3, fun σ3 H3 z => ⟨vs.length - (k + 1), by omega, rfl, z⟩, fun x H3 y => ?_⟩
      obtain ⟨rfl, y⟩ := y
      have hx := y vs (SqL.of S.at_)
      obtain ⟨b, ws, rfl, f1, f2, f3⟩ := S.next (List.mem_of_getElem? hx) (by omega) le
      have hjl : j < σ2.length := by
        rw [S.len]
        exact hjr
      exact body (List.getElem?_set_self hjl) f1 f2 fun vs' hv' => ⟨hlt, f3 vs' hv'⟩
    · exact .inl ⟨⟨vs, SqL.of S.at_, by omega⟩, nx a vs σ2 H2 rfl g1 S.at_ (by omega) S.k S.len S.oth⟩
instance {i j : Nat} {r : V → List V → Hp → VK → Prop} [M : MKill r 0] : DMKill K (tFor (iG K (tVar i)) (gName j) (tDrop (tBM0 K "list" r (tVar j)))) i [j] (okRows i j) where
  run := fun {σ H Hn v d Dn} hv hjr rp le hok nx => klEach (fun {a ws σ2 H2 Dn} h1 h2 h3 h4 => ⟨_, h1, .inl ⟨rfl, _, SqL.of h2⟩, M.run h2 h3 rfl h4⟩) hv (hjr j List.mem_cons_self) rp le hok fun a vs σ' H' _ _ _ _ k hl hs => nx σ' H' k hl fun l hl2 => hs l fun z => hl2 (by rw [z]; exact List.mem_cons_self)
instance {i j : Nat} {r : V → List V → Hp → VK → Prop} [M : MKill r 0] : DMKill K (tSeq (tFor (iG K (tVar i)) (gName j) (tDrop (tBM0 K "list" r (tVar j)))) (tDrop (tBM0 K "list" rClear (tVar i)))) i [j] (okRows i j) where
  run := fun {σ H Hn v d Dn} hv hjr rp le hok nx => by
    have hji : j ≠ i := hok.choose_spec.2.2.2
    refine klEach (Dn := { Dn with nx := _ }) (fun {a ws σ2 H2 Dn} h1 h2 h3 h4 => ⟨_, h1, .inl ⟨rfl, _, SqL.of h2⟩, M.run h2 h3 rfl h4⟩) hv (hjr j List.mem_cons_self) rp le hok fun a vs σ' H' e g1 at_ hl2 k hl hs => ?_
    subst e
    have si : σ'[i]? = σ[i]? := hs i (Ne.symm hji)
    refine ⟨_, si.trans hv, .inl ⟨rfl, _, SqL.of at_⟩, MKill.run (r := rClear) at_ (by rw [sizeLine_eq]; omega) rfl fun vs' _ => ?_⟩
    exact nx _ _ (k.trans (killR_upd at_ (by rw [g1]; exact fun z => by cases z) fun _ z => by cases z)) hl fun l hl2 => hs l fun z => hl2 (by rw [z]; exact List.mem_cons_self)
end
end PW

namespace PW
open PySem PySem.Spec PyProof.Rows L2
/-! ### told things are changed: what is elder than they are, and what is younger, stays -/
/-- things of the middle: new since the block was begun -/
noncomputable abbrev mqH (F : Fr) (σ : L2.St) (ρ : DEnv) (H : Hp) : Hp := F.RH (OwnA σ ρ) H true
noncomputable def Fr.rsq (F : Fr) (σ : L2.St) (ρ : DEnv) (H : Hp) : Fr := { K := F.K, H0 := mqH F σ ρ H, Hc := fun _ => none, Hx := fun _ => none, sc := fun _ _ => False, pt := F.pt, px := fun _ => False, hx := F.hid, hid := F.hid, lk := fun _ => False }
def mS1 : Option Sl → Option Sl
  | some (.sh true d) => some (.pa true d)
  | some (.pa _ d) => some (.sh true d)
  | some (.po d) => some (.sh true d)
  | some (.ow r .pot) => some (.ow r .pot)
  | _ => none
def mS2 : Option Sl → Option Sl
  | some (.sh true d) => some (.sh false d)
  | some (.ow r .pot) => some (.ow r .pot)
  | _ => none
theorem mS1_of {s : Option Sl} {t : Sl} (h : mS1 s = some t) : (∃ d, s = some (.sh true d) ∧ t = .pa true d) ∨ (∃ r d, s = some (.pa r d) ∧ t = .sh true d) ∨ (∃ d, s = some (.po d) ∧ t = .sh true d) ∨ ∃ r, s = some (.ow r .pot) ∧ t = .ow r .pot := by
  unfold mS1 at h
  split at h
  · cases h
    exact .inl ⟨_, rfl, rfl⟩
  · cases h
    exact .inr (.inl ⟨_, _, rfl, rfl⟩)
  · cases h
    exact .inr (.inr (.inl ⟨_, rfl, rfl⟩))
  · cases h
    exact .inr (.inr (.inr ⟨_, rfl, rfl⟩))
  · cases h
theorem mS2_of {s : Option Sl} {t : Sl} (h : mS2 s = some t) : (∃ d, s = some (.sh true d) ∧ t = .sh false d) ∨ ∃ r, s = some (.ow r .pot) ∧ t = .ow r .pot := by
  unfold mS2 at h
  split at h
  · cases h
    exact .inl ⟨_, rfl, rfl⟩
  · cases h
    exact .inr ⟨_, rfl, rfl⟩
  · cases h
theorem map_of {f : Option Sl → Option Sl} {ρ : DEnv} {i : Nat} {t : Sl} (h : (ρ.map f)[i]? = some (some t)) : ∃ s, ρ[i]? = some s ∧ f s = some t := by
  rw [List.getElem?_map] at h
  cases e : ρ[i]? with
  | none =>
    rw [e] at h
    cases h
  | some s =>
    rw [e] at h
    exact ⟨s, rfl, Option.some.inj h⟩
section
variable {F : Fr} {σ σ1 σ2 : L2.St} {ρ ρ1 : DEnv} {H H1 H2 : Hp}
theorem mq_own (E : Env F σ ρ H) {a : Addr} (h : OwnA σ ρ a) : mqH F σ ρ H a = none := by
  cases e : mqH F σ ρ H a with
  | none => rfl
  | some o =>
    obtain ⟨k1, k2⟩ := cut_inv e
    rcases k2 with k2 | ⟨xs, rfl⟩
    · exact absurd (.inr (.inl h)) k2
    · obtain ⟨u, hu, nu⟩ := E.notup h
      rw [k1] at hu
      cases hu
      exact absurd rfl (nu xs)
theorem mq_old {a : Addr} {o : HO} (h : F.H0 a ≠ none) (g : H a = some o) : mqH F σ ρ H a = none ∨ ∃ xs, o = .tup xs := by
  cases e : mqH F σ ρ H a with
  | none => exact .inl rfl
  | some u =>
    obtain ⟨k1, k2⟩ := cut_inv e
    rw [g] at k1
    cases k1
    exact .inr (k2.resolve_left fun z => z (.inr (.inr ⟨rfl, h⟩)))
theorem mq_le : Same (mqH F σ ρ H) H := cut_le
theorem Env.goMq (E : Env F σ ρ H) (ok : rstB ρ = true) : Env (F.rsq σ ρ H) σ (ρ.map mS1) H := by
  have ownB : ∀ {i a}, OwnAt σ (ρ.map mS1) i a → OwnAt σ ρ i a := fun {i a} ⟨r, d, h1, h2⟩ => by
    obtain ⟨s, e1, e2⟩ := map_of h1
    rcases mS1_of e2 with ⟨_, _, z⟩ | ⟨_, _, _, z⟩ | ⟨_, _, z⟩ | ⟨_, z1, z2⟩
    · cases z
    · cases z
    · cases z
    · cases z2
      exact ⟨_, _, by rw [e1, z1], h2⟩
  have ownA : ∀ {a}, OwnA σ (ρ.map mS1) a → OwnA σ ρ a := fun {a} ⟨i, h⟩ => ⟨i, ownB h⟩
  have potS : ∀ {i : Nat} {r : Bool} {d : D}, (ρ.map mS1)[i]? = some (some (.ow r d)) → ρ[i]? = some (some (.ow r .pot)) ∧ d = .pot := fun {i r d} h => by
    obtain ⟨s, e1, e2⟩ := map_of h
    rcases mS1_of e2 with ⟨_, _, z⟩ | ⟨_, _, _, z⟩ | ⟨_, _, z⟩ | ⟨_, z1, z2⟩
    · cases z
    · cases z
    · cases z
    · cases z2
      exact ⟨by rw [e1, z1], rfl⟩
  have oldR : ∀ {r : Bool} {v : V} {d : D}, PaAt F (some r) v d → Rep F.K ((F.rsq σ ρ H).RH (OwnA σ (ρ.map mS1)) H true) v d := fun {r v d} h => by
    refine Rep.mono (fun b o hb => ?_) h
    obtain ⟨h1, h2⟩ := cut_inv hb
    by_cases ht : ∃ xs, o = .tup xs
    · obtain ⟨xs, rfl⟩ := ht
      exact cut_tup (E.tp b xs h1)
    · have h2 := h2.resolve_right ht
      have ne : ¬ F.ex b := fun z => h2 (.inl z)
      have hH : H b = some o := (E.keep b o h1 (fun z => ne (.inl z)) (fun z => ne (.inr (.inl z)))).resolve_right fun z => ne (.inr (.inr (.inl z.1)))
      refine cut_of hH fun z => ?_
      rcases z with z | z | ⟨_, z⟩
      · rcases (E.hidIn b z).2 with y | y | y
        · rw [h1] at y
          cases y
        · exact ne (.inr (.inl y))
        · exact ne (.inr (.inr (.inr y)))
      · exact E.notOwn h1 (fun z => ne (.inl z)) (fun z => ne (.inr (.inl z))) (ownA z)
      · rcases mq_old (σ := σ) (ρ := ρ) (show F.H0 b ≠ none by rw [h1]; exact fun z => by cases z) hH with y | y
        · exact z y
        · exact ht y
  refine ⟨?_, fun a o h _ _ => .inl (mq_le a o h), fun i r d h => ?_, fun i r d h => ?_, fun i j a h g => E.inj i j a (ownB h) (ownB g), fun a h => ?_, fun a h => ⟨(E.hidIn a h).1, .inr (.inr h)⟩, fun i r d h => ?_, fun i r d b h hb => ?_, fun a h => h.elim, fun a xs h => mq_le a _ h, fun a o h => (by cases h), fun a xs h => (by cases h), fun a ns h => h.elim, fun i s h => ?_⟩
  · rw [List.length_map]
    exact E.len
  · obtain ⟨s, e1, e2⟩ := map_of h
    rcases mS1_of e2 with ⟨_, _, z⟩ | ⟨r0, d0, z1, z2⟩ | ⟨d0, z1, z2⟩ | ⟨_, _, z⟩
    · cases z
    · cases z2
      obtain ⟨v, g1, g2⟩ := E.raw i _ (by rw [e1, z1])
      exact ⟨v, g1, oldR g2⟩
    · cases z2
      obtain ⟨v, g1, g2⟩ := E.raw i _ (by rw [e1, z1])
      exact ⟨v, g1, oldR (PaAt.old E g2)⟩
    · cases z
  · obtain ⟨h1, rfl⟩ := potS h
    obtain ⟨a, g1, g2, g3, g4⟩ := E.ow i _ _ h1
    exact ⟨a, g1, g2, g3, .inl (mq_own E ⟨i, _, _, h1, .inl g1⟩)⟩
  · obtain ⟨r, d, h1, h2, h3⟩ := E.pt a h
    cases rst_pot ok h1
    exact ⟨r, .pot, by rw [List.getElem?_map, h1]; rfl, rfl, h3⟩
  · obtain ⟨h1, rfl⟩ := potS h
    exact E.xo i _ _ h1
  · obtain ⟨h1, rfl⟩ := potS h
    cases hb
  · obtain ⟨s0, e1, e2⟩ := map_of h
    rcases mS1_of e2 with ⟨d, z1, rfl⟩ | ⟨_, _, _, rfl⟩ | ⟨_, _, rfl⟩ | ⟨_, _, rfl⟩
    · obtain ⟨v, g1, g2⟩ := E.sh i true d (by rw [e1, z1])
      refine ⟨v, g1, Rep.mono (fun b o hb => ?_) g2⟩
      have hm : mqH F σ ρ H b = some o := hb
      by_cases ht : ∃ xs, o = .tup xs
      · obtain ⟨xs, rfl⟩ := ht
        exact cut_tup hm
      · have nb := (cut_inv hm).2.resolve_right ht
        refine cut_of hm fun z => ?_
        rcases z with z | z
        · rcases z with y | y | y | y
          · have := mq_own E (E.ptOwn y)
            rw [hm] at this
            cases this
          · exact y
          · exact y
          · exact nb (.inl y)
        · exact z.2 rfl
    · trivial
    · trivial
    · trivial
/-- back, behind a change of things of the middle -/
theorem Env.unMq {js : List Nat} (E0 : Env F σ ρ H) (ok : rstB ρ = true) (Ef : Env (F.rsq σ ρ H) σ1 ρ1 H1) (s : Stp (OwnA σ ρ) H (OwnA σ1 ρ1) H1) (kb : ρ1.all killB = true) (k : KillR (mqH F σ ρ H) H1 H2) (hl : σ2.length = σ1.length) (hs : ∀ l, l ∉ js → σ2[l]? = σ1[l]?) (h0 : js.contains 0 = false) : Env F σ2 (wipeD (ρ1.map mS2) js) H2 := by
  have back : ∀ {l : Nat} {t : Sl}, (wipeD (ρ1.map mS2) js)[l]? = some (some t) → l ∉ js ∧ ((∃ d, ρ1[l]? = some (some (.sh true d)) ∧ t = .sh false d) ∨ ∃ r, ρ1[l]? = some (some (.ow r .pot)) ∧ t = .ow r .pot) := fun {l t} h => by
    rw [wipeD_at] at h
    split at h
    · cases h
    · rename_i n
      obtain ⟨s, e1, e2⟩ := map_of h
      refine ⟨fun z => n ⟨z, (List.getElem?_eq_some_iff.mp h).1⟩, ?_⟩
      rcases mS2_of e2 with ⟨d, z1, z2⟩ | ⟨r, z1, z2⟩
      · exact .inl ⟨d, by rw [e1, z1], z2⟩
      · exact .inr ⟨r, by rw [e1, z1], z2⟩
  have potS : ∀ {l : Nat} {r : Bool} {d : D}, (wipeD (ρ1.map mS2) js)[l]? = some (some (.ow r d)) → l ∉ js ∧ ρ1[l]? = some (some (.ow r .pot)) ∧ d = .pot := fun {l r d} h => by
    obtain ⟨h1, h2⟩ := back h
    rcases h2 with ⟨_, _, z⟩ | ⟨_, z1, z2⟩
    · cases z
    · cases z2
      exact ⟨h1, z1, rfl⟩
  have ownB : ∀ {l a}, OwnAt σ2 (wipeD (ρ1.map mS2) js) l a → OwnAt σ1 ρ1 l a := fun {l a} ⟨r, d, h1, h2⟩ => by
    obtain ⟨e1, e2, rfl⟩ := potS h1
    exact ⟨_, _, e2, by rw [← hs l e1]; exact h2⟩
  have ownA : ∀ {a}, OwnA σ2 (wipeD (ρ1.map mS2) js) a → OwnA σ1 ρ1 a := fun {a} ⟨l, h⟩ => ⟨l, ownB h⟩
  have dm : ∀ a, H2 a = none → H a = none := fun a h => s.dom a (k.dom a h)
  have ownN : ∀ {a}, OwnA σ1 ρ1 a → mqH F σ ρ H a = none := fun {a} h => by
    cases e : H a with
    | none =>
      cases e2 : mqH F σ ρ H a with
      | none => rfl
      | some u =>
        have := mq_le a u e2
        rw [e] at this
        cases this
    | some u => exact mq_own E0 (Classical.byContradiction fun z => (s.kp a u e z).2 h)
  have keepO : ∀ a o, H a = some o → F.H0 a ≠ none → ¬ OwnA σ ρ a → H2 a = some o := fun a o h h0 n => k.kp a o (s.kp a o h n).1 (mq_old h0 h)
  refine ⟨?_, fun a o h np nx => ?_, fun l r d h => ?_, fun l r d h => ?_, fun i j a h g => Ef.inj i j a (ownB h) (ownB g), fun a h => ?_, fun a h => ⟨?_, (E0.hidIn a h).2⟩, fun l r d h => ?_, fun l r d b h hb => ?_, fun a h => ?_, fun a xs h => ?_, E0.hc, E0.tc, E0.sc, fun l t h => ?_⟩
  · rw [wipeD_len, List.length_map, hl]
    exact Ef.len
  · have n := E0.notOwn h np nx
    have h0 : F.H0 a ≠ none := by
      rw [h]
      exact fun z => by cases z
    rcases E0.keep a o h np nx with z | ⟨l, od, z⟩
    · exact .inl (keepO a o z h0 n)
    · exact .inr ⟨l, od, keepO a _ z h0 n⟩
  · obtain ⟨e1, e2⟩ := back h
    rcases e2 with ⟨d0, z1, z2⟩ | ⟨_, _, z⟩
    · cases z2
      obtain ⟨v, g1, g2⟩ := Ef.sh l true _ z1
      refine ⟨v, by rw [hs l e1]; exact g1, Rep.mono (cut_mono (fun b o hb nb => ⟨k.kp b o hb (.inl ?_), fun z => ?_⟩) fun b xs hb _ => k.kp b _ hb (.inr ⟨xs, rfl⟩)) g2⟩
      · exact Classical.byContradiction fun z => nb (.inr (.inr ⟨rfl, z⟩))
      · rcases z with z | z | z
        · exact nb (.inl z)
        · exact nb (.inr (.inl (ownA z)))
        · cases z.1
    · cases z
  · obtain ⟨e1, e2, rfl⟩ := potS h
    obtain ⟨a, g1, g2, g3, _⟩ := Ef.ow l _ _ e2
    have o1 : OwnA σ1 ρ1 a := ⟨l, _, _, e2, .inl g1⟩
    obtain ⟨x, y, hx, hy, hxy⟩ := g2
    refine ⟨a, by rw [hs l e1]; exact g1, ⟨x, y, hx, hy, k.kp a _ hxy (.inl (ownN o1))⟩, g3, ?_⟩
    cases e : H a with
    | none => exact .inl (E0.new e).1
    | some u =>
      obtain ⟨i, r0, d0, q1, q2⟩ : OwnA σ ρ a := Classical.byContradiction fun z => (s.kp a u e z).2 o1
      cases rst_pot ok q1
      rcases q2 with q2 | q2
      · obtain ⟨b, p1, _, _, p4⟩ := E0.ow i _ _ q1
        rw [q2] at p1
        cases p1
        exact p4
      · cases q2
  · obtain ⟨r, d, h1, h2, h3⟩ := Ef.pt a h
    have hd : d = .pot := by
      have := List.all_eq_true.mp kb _ (List.mem_of_getElem? h1)
      cases d <;> first | rfl | (cases this; done) | (cases h2; done)
    subst hd
    have n0 : (0 : Nat) ∉ js := fun z => by
      have : js.contains 0 = true := List.contains_iff_mem.mpr z
      rw [h0] at this
      cases this
    refine ⟨r, .pot, ?_, rfl, by rw [hs 0 n0]; exact h3⟩
    rw [wipeD_at, if_neg fun z => n0 z.1, List.getElem?_map, h1]
    rfl
  · obtain ⟨o, ho⟩ := (Ef.hidIn a h).1
    cases e : H2 a with
    | none =>
      rw [k.dom a e] at ho
      cases ho
    | some u => exact ⟨u, rfl⟩
  · obtain ⟨_, _, rfl⟩ := potS h
    trivial
  · obtain ⟨_, _, rfl⟩ := potS h
    cases hb
  · obtain ⟨o, ho⟩ := E0.pxIn a h
    cases e : H2 a with
    | none =>
      rw [dm a e] at ho
      cases ho
    | some u => exact ⟨u, rfl⟩
  · have h1 := E0.tp a xs h
    refine k.kp a _ (s.kp a _ h1 fun z => ?_).1 (.inr ⟨xs, rfl⟩)
    obtain ⟨u, hu, nu⟩ := E0.notup z
    rw [h1] at hu
    cases hu
    exact nu xs rfl
  · obtain ⟨_, e2⟩ := back h
    rcases e2 with ⟨_, _, rfl⟩ | ⟨_, _, rfl⟩ <;> trivial
end
/-! a block begun anew within one, at whose end told things are changed -/
class DMq (K : PySem.W.Frag) (W : WXT) (t : TS) (w : outParam DSW) : Prop where
  ok : ∀ {F : Fr} {σ σ1 : L2.St} {H H1 : Hp} {ρ ρ1 : DEnv} {X : XC} {E : DEnds} {Dn : Ends}, F.K = K → Env F σ ρ H → rstB ρ = true → XLinkK F W X H → Env (F.rsq σ ρ H) σ1 ρ1 H1 → Stp (OwnA σ ρ) H (OwnA σ1 ρ1) H1 → w X E ρ1 →
    (∀ ρ' σ' H', E.nx ρ' → Env F σ' ρ' H' → Dm H H' → Dn.nx σ' H') →
    (∀ ρ' σ' H', E.bk ρ' → Env F σ' ρ' H' → Dm H H' → Dn.bk σ' H') →
    (∀ ρ' σ' H', E.ct ρ' → Env F σ' ρ' H' → Dm H H' → Dn.ct σ' H') →
    (∀ d ρ' σ' v H', E.rt d ρ' → Env F σ' ρ' H' → Dm H H' → Rep F.K (F.RH (OwnA σ' ρ') H' true) v d → Dn.rt v H') → t Dn σ1 H1
def mqE (E : DEnds) (k : DEnv → Prop) : DEnds := { nx := k, rt := fun d ρ => ρ.all killB = true ∧ d.imm = true ∧ E.rt d (ρ.map mS2), bk := fun ρ => ρ.all killB = true ∧ E.bk (ρ.map mS2), ct := fun ρ => ρ.all killB = true ∧ E.ct (ρ.map mS2) }
def dMqSeq (w y : DSW) : DSW := fun X E ρ => w noX (mqE E fun ρ2 => y X E ρ2) ρ
section
variable {K : PySem.W.Frag} {W : WXT}
instance (priority := low) {s u : TS} {w y : DSW} [A : DS K W s w] [B : DMq K W u y] : DMq K W (tSeq s u) (dMqSeq w y) where
  ok := fun {F σ σ1 H H1 ρ ρ1 X E Dn} hK E0 ok L E1 s1 h nx bk ct rt => by
    have back : ∀ {σ' ρ' H'}, Env (F.rsq σ ρ H) σ' ρ' H' → Stp (OwnA σ1 ρ1) H1 (OwnA σ' ρ') H' → ρ'.all killB = true → Env F σ' (ρ'.map mS2) H' ∧ Dm H H' := fun {σ' ρ' H'} E' st kb => by
      have := E0.unMq (js := []) ok E' (s1.trans st) kb (KillR.refl _ _) rfl (fun _ _ => rfl) rfl
      exact ⟨this, fun a z => s1.dom a (st.dom a z)⟩
    refine A.ok (F := F.rsq σ ρ H) hK E1 XLink.no h (fun ρ' σ' H' z E' st => B.ok hK E0 ok L E' (s1.trans st) z nx bk ct rt) (fun ρ' σ' H' z E' st => ?_) (fun ρ' σ' H' z E' st => ?_) fun d ρ' σ' v H' z E' st r => ?_
    · obtain ⟨g1, g2⟩ := back E' st z.1
      exact bk _ σ' H' z.2 g1 g2
    · obtain ⟨g1, g2⟩ := back E' st z.1
      exact ct _ σ' H' z.2 g1 g2
    · obtain ⟨g1, g2⟩ := back E' st z.1
      exact rt d _ σ' v H' z.2.2 g1 g2 ((Rep.immTop (r.top rh_le) rh_le z.2.1 fun _ _ q => q).imm z.2.1)
instance {is : List Nat} {t : TS} {w : DSW} [A : DMq K W t w] : DMq K W (tFg is t) (dFg is w) where
  ok := fun {F σ σ1 H H1 ρ ρ1 X E Dn} hK E0 ok L E1 s1 h nx bk ct rt => A.ok hK E0 ok L (E1.fgtN h.1).1 (s1.trans (E1.fgtN h.1).2) h.2 nx bk ct rt
/-! own slots frozen, each by itself -/
def frzS : Option Sl → Option Sl
  | some (.ow r d) => match d.isPot with
    | true => some (.ow r d)
    | false => some (.sh r d)
  | s => s
theorem frzS_t {r : Bool} {d : D} (h : d.isPot = true) : frzS (some (.ow r d)) = some (.ow r d) := by
  show (match d.isPot with | true => some (Sl.ow r d) | false => some (Sl.sh r d)) = _
  rw [h]
theorem frzS_f {r : Bool} {d : D} (h : d.isPot = false) : frzS (some (.ow r d)) = some (.sh r d) := by
  show (match d.isPot with | true => some (Sl.ow r d) | false => some (Sl.sh r d)) = _
  rw [h]
theorem frz1_at (ρ : DEnv) (i j : Nat) : (frz1 ρ i)[j]? = if j = i then ρ[j]?.map frzS else ρ[j]? := by
  unfold frz1
  split
  · rename_i r d e
    split
    · rename_i hp
      by_cases q : j = i
      · subst q
        rw [if_pos rfl, e]
        show some (some (Sl.ow r d)) = some (frzS (some (.ow r d)))
        rw [frzS_t hp]
      · rw [if_neg q]
    · rename_i hp
      by_cases q : j = i
      · subst q
        rw [if_pos rfl, e, List.getElem?_set_self (List.getElem?_eq_some_iff.mp e).1]
        show some (some (Sl.sh r d)) = some (frzS (some (.ow r d)))
        rw [frzS_f hp]
      · rw [if_neg q, List.getElem?_set_ne (Ne.symm q)]
  · rename_i n
    by_cases q : j = i
    · subst q
      rw [if_pos rfl]
      cases e : ρ[j]? with
      | none => rfl
      | some s =>
        show some s = some (frzS s)
        unfold frzS
        split
        · rename_i r d
          exact absurd e (n r d)
        · rfl
    · rw [if_neg q]
theorem frzN_at (ρ : DEnv) : ∀ (n j : Nat), (frzN ρ n)[j]? = if j < n then ρ[j]?.map frzS else ρ[j]?
  | 0, j => by rw [if_neg (Nat.not_lt_zero j)]; rfl
  | n + 1, j => by
    rw [frzN, frz1_at, frzN_at ρ n j]
    by_cases q : j = n
    · subst q
      rw [if_pos rfl, if_neg (Nat.lt_irrefl j), if_pos (Nat.lt_succ_self j)]
    · rw [if_neg q]
      by_cases q2 : j < n
      · rw [if_pos q2, if_pos (by omega)]
      · rw [if_neg q2, if_neg (by omega)]
theorem frzN_map (ρ : DEnv) : frzN ρ ρ.length = ρ.map frzS := List.ext_getElem? fun j => by
  rw [frzN_at, List.getElem?_map]
  by_cases q : j < ρ.length
  · rw [if_pos q]
  · rw [if_neg q, List.getElem?_eq_none (by omega)]
    rfl
theorem rst_of2 {w : DSW} {X : XC} {E : DEnds} {ρ : DEnv} (ρ1 ρ2 ρ3 : DEnv) (e : ρ = ρ1) (h0 : ρ1.map frzS = ρ3) (h1 : rstB ρ3 = true) (h2 : ρ3.map paS = ρ2) (h : w (fun x ρ' => X x (ρ'.map unS)) (rstE E) ρ2) : rstC w X E ρ := by
  subst h0
  rw [← frzN_map] at h1 h2
  exact rst_of ρ1 ρ2 e h1 h2 h
def tMq (t : TS) : TS := t
theorem pss_mq {X : Cx} {b : List Stmt} {t : TS} (h : PSs X b t) : PSs X b (tMq t) := h
@[irreducible] def mqS (w : DSW) : DSW := fun X E ρ => rstB (frzN ρ ρ.length) = true ∧ w X E ((frzN ρ ρ.length).map mS1)
theorem mqS_of {w : DSW} {X : XC} {E : DEnds} {ρ : DEnv} (ρ1 ρ2 : DEnv) (e : ρ = ρ1) (h1 : rstB (frzN ρ1 ρ1.length) = true) (h2 : (frzN ρ1 ρ1.length).map mS1 = ρ2) (h : w X E ρ2) : mqS w X E ρ := by
  unfold mqS
  subst e
  subst h2
  exact ⟨h1, h⟩
theorem mqS_of2 {w : DSW} {X : XC} {E : DEnds} {ρ : DEnv} (ρ1 ρ2 ρ3 : DEnv) (e : ρ = ρ1) (h0 : ρ1.map frzS = ρ3) (h1 : rstB ρ3 = true) (h2 : ρ3.map mS1 = ρ2) (h : w X E ρ2) : mqS w X E ρ := by
  subst h0
  rw [← frzN_map] at h1 h2
  exact mqS_of ρ1 ρ2 e h1 h2 h
theorem mS1_ownB {σ : L2.St} {ρ : DEnv} (ok : rstB ρ = true) (a : Addr) : OwnA σ (ρ.map mS1) a → OwnA σ ρ a := fun ⟨i, r, d, h1, h2⟩ => by
  obtain ⟨s, e1, e2⟩ := map_of h1
  rcases mS1_of e2 with ⟨_, _, z⟩ | ⟨_, _, _, z⟩ | ⟨_, _, z⟩ | ⟨_, z1, z2⟩
  · cases z
  · cases z
  · cases z
  · cases z2
    exact ⟨i, _, _, by rw [e1, z1], h2⟩
instance {t : TS} {w : DSW} [A : DMq K W t w] : DSk K W (tMq t) (mqS w) where
  ok := fun {F σ H ρ X E Dn} hK En L h nx bk ct rt => by
    unfold mqS at h
    obtain ⟨hok, h⟩ := h
    obtain ⟨E0, s0⟩ := En.frzN ρ.length
    exact A.ok hK E0 hok L (E0.goMq hok) ⟨fun a o z n => ⟨z, fun q => n (mS1_ownB hok a q)⟩, fun _ z => z⟩ h nx bk ct rt
/-! the change itself -/
@[irreducible] def mqC (i : Nat) (js : List Nat) (okd : D → Prop) (wr : DSW) : DSW := fun X E ρ => match (frzN ρ ρ.length)[i]? with
  | some (some (.pa true d)) => okd d ∧ (frzN ρ ρ.length).all killB = true ∧ (js.contains 0 = false ∧ ∀ j ∈ js, j < ρ.length) ∧ wr X E (wipeD ((frzN ρ ρ.length).map mS2) js)
  | _ => False
theorem mqC_of {i : Nat} {js : List Nat} {okd : D → Prop} {wr : DSW} {X : XC} {E : DEnds} {ρ : DEnv} {d : D} (ρ1 ρ2 ρ3 : DEnv) (e : ρ = ρ1) (h2 : frzN ρ1 ρ1.length = ρ2) (hi : ρ2[i]? = some (some (.pa true d))) (hok : okd d) (hb : ρ2.all killB = true) (hj : js.contains 0 = false ∧ ∀ j ∈ js, j < ρ1.length) (h3 : wipeD (ρ2.map mS2) js = ρ3) (h : wr X E ρ3) : mqC i js okd wr X E ρ := by
  unfold mqC
  subst e
  subst h2
  subst h3
  rw [hi]
  exact ⟨hok, hb, hj, h⟩
theorem mqC_of2 {i : Nat} {js : List Nat} {okd : D → Prop} {wr : DSW} {X : XC} {E : DEnds} {ρ : DEnv} {d : D} (ρ1 ρ2 ρ3 : DEnv) (e : ρ = ρ1) (h2 : ρ1.map frzS = ρ2) (hi : ρ2[i]? = some (some (.pa true d))) (hok : okd d) (hb : ρ2.all killB = true) (hj : js.contains 0 = false ∧ ∀ j ∈ js, j < ρ1.length) (h3 : wipeD (ρ2.map mS2) js = ρ3) (h : wr X E ρ3) : mqC i js okd wr X E ρ :=
  mqC_of ρ1 ρ2 ρ3 e (by rw [frzN_map]; exact h2) hi hok hb hj h3 h
def tMqk (t : TS) : TS := t
theorem pss_mqk {X : Cx} {b : List Stmt} {t : TS} (h : PSs X b t) : PSs X b (tMqk t) := h
def tMqk2 (t : TS) : TS := t
theorem pss_mqk2 {X : Cx} {b : List Stmt} {t : TS} (h : PSs X b t) : PSs X b (tMqk2 t) := h
instance mqSeq {i : Nat} {js : List Nat} {okd : D → Prop} {t tr : TS} {wr : DSW} [A : DMKill K t i js okd] [R : DSk K W tr wr] : DMq K W (tMqk (tSeq t tr)) (mqC i js okd wr) where
  ok := fun {F σ σ1 H H1 ρ ρ1 X E Dn} hK E0 ok L E1 s1 h nx bk ct rt => by
    subst hK
    unfold mqC at h
    obtain ⟨Ef, sf⟩ := E1.frzN ρ1.length
    have lf := frzN_len ρ1 ρ1.length
    generalize frzN ρ1 ρ1.length = ρf at *
    split at h
    · rename_i d hi
      obtain ⟨hok, hb, ⟨hj, hjr⟩, hr⟩ := h
      obtain ⟨v, hv, rp⟩ := Ef.raw i _ hi
      have le : Same (mqH F σ ρ H) H1 := fun a o z => by
        have z1 := mq_le a o z
        exact (s1.kp a o z1 fun y => by rw [mq_own E0 y] at z; cases z).1
      have rp : Rep F.K (mqH F σ ρ H) v d := Rep.mono cut_le rp
      refine A.run hv (fun j hj2 => by rw [Ef.len, lf]; exact hjr j hj2) rp le hok fun σ2 H2 k hl hs => ?_
      have hkE := E0.unMq ok Ef (s1.trans sf) hb k hl hs hj
      have dm : Dm H H2 := fun b hb' => s1.dom b (k.dom b hb')
      exact R.ok rfl hkE (L.dm dm) hr (fun ρ' σ' H' z E' d => nx ρ' σ' H' z E' (fun a b => dm a (d a b))) (fun ρ' σ' H' z E' d => bk ρ' σ' H' z E' (fun a b => dm a (d a b))) (fun ρ' σ' H' z E' d => ct ρ' σ' H' z E' (fun a b => dm a (d a b))) fun e ρ' σ' v H' z E' d r => rt e ρ' σ' v H' z E' (fun a b => dm a (d a b)) r
    · exact h.elim
instance {i : Nat} {js : List Nat} {okd : D → Prop} {s u tr : TS} {wr : DSW} [A : DMKill K (tSeq s u) i js okd] [R : DSk K W tr wr] : DMq K W (tMqk2 (tSeq s (tSeq u tr))) (mqC i js okd wr) :=
  mqSeq (t := tSeq s u)
end
end PW

local macro_rules | `(tactic| walk_at "w") => `(tactic| conv => whnf)
local macro_rules | `(tactic| walk_at "om") => `(tactic| ((try simp only [List.length_map, List.length_cons, List.length_nil, List.length_append, List.length_reverse, List.length_replicate, List.length_drop, List.length_take, List.length_range, PW.signs_len, PW.rangeD_len] at *); omega))
local macro_rules | `(tactic| walk_at "sd") => `(tactic| first
  | (with_reducible refine PW.r62a ?_; walk_at "om")
  | (with_reducible refine PW.r62b ?_; walk_at "om")
  | (with_reducible refine PW.r63a ?_; walk_at "om")
  | (with_reducible refine PW.r63b ?_; walk_at "om")
  | (with_reducible refine PW.small ?_; first | with_reducible assumption | decide | walk_at "om")
  | (with_reducible refine PW.smallL ?_; first | with_reducible assumption | decide | walk_at "om")
  | rfl
  | with_reducible assumption
  | exact And.intro rfl rfl
  | exact Nat.le_of_ble_eq_true rfl
  | exact True.intro
  | exact PW.immL_str _ | exact PW.immL_int _ | exact PW.immL_tie _ | exact PW.immL_bl _
  | (with_reducible refine PW.small ?_; first | with_reducible assumption | decide | walk_at "om")
  | (with_reducible refine PW.smallL ?_; first | with_reducible assumption | decide | walk_at "om")
  | decide
  | walk_at "om"
  | assumption)
local macro_rules | `(tactic| walk_at "sb") => `(tactic| first
  | rfl
  | (refine decide_eq_true ?_; walk_at "om")
  | (refine decide_eq_false ?_; walk_at "om")
  | (refine PW.nd_f ?_; walk_at "om")
  | (refine PW.nd_t ?_; walk_at "om")
  | decide)
local macro_rules | `(tactic| walk_at "g1") => `(tactic| first
  | ((refine And.intro ?sdgoal ?_); (case sdgoal => walk_at "sd"))
  | ((refine PW.ifC_then ?sdgoal ?_); (case sdgoal => walk_at "sb"))
  | ((refine PW.ifC_else ?sdgoal ?_); (case sdgoal => walk_at "sb"))
  | ((refine' PW.ex_some ?sdgoal ?_); (case sdgoal => first | exact PW.boolsD_map _ | exact PW.boolsD_fn _ _ | exact PW.intsD_map _ | exact PW.strsOf_map _ | rfl)))
local macro_rules | `(tactic| walk_at "d") => `(tactic| (conv => whnf); (repeat (walk_at "g1"; (conv => whnf))))
local macro_rules | `(tactic| walk_at "sb2") => `(tactic| first
  | rfl
  | exact decide_eq_true rfl
  | exact PW.nd_f rfl
  | exact decide_eq_true (by with_reducible assumption)
  | exact decide_eq_false (by with_reducible assumption)
  | exact PW.nd_f (by with_reducible assumption)
  | exact PW.nd_t (by with_reducible assumption)
  | (refine decide_eq_true ?_; omega)
  | (refine decide_eq_false ?_; omega)
  | (refine PW.nd_f ?_; omega)
  | (refine PW.nd_t ?_; omega))
local macro_rules | `(tactic| walk_at "g2") => `(tactic| first
  | ((refine And.intro ?sdgoal ?_); (case sdgoal => walk_at "sd"))
  | ((refine PW.ifC_then ?sdgoal ?_); (case sdgoal => walk_at "sb2"))
  | ((refine PW.ifC_else ?sdgoal ?_); (case sdgoal => walk_at "sb2"))
  | ((refine' PW.ex_some ?sdgoal ?_); (case sdgoal => first | exact PW.boolsD_map _ | exact PW.boolsD_fn _ _ | exact PW.intsD_map _ | exact PW.strsOf_map _ | rfl))
  | refine PW.eqC_int ?_
  | refine PW.eqC_str ?_
  | refine PW.eqC_bl ?_
  | refine PW.inC_strs ?_
  | refine PW.inC_strsT ?_
  | refine PW.inC_ints ?_
  | refine PW.inC_intsT ?_
  | refine PW.inC_tie ?_
  | refine PW.ifC_nkey ?_
  | refine PW.ifC_key ?_
  | rw [PW.atI_map_hd]
  | refine PW.callC_of (PW.call_points ?_)
  | refine PW.callC_of (PW.call_ties ?_)
  | refine PW.callC_of (PW.call_many ?_))
local macro_rules | `(tactic| walk_at "a") => `(tactic| (conv => whnf); (repeat (walk_at "g2"; (conv => whnf))))
local macro_rules | `(tactic| walk_at "auto") => `(tactic| walk_at "a"; (repeat' ((first | refine PW.ifC_d (fun _ => ?_) (fun _ => ?_) | refine PW.ifC_nd (fun _ => ?_) (fun _ => ?_) | refine PW.ifC_of (fun _ => ?_) (fun _ => ?_)) <;> walk_at "a")))

set_option Elab.async false
set_option linter.all false
set_option maxRecDepth 100000
set_option maxHeartbeats 4000000
namespace PW
open PySem PySem.Spec PyProof.Rows L2
def top (i : Nat) : Stmt := PySem.Challenge.pw_pointways_k11_webs_told.main.body.getD i (.Pass ⟨0, 0, 0, 0⟩)
abbrev s_is_row : Stmt := top 8
theorem sc_is_row : FnScope ["thing"] ["thing"] (defScope s_is_row) :=
  ⟨rfl, rfl, rfl, by decide +kernel, rfl, by decide +kernel, by decide +kernel⟩
def d_is_row : He.DefD := ⟨("is_row", none), "is_row", "is_row", defArgs s_is_row, defBody s_is_row, defScope s_is_row, [], []⟩
abbrev s_is_name : Stmt := top 9
theorem sc_is_name : FnScope ["thing", "sign"] ["thing"] (defScope s_is_name) :=
  ⟨rfl, rfl, rfl, by decide +kernel, rfl, by decide +kernel, by decide +kernel⟩
def d_is_name : He.DefD := ⟨("is_name", none), "is_name", "is_name", defArgs s_is_name, defBody s_is_name, defScope s_is_name, [], []⟩
abbrev s_are_names : Stmt := top 10
theorem sc_are_names : FnScope ["thing", "one"] ["thing"] (defScope s_are_names) :=
  ⟨rfl, rfl, rfl, by decide +kernel, rfl, by decide +kernel, by decide +kernel⟩
def d_are_names : He.DefD := ⟨("are_names", none), "are_names", "are_names", defArgs s_are_names, defBody s_are_names, defScope s_are_names, [], []⟩
abbrev s_is_pair : Stmt := top 11
theorem sc_is_pair : FnScope ["points", "thing", "one"] ["points", "thing"] (defScope s_is_pair) :=
  ⟨rfl, rfl, rfl, by decide +kernel, rfl, by decide +kernel, by decide +kernel⟩
def d_is_pair : He.DefD := ⟨("is_pair", none), "is_pair", "is_pair", defArgs s_is_pair, defBody s_is_pair, defScope s_is_pair, [], []⟩
abbrev s_Web_init : Stmt := inClass (top 12) 0
theorem sc_Web_init : FnScope ["self", "points", "ties", "tie"] ["self", "points", "ties"] (defScope s_Web_init) :=
  ⟨rfl, rfl, rfl, by decide +kernel, rfl, by decide +kernel, by decide +kernel⟩
def d_Web_init : He.DefD := ⟨("Web", some "__init__"), "__init__", "Web.__init__", defArgs s_Web_init, defBody s_Web_init, defScope s_Web_init, [], []⟩
abbrev s_Web_points : Stmt := inClass (top 12) 1
theorem sc_Web_points : FnScope ["self"] ["self"] (defScope s_Web_points) :=
  ⟨rfl, rfl, rfl, by decide +kernel, rfl, by decide +kernel, by decide +kernel⟩
def d_Web_points : He.DefD := ⟨("Web", some "points"), "points", "Web.points", defArgs s_Web_points, defBody s_Web_points, defScope s_Web_points, [], []⟩
abbrev s_Web_ties : Stmt := inClass (top 12) 2
theorem sc_Web_ties : FnScope ["self"] ["self"] (defScope s_Web_ties) :=
  ⟨rfl, rfl, rfl, by decide +kernel, rfl, by decide +kernel, by decide +kernel⟩
def d_Web_ties : He.DefD := ⟨("Web", some "ties"), "ties", "Web.ties", defArgs s_Web_ties, defBody s_Web_ties, defScope s_Web_ties, [], []⟩
abbrev s_Web_many : Stmt := inClass (top 12) 3
theorem sc_Web_many : FnScope ["self"] ["self"] (defScope s_Web_many) :=
  ⟨rfl, rfl, rfl, by decide +kernel, rfl, by decide +kernel, by decide +kernel⟩
def d_Web_many : He.DefD := ⟨("Web", some "many"), "many", "Web.many", defArgs s_Web_many, defBody s_Web_many, defScope s_Web_many, [], []⟩
abbrev s_law_pot : Stmt := top 14
theorem sc_law_pot : FnScope ["_law_script", "_law_k", "_law_cell"] ["_law_script", "_law_k"] (defScope s_law_pot) :=
  ⟨rfl, rfl, rfl, by decide +kernel, rfl, by decide +kernel, by decide +kernel⟩
def d_law_pot : He.DefD := ⟨("_law_pot", none), "_law_pot", "_law_pot", defArgs s_law_pot, defBody s_law_pot, defScope s_law_pot, [], []⟩
abbrev s_law_take : Stmt := top 15
theorem sc_law_take : FnScope ["_law_pot_here", "_law_many", "_law_digit"] ["_law_pot_here", "_law_many"] (defScope s_law_take) :=
  ⟨rfl, rfl, rfl, by decide +kernel, rfl, by decide +kernel, by decide +kernel⟩
def d_law_take : He.DefD := ⟨("_law_take", none), "_law_take", "_law_take", defArgs s_law_take, defBody s_law_take, defScope s_law_take, [], []⟩
abbrev s_law_names : Stmt := top 16
theorem sc_law_names : FnScope ["_law_pot_here", "_law_many", "_law_letters", "_law_begin", "_law_p", "_law_q", "_law_some", "_law_found", "_law_k", "_law_word", "_law_j"] ["_law_pot_here", "_law_many"] (defScope s_law_names) :=
  ⟨rfl, rfl, rfl, by decide +kernel, rfl, by decide +kernel, by decide +kernel⟩
def d_law_names : He.DefD := ⟨("_law_names", none), "_law_names", "_law_names", defArgs s_law_names, defBody s_law_names, defScope s_law_names, [], []⟩
abbrev s_law_mixed : Stmt := top 17
theorem sc_law_mixed : FnScope ["_law_pot_here", "_law_things", "_law_found", "_law_thing"] ["_law_pot_here", "_law_things"] (defScope s_law_mixed) :=
  ⟨rfl, rfl, rfl, by decide +kernel, rfl, by decide +kernel, by decide +kernel⟩
def d_law_mixed : He.DefD := ⟨("_law_mixed", none), "_law_mixed", "_law_mixed", defArgs s_law_mixed, defBody s_law_mixed, defScope s_law_mixed, [], []⟩
abbrev s_law_tie : Stmt := top 18
theorem sc_law_tie : FnScope ["_law_pot_here", "_law_names_here", "_law_a", "_law_b"] ["_law_pot_here", "_law_names_here"] (defScope s_law_tie) :=
  ⟨rfl, rfl, rfl, by decide +kernel, rfl, by decide +kernel, by decide +kernel⟩
def d_law_tie : He.DefD := ⟨("_law_tie", none), "_law_tie", "_law_tie", defArgs s_law_tie, defBody s_law_tie, defScope s_law_tie, [], []⟩
abbrev s_law_web : Stmt := top 19
theorem sc_law_web : FnScope ["_law_pot_here", "_law_points", "_law_most", "_law_names_here", "_law_kind", "_law_ties", "_law_row", "_law_k", "_law_turns", "_law_tie_here", "_law_turn", "_law_a", "_law_b"] ["_law_pot_here", "_law_points", "_law_most"] (defScope s_law_web) :=
  ⟨rfl, rfl, rfl, by decide +kernel, rfl, by decide +kernel, by decide +kernel⟩
def d_law_web : He.DefD := ⟨("_law_web", none), "_law_web", "_law_web", defArgs s_law_web, defBody s_law_web, defScope s_law_web, [], []⟩
abbrev s_law_handed : Stmt := top 20
theorem sc_law_handed : FnScope ["_law_pot_here", "_law_web_here", "_law_names_here", "_law_ties", "_law_tie_here"] ["_law_pot_here", "_law_web_here"] (defScope s_law_handed) :=
  ⟨rfl, rfl, rfl, by decide +kernel, rfl, by decide +kernel, by decide +kernel⟩
def d_law_handed : He.DefD := ⟨("_law_handed", none), "_law_handed", "_law_handed", defArgs s_law_handed, defBody s_law_handed, defScope s_law_handed, [], []⟩
abbrev s_law_spoil : Stmt := top 21
theorem sc_law_spoil : FnScope ["_law_handed_here", "_law_thing", "_law_one"] ["_law_handed_here"] (defScope s_law_spoil) :=
  ⟨rfl, rfl, rfl, by decide +kernel, rfl, by decide +kernel, by decide +kernel⟩
def d_law_spoil : He.DefD := ⟨("_law_spoil", none), "_law_spoil", "_law_spoil", defArgs s_law_spoil, defBody s_law_spoil, defScope s_law_spoil, [], []⟩
abbrev s_law_tells : Stmt := top 22
theorem sc_law_tells : FnScope ["_law_web_here", "_law_names_here", "_law_ties", "_law_told", "_law_tie_here"] ["_law_web_here", "_law_names_here", "_law_ties"] (defScope s_law_tells) :=
  ⟨rfl, rfl, rfl, by decide +kernel, rfl, by decide +kernel, by decide +kernel⟩
def d_law_tells : He.DefD := ⟨("_law_tells", none), "_law_tells", "_law_tells", defArgs s_law_tells, defBody s_law_tells, defScope s_law_tells, [], []⟩
abbrev s_law : Stmt := top 23
theorem sc_law : FnScope ["_law_script", "_law_elder", "_law_k", "_law_pot_here", "_law_names_here", "_law_ties", "_law_handed_here", "_law_web_here"] ["_law_script"] (defScope s_law) :=
  ⟨rfl, rfl, rfl, by decide +kernel, rfl, by decide +kernel, by decide +kernel⟩
def d_law : He.DefD := ⟨("law", none), "law", "law", defArgs s_law, defBody s_law, defScope s_law, [], []⟩
def fn : List He.DefD := [d_is_row, d_is_name, d_are_names, d_is_pair, d_Web_init, d_Web_points, d_Web_ties, d_Web_many, d_law_pot, d_law_take, d_law_names, d_law_mixed, d_law_tie, d_law_web, d_law_handed, d_law_spoil, d_law_tells, d_law]
def fa : List He.Fa := [.glo "is_row", .glo "is_name", .glo "are_names", .glo "is_pair", .glo "_law_pot", .glo "_law_take", .glo "_law_names", .glo "_law_mixed", .glo "_law_tie", .glo "_law_web", .glo "_law_handed", .glo "_law_spoil", .glo "_law_tells", .glo "law", .free "abs", .free "all", .free "divmod", .free "int", .free "isinstance", .free "len", .free "list", .free "max", .free "min", .free "range", .free "set", .free "str", .free "tuple", .free "zip", .str "SMALL" "abcdefghijklmnopqrstuvwxyz", .int "MOST_LETTERS" 4, .int "MOST_POINTS" 9, .int "MOST_TIES" 20, .glo "Web", .cls "Web", .mkr "Web", .noat "Web" "own_points", .noat "Web" "own_ties", .meth "Web" "__init__", .meth "Web" "points", .meth "Web" "ties", .meth "Web" "many", .glo "NoWeb", .exc "NoWeb"]
def xf : List Xf := []
abbrev Top (K : PySem.W.Frag) (mg : Str → Option Value) : Prop := TopE fa fn xf K mg
section
variable {K : PySem.W.Frag} {mg : Str → Option Value} (T : Top K mg)
include T
theorem g_is_row : mg "is_row" = some (.ref (He.ga K "is_row")) := T.glo _ (T.says.fact 0 (f := .glo "is_row") rfl)
theorem g_is_name : mg "is_name" = some (.ref (He.ga K "is_name")) := T.glo _ (T.says.fact 1 (f := .glo "is_name") rfl)
theorem g_are_names : mg "are_names" = some (.ref (He.ga K "are_names")) := T.glo _ (T.says.fact 2 (f := .glo "are_names") rfl)
theorem g_is_pair : mg "is_pair" = some (.ref (He.ga K "is_pair")) := T.glo _ (T.says.fact 3 (f := .glo "is_pair") rfl)
theorem g_law_pot : mg "_law_pot" = some (.ref (He.ga K "_law_pot")) := T.glo _ (T.says.fact 4 (f := .glo "_law_pot") rfl)
theorem g_law_take : mg "_law_take" = some (.ref (He.ga K "_law_take")) := T.glo _ (T.says.fact 5 (f := .glo "_law_take") rfl)
theorem g_law_names : mg "_law_names" = some (.ref (He.ga K "_law_names")) := T.glo _ (T.says.fact 6 (f := .glo "_law_names") rfl)
theorem g_law_mixed : mg "_law_mixed" = some (.ref (He.ga K "_law_mixed")) := T.glo _ (T.says.fact 7 (f := .glo "_law_mixed") rfl)
theorem g_law_tie : mg "_law_tie" = some (.ref (He.ga K "_law_tie")) := T.glo _ (T.says.fact 8 (f := .glo "_law_tie") rfl)
theorem g_law_web : mg "_law_web" = some (.ref (He.ga K "_law_web")) := T.glo _ (T.says.fact 9 (f := .glo "_law_web") rfl)
theorem g_law_handed : mg "_law_handed" = some (.ref (He.ga K "_law_handed")) := T.glo _ (T.says.fact 10 (f := .glo "_law_handed") rfl)
theorem g_law_spoil : mg "_law_spoil" = some (.ref (He.ga K "_law_spoil")) := T.glo _ (T.says.fact 11 (f := .glo "_law_spoil") rfl)
theorem g_law_tells : mg "_law_tells" = some (.ref (He.ga K "_law_tells")) := T.glo _ (T.says.fact 12 (f := .glo "_law_tells") rfl)
theorem g_law : mg "law" = some (.ref (He.ga K "law")) := T.glo _ (T.says.fact 13 (f := .glo "law") rfl)
theorem f_abs : mg "abs" = none := T.free _ (T.says.fact 14 (f := .free "abs") rfl)
theorem f_all : mg "all" = none := T.free _ (T.says.fact 15 (f := .free "all") rfl)
theorem f_divmod : mg "divmod" = none := T.free _ (T.says.fact 16 (f := .free "divmod") rfl)
theorem f_int : mg "int" = none := T.free _ (T.says.fact 17 (f := .free "int") rfl)
theorem f_isinstance : mg "isinstance" = none := T.free _ (T.says.fact 18 (f := .free "isinstance") rfl)
theorem f_len : mg "len" = none := T.free _ (T.says.fact 19 (f := .free "len") rfl)
theorem f_list : mg "list" = none := T.free _ (T.says.fact 20 (f := .free "list") rfl)
theorem f_max : mg "max" = none := T.free _ (T.says.fact 21 (f := .free "max") rfl)
theorem f_min : mg "min" = none := T.free _ (T.says.fact 22 (f := .free "min") rfl)
theorem f_range : mg "range" = none := T.free _ (T.says.fact 23 (f := .free "range") rfl)
theorem f_set : mg "set" = none := T.free _ (T.says.fact 24 (f := .free "set") rfl)
theorem f_str : mg "str" = none := T.free _ (T.says.fact 25 (f := .free "str") rfl)
theorem f_tuple : mg "tuple" = none := T.free _ (T.says.fact 26 (f := .free "tuple") rfl)
theorem f_zip : mg "zip" = none := T.free _ (T.says.fact 27 (f := .free "zip") rfl)
theorem c_SMALL : ∃ u, mg "SMALL" = some u ∧ RelV (.str "abcdefghijklmnopqrstuvwxyz") u := by
  obtain ⟨t, e⟩ := T.str _ _ (T.says.fact 28 (f := .str "SMALL" "abcdefghijklmnopqrstuvwxyz") rfl)
  exact ⟨_, e, t, rfl⟩
theorem c_MOST_LETTERS : ∃ u, mg "MOST_LETTERS" = some u ∧ RelV (.int 4) u := by
  obtain ⟨t, e⟩ := T.int _ _ (T.says.fact 29 (f := .int "MOST_LETTERS" 4) rfl)
  exact ⟨_, e, t, rfl⟩
theorem c_MOST_POINTS : ∃ u, mg "MOST_POINTS" = some u ∧ RelV (.int 9) u := by
  obtain ⟨t, e⟩ := T.int _ _ (T.says.fact 30 (f := .int "MOST_POINTS" 9) rfl)
  exact ⟨_, e, t, rfl⟩
theorem c_MOST_TIES : ∃ u, mg "MOST_TIES" = some u ∧ RelV (.int 20) u := by
  obtain ⟨t, e⟩ := T.int _ _ (T.says.fact 31 (f := .int "MOST_TIES" 20) rfl)
  exact ⟨_, e, t, rfl⟩
theorem g_Web : mg "Web" = some (.ref (He.ga K "Web")) := T.glo _ (T.says.fact 32 (f := .glo "Web") rfl)
theorem cl_Web : Cls K (He.ga K "Web") := He.cls_ok (T.says.fact 33 (f := .cls "Web") rfl)
theorem mk_Web : Mk K (He.ga K "Web") (He.fAd K ("Web", some "__init__")) := He.mkr_ok (T.says.fact 34 (f := .mkr "Web") rfl)
theorem na_Web_own_points : NoAttr K (He.ga K "Web") "own_points" := He.noat_ok (T.says.fact 35 (f := .noat "Web" "own_points") rfl)
theorem na_Web_own_ties : NoAttr K (He.ga K "Web") "own_ties" := He.noat_ok (T.says.fact 36 (f := .noat "Web" "own_ties") rfl)
theorem me_Web_init : Meth K (He.ga K "Web") "__init__" (He.fAd K ("Web", some "__init__")) := He.meth_ok (T.says.fact 37 (f := .meth "Web" "__init__") rfl)
theorem me_Web_points : Meth K (He.ga K "Web") "points" (He.fAd K ("Web", some "points")) := He.meth_ok (T.says.fact 38 (f := .meth "Web" "points") rfl)
theorem me_Web_ties : Meth K (He.ga K "Web") "ties" (He.fAd K ("Web", some "ties")) := He.meth_ok (T.says.fact 39 (f := .meth "Web" "ties") rfl)
theorem me_Web_many : Meth K (He.ga K "Web") "many" (He.fAd K ("Web", some "many")) := He.meth_ok (T.says.fact 40 (f := .meth "Web" "many") rfl)
theorem g_NoWeb : mg "NoWeb" = some (.ref (He.ga K "NoWeb")) := T.glo _ (T.says.fact 41 (f := .glo "NoWeb") rfl)
theorem xo_NoWeb : ExcOk K (He.ga K "NoWeb") := by
  obtain ⟨h1, h2, h3, h4⟩ := He.exc_ok (T.says.fact 42 (f := .exc "NoWeb") rfl)
  exact ⟨h1, h2, h3, h4⟩
end
theorem fd_is_row {K : PySem.W.Frag} {mg : Str → Option Value} (T : Top K mg) : ∃ fd, FunD K "is_row" "is_row" (defArgs s_is_row) (defBody s_is_row) (defScope s_is_row) [] [] (He.fAd K ("is_row", none)) fd := T.says.def_ 0 (d := d_is_row) rfl
theorem bi_is_row : BindOf "is_row" "is_row" (defArgs s_is_row) (defBody s_is_row) (defScope s_is_row) ["thing"] :=
  fun _ _ _ _ _ _ us hl => match us, hl with | [_], _ => rfl
theorem fd_is_name {K : PySem.W.Frag} {mg : Str → Option Value} (T : Top K mg) : ∃ fd, FunD K "is_name" "is_name" (defArgs s_is_name) (defBody s_is_name) (defScope s_is_name) [] [] (He.fAd K ("is_name", none)) fd := T.says.def_ 1 (d := d_is_name) rfl
theorem bi_is_name : BindOf "is_name" "is_name" (defArgs s_is_name) (defBody s_is_name) (defScope s_is_name) ["thing"] :=
  fun _ _ _ _ _ _ us hl => match us, hl with | [_], _ => rfl
theorem fd_are_names {K : PySem.W.Frag} {mg : Str → Option Value} (T : Top K mg) : ∃ fd, FunD K "are_names" "are_names" (defArgs s_are_names) (defBody s_are_names) (defScope s_are_names) [] [] (He.fAd K ("are_names", none)) fd := T.says.def_ 2 (d := d_are_names) rfl
theorem bi_are_names : BindOf "are_names" "are_names" (defArgs s_are_names) (defBody s_are_names) (defScope s_are_names) ["thing"] :=
  fun _ _ _ _ _ _ us hl => match us, hl with | [_], _ => rfl
theorem fd_is_pair {K : PySem.W.Frag} {mg : Str → Option Value} (T : Top K mg) : ∃ fd, FunD K "is_pair" "is_pair" (defArgs s_is_pair) (defBody s_is_pair) (defScope s_is_pair) [] [] (He.fAd K ("is_pair", none)) fd := T.says.def_ 3 (d := d_is_pair) rfl
theorem bi_is_pair : BindOf "is_pair" "is_pair" (defArgs s_is_pair) (defBody s_is_pair) (defScope s_is_pair) ["points", "thing"] :=
  fun _ _ _ _ _ _ us hl => match us, hl with | [_, _], _ => rfl
theorem fd_Web_init {K : PySem.W.Frag} {mg : Str → Option Value} (T : Top K mg) : ∃ fd, FunD K "__init__" "Web.__init__" (defArgs s_Web_init) (defBody s_Web_init) (defScope s_Web_init) [] [] (He.fAd K ("Web", some "__init__")) fd := T.says.def_ 4 (d := d_Web_init) rfl
theorem bi_Web_init : BindOf "__init__" "Web.__init__" (defArgs s_Web_init) (defBody s_Web_init) (defScope s_Web_init) ["self", "points", "ties"] :=
  fun _ _ _ _ _ _ us hl => match us, hl with | [_, _, _], _ => rfl
theorem fd_Web_points {K : PySem.W.Frag} {mg : Str → Option Value} (T : Top K mg) : ∃ fd, FunD K "points" "Web.points" (defArgs s_Web_points) (defBody s_Web_points) (defScope s_Web_points) [] [] (He.fAd K ("Web", some "points")) fd := T.says.def_ 5 (d := d_Web_points) rfl
theorem bi_Web_points : BindOf "points" "Web.points" (defArgs s_Web_points) (defBody s_Web_points) (defScope s_Web_points) ["self"] :=
  fun _ _ _ _ _ _ us hl => match us, hl with | [_], _ => rfl
theorem fd_Web_ties {K : PySem.W.Frag} {mg : Str → Option Value} (T : Top K mg) : ∃ fd, FunD K "ties" "Web.ties" (defArgs s_Web_ties) (defBody s_Web_ties) (defScope s_Web_ties) [] [] (He.fAd K ("Web", some "ties")) fd := T.says.def_ 6 (d := d_Web_ties) rfl
theorem bi_Web_ties : BindOf "ties" "Web.ties" (defArgs s_Web_ties) (defBody s_Web_ties) (defScope s_Web_ties) ["self"] :=
  fun _ _ _ _ _ _ us hl => match us, hl with | [_], _ => rfl
theorem fd_Web_many {K : PySem.W.Frag} {mg : Str → Option Value} (T : Top K mg) : ∃ fd, FunD K "many" "Web.many" (defArgs s_Web_many) (defBody s_Web_many) (defScope s_Web_many) [] [] (He.fAd K ("Web", some "many")) fd := T.says.def_ 7 (d := d_Web_many) rfl
theorem bi_Web_many : BindOf "many" "Web.many" (defArgs s_Web_many) (defBody s_Web_many) (defScope s_Web_many) ["self"] :=
  fun _ _ _ _ _ _ us hl => match us, hl with | [_], _ => rfl
theorem fd_law_pot {K : PySem.W.Frag} {mg : Str → Option Value} (T : Top K mg) : ∃ fd, FunD K "_law_pot" "_law_pot" (defArgs s_law_pot) (defBody s_law_pot) (defScope s_law_pot) [] [] (He.fAd K ("_law_pot", none)) fd := T.says.def_ 8 (d := d_law_pot) rfl
theorem bi_law_pot : BindOf "_law_pot" "_law_pot" (defArgs s_law_pot) (defBody s_law_pot) (defScope s_law_pot) ["_law_script", "_law_k"] :=
  fun _ _ _ _ _ _ us hl => match us, hl with | [_, _], _ => rfl
theorem fd_law_take {K : PySem.W.Frag} {mg : Str → Option Value} (T : Top K mg) : ∃ fd, FunD K "_law_take" "_law_take" (defArgs s_law_take) (defBody s_law_take) (defScope s_law_take) [] [] (He.fAd K ("_law_take", none)) fd := T.says.def_ 9 (d := d_law_take) rfl
theorem bi_law_take : BindOf "_law_take" "_law_take" (defArgs s_law_take) (defBody s_law_take) (defScope s_law_take) ["_law_pot_here", "_law_many"] :=
  fun _ _ _ _ _ _ us hl => match us, hl with | [_, _], _ => rfl
theorem fd_law_names {K : PySem.W.Frag} {mg : Str → Option Value} (T : Top K mg) : ∃ fd, FunD K "_law_names" "_law_names" (defArgs s_law_names) (defBody s_law_names) (defScope s_law_names) [] [] (He.fAd K ("_law_names", none)) fd := T.says.def_ 10 (d := d_law_names) rfl
theorem bi_law_names : BindOf "_law_names" "_law_names" (defArgs s_law_names) (defBody s_law_names) (defScope s_law_names) ["_law_pot_here", "_law_many"] :=
  fun _ _ _ _ _ _ us hl => match us, hl with | [_, _], _ => rfl
theorem fd_law_mixed {K : PySem.W.Frag} {mg : Str → Option Value} (T : Top K mg) : ∃ fd, FunD K "_law_mixed" "_law_mixed" (defArgs s_law_mixed) (defBody s_law_mixed) (defScope s_law_mixed) [] [] (He.fAd K ("_law_mixed", none)) fd := T.says.def_ 11 (d := d_law_mixed) rfl
theorem bi_law_mixed : BindOf "_law_mixed" "_law_mixed" (defArgs s_law_mixed) (defBody s_law_mixed) (defScope s_law_mixed) ["_law_pot_here", "_law_things"] :=
  fun _ _ _ _ _ _ us hl => match us, hl with | [_, _], _ => rfl
theorem fd_law_tie {K : PySem.W.Frag} {mg : Str → Option Value} (T : Top K mg) : ∃ fd, FunD K "_law_tie" "_law_tie" (defArgs s_law_tie) (defBody s_law_tie) (defScope s_law_tie) [] [] (He.fAd K ("_law_tie", none)) fd := T.says.def_ 12 (d := d_law_tie) rfl
theorem bi_law_tie : BindOf "_law_tie" "_law_tie" (defArgs s_law_tie) (defBody s_law_tie) (defScope s_law_tie) ["_law_pot_here", "_law_names_here"] :=
  fun _ _ _ _ _ _ us hl => match us, hl with | [_, _], _ => rfl
theorem fd_law_web {K : PySem.W.Frag} {mg : Str → Option Value} (T : Top K mg) : ∃ fd, FunD K "_law_web" "_law_web" (defArgs s_law_web) (defBody s_law_web) (defScope s_law_web) [] [] (He.fAd K ("_law_web", none)) fd := T.says.def_ 13 (d := d_law_web) rfl
theorem bi_law_web : BindOf "_law_web" "_law_web" (defArgs s_law_web) (defBody s_law_web) (defScope s_law_web) ["_law_pot_here", "_law_points", "_law_most"] :=
  fun _ _ _ _ _ _ us hl => match us, hl with | [_, _, _], _ => rfl
theorem fd_law_handed {K : PySem.W.Frag} {mg : Str → Option Value} (T : Top K mg) : ∃ fd, FunD K "_law_handed" "_law_handed" (defArgs s_law_handed) (defBody s_law_handed) (defScope s_law_handed) [] [] (He.fAd K ("_law_handed", none)) fd := T.says.def_ 14 (d := d_law_handed) rfl
theorem bi_law_handed : BindOf "_law_handed" "_law_handed" (defArgs s_law_handed) (defBody s_law_handed) (defScope s_law_handed) ["_law_pot_here", "_law_web_here"] :=
  fun _ _ _ _ _ _ us hl => match us, hl with | [_, _], _ => rfl
theorem fd_law_spoil {K : PySem.W.Frag} {mg : Str → Option Value} (T : Top K mg) : ∃ fd, FunD K "_law_spoil" "_law_spoil" (defArgs s_law_spoil) (defBody s_law_spoil) (defScope s_law_spoil) [] [] (He.fAd K ("_law_spoil", none)) fd := T.says.def_ 15 (d := d_law_spoil) rfl
theorem bi_law_spoil : BindOf "_law_spoil" "_law_spoil" (defArgs s_law_spoil) (defBody s_law_spoil) (defScope s_law_spoil) ["_law_handed_here"] :=
  fun _ _ _ _ _ _ us hl => match us, hl with | [_], _ => rfl
theorem fd_law_tells {K : PySem.W.Frag} {mg : Str → Option Value} (T : Top K mg) : ∃ fd, FunD K "_law_tells" "_law_tells" (defArgs s_law_tells) (defBody s_law_tells) (defScope s_law_tells) [] [] (He.fAd K ("_law_tells", none)) fd := T.says.def_ 16 (d := d_law_tells) rfl
theorem bi_law_tells : BindOf "_law_tells" "_law_tells" (defArgs s_law_tells) (defBody s_law_tells) (defScope s_law_tells) ["_law_web_here", "_law_names_here", "_law_ties"] :=
  fun _ _ _ _ _ _ us hl => match us, hl with | [_, _, _], _ => rfl
theorem fd_law {K : PySem.W.Frag} {mg : Str → Option Value} (T : Top K mg) : ∃ fd, FunD K "law" "law" (defArgs s_law) (defBody s_law) (defScope s_law) [] [] (He.fAd K ("law", none)) fd := T.says.def_ 17 (d := d_law) rfl
theorem bi_law : BindOf "law" "law" (defArgs s_law) (defBody s_law) (defScope s_law) ["_law_script"] :=
  fun _ _ _ _ _ _ us hl => match us, hl with | [_], _ => rfl
end PW

namespace PW
open PySem PySem.Spec PyProof.Rows L2
theorem fmod_pos {a b : Int} (h : 0 < b) : a.fmod b = a % b := Int.fmod_eq_emod_of_nonneg a (by omega)
theorem fdiv_pos {a b : Int} (h : 0 < b) : a.fdiv b = a / b := Int.fdiv_eq_ediv_of_nonneg a (by omega)
theorem ok_law_pot {P : Program} {w : World} {K : PySem.W.Frag} {mg : Str → Option Value} {base : Heap} (T : Top K mg) :
    C8.Cal P w K mg base 1 "_law_pot" (spPot K) [] := by
  refine cal_of (fd_law_pot T) (g_law_pot T) sc_law_pot bi_law_pot (fun vs H Q E h => ?_) (fun cdv A outer s H vs Q E hr h => ?_)
  · obtain ⟨a, k, ns, rfl, _⟩ := h
    rfl
  · obtain ⟨a, k, ns, rfl, hS, hlen, hk0, hk1, q⟩ := h
    refine ⟨_, (C8.pss_cut (ps_set (i := 2) sc_law_pot.nd rfl (by first | exact Or.inl rfl | exact Or.inr rfl) (pe_ifExp (pt_cmpR op_lt (pv 1) (pe_callB (lenK (K := K)) (by rfl) (f_len T) PySem.boot_len (pa_cons (pv 0) pa_nil)) (nomark _)) (pe_ix (ixL (K := K)) (pv 0) (pv 1) (fun _ _ => rfl)) pe_int))
      (pss_one (ps_ret (pe_lst (pa_cons (pe_callB (call_max2 rfl) (by rfl) (f_max T) (by decide +kernel) (pa_cons pe_int (pa_cons (pe_op op_sub (pe_callB call_abs (by rfl) (f_abs T) (by decide +kernel) (pa_cons (pv 2) pa_nil)) (pe_op op_pow pe_int pe_int)) pa_nil))) (pa_cons (pe_op op_add (pe_op op_add (pe_op op_modN (pe_callB call_abs (by rfl) (f_abs T) (by decide +kernel) (pa_cons (pv 2) pa_nil)) pe_int) (pe_op op_mul pe_int (pv 1))) pe_int) pa_nil)))))), ?_⟩
    refine ⟨fun σ' H' => ∃ c : Int, σ' = [some (.ref a), some (.int k), some (.int c)] ∧ H' = H, ?_, ?_⟩
    · refine ⟨.int k, rfl, .ref a, rfl, a, ns.map V.int, rfl, .inl hS, k, _, rfl, rfl, _, rfl, ite2 (fun e => ?_) (fun e => ?_)⟩
      · have hk : k < ((ns.map V.int).length : Int) := of_decide_eq_true e
        rw [List.length_map] at hk
        have hi : k.toNat < ns.length := by omega
        refine ⟨.ref a, rfl, .int k, rfl, a, ns.map V.int, k, .int ns[k.toNat], rfl, rfl, hS, ?_, ns[k.toNat], rfl, rfl⟩
        have e1 : k = ((k.toNat : Nat) : Int) := by omega
        exact at_of (j := k.toNat) e1 (by rw [List.getElem?_map, List.getElem?_eq_getElem hi]; rfl)
      · exact ⟨0, rfl, rfl⟩
    · rintro σ' H' ⟨c, rfl, rfl⟩
      refine ⟨.int c, rfl, c, rfl, 10, 18, rfl, rfl, ⟨by decide, by decide, by decide⟩, _, _, rfl, rfl, _, _, rfl, .int c, rfl, c, rfl, _, _, rfl, rfl, (by show (2147483629 : Int) ≠ 0; decide), .int k, rfl, _, _, rfl, rfl, .inl ⟨by decide, by decide⟩, _, _, rfl, rfl, _, _, rfl, rfl, (by show 2 ≤ sizeLine; decide), fun p hp => ?_⟩
      refine q p _ hp (same_new hp) ⟨_, _, ?_, ?_, upd_same⟩
      · split <;> omega
      · rw [fmod_pos (by decide)]
        have h1 : 0 ≤ (if c < 0 then -c else c) % 2147483629 := Int.emod_nonneg _ (by decide)
        omega
theorem ok_law_take {P : Program} {w : World} {K : PySem.W.Frag} {mg : Str → Option Value} {base : Heap} (T : Top K mg) :
    C8.Cal P w K mg base 1 "_law_take" spTake [] := by
  refine cal_of (fd_law_take T) (g_law_take T) sc_law_take bi_law_take (fun vs H Q E h => ?_) (fun cdv A outer s H vs Q E hr h => ?_)
  · obtain ⟨p, n, rfl, _⟩ := h
    rfl
  · obtain ⟨p, n, rfl, hp, hn0, hn1, q⟩ := h
    refine ⟨_, (pss_cons (ps_if (pt_cmpR op_gt (pe_ix (ixL (K := K)) (pv 0) pe_int (fun _ _ => rfl)) pe_int (nomark _)) (pss_cons (ps_asg (pe_callB call_divmod (by rfl) (f_divmod T) (by decide +kernel) (pa_cons (pe_ix (ixL (K := K)) (pv 0) pe_int (fun _ _ => rfl)) (pa_cons (pv 1) pa_nil))) (pg_tup (n := 2) rfl (pgs_cons (pg_sub (pv 0) pe_int set_list) (pgs_cons (pg_name (i := 2) sc_law_take.nd rfl (by first | exact Or.inl rfl | exact Or.inr rfl)) pgs_nil))))
      (pss_one (ps_ret (pv 2)))) pss_nil)
      (pss_cons (ps_asg (pe_op op_modN (pe_op op_add (pe_op op_mul (pe_ix (ixL (K := K)) (pv 0) pe_int (fun _ _ => rfl)) pe_int) pe_int) pe_int) (pg_sub (pv 0) pe_int set_list))
      (pss_one (ps_ret (pe_op op_modN (pe_op op_fdivN (pe_op op_modN (pe_op op_mul (pe_ix (ixL (K := K)) (pv 0) pe_int (fun _ _ => rfl)) (pe_ix (ixL (K := K)) (pv 0) pe_int (fun _ _ => rfl))) pe_int) pe_int) (pv 1)))))), ?_⟩
    obtain ⟨x, y, hx, hy, hp⟩ := hp
    refine ⟨.ref p, rfl, p, _, 0, .int x, rfl, rfl, SqL.of hp, rfl, x, 0, rfl, rfl, _, rfl, ite2 (fun e => ?_) (fun e => ?_)⟩
    · refine ⟨.ref p, rfl, p, _, 0, .int x, rfl, rfl, SqL.of hp, rfl, .int n, rfl, x, n, rfl, ⟨hn0, hn1⟩, fun t nt => ?_⟩
      have npt : p ≠ t := ne_of_none hp nt
      have hp1 : upd H t (.tup [.int (x / n), .int (x % n)]) p = some (.lst [.int x, .int y]) := by
        rw [upd_ne npt]
        exact hp
      refine ⟨t, _, rfl, SqT.of upd_same, rfl, _, _, rfl, .ref p, rfl, p, _, 0, 0, rfl, rfl, hp1, rfl, _, _, rfl, rfl, .int (x % n), rfl, ?_⟩
      refine q _ _ (Int.emod_nonneg _ (by omega)) (Int.emod_lt_of_pos _ hn0) ((Kp.same (same_new nt)).trans (Kp.write _ _ _)) ⟨x / n, y, Int.ediv_nonneg hx (by omega), hy, upd_same⟩
    · refine ⟨.ref p, rfl, p, _, 1, .int y, rfl, rfl, SqL.of hp, rfl, y, 48271, rfl, rfl, .inr ⟨by decide, by decide⟩, _, _, rfl, rfl, _, _, rfl, rfl, (by show (2147483647 : Int) ≠ 0; decide), .ref p, rfl, p, _, 1, 1, rfl, rfl, hp, rfl, ?_⟩
      have hz : (y * 48271 + 12345).fmod 2147483647 = (y * 48271 + 12345) % 2147483647 := fmod_pos (by decide)
      have z0 : 0 ≤ (y * 48271 + 12345) % 2147483647 := Int.emod_nonneg _ (by decide)
      have z1 : (y * 48271 + 12345) % 2147483647 < 2147483647 := Int.emod_lt_of_pos _ (by decide)
      simp only [hz]
      generalize (y * 48271 + 12345) % 2147483647 = z at z0 z1
      refine ⟨.ref p, rfl, p, _, 1, .int z, rfl, rfl, SqL.of upd_same, rfl, .ref p, rfl, p, _, 1, .int z, rfl, rfl, SqL.of upd_same, rfl, z, z, rfl, rfl, .inl ⟨by omega, by omega⟩, _, _, rfl, rfl, (by show (2147483629 : Int) ≠ 0; decide), _, _, rfl, rfl, ⟨by decide, by decide⟩, .int n, rfl, _, _, rfl, rfl, (by omega), ?_⟩
      refine q _ _ ?_ ?_ (Kp.write _ _ _) ⟨x, z, hx, z0, upd_same⟩
      · rw [fmod_pos hn0]
        exact Int.emod_nonneg _ (by omega)
      · rw [fmod_pos hn0]
        exact Int.emod_lt_of_pos _ hn0
end PW

namespace PW
open PySem PySem.Spec PyProof.Rows L2
/-! ### names that begin alike -/
def alike (p q : Nat) : List Str := [[p], [p, p], [p, q], [p, p, q], [q], [q, p], [p, p, p], [p, q, p], [q, q], [p, p, p, q], [p, q, q], [q, p, p]].map SX.S
theorem alike_ok {p q : Nat} (hp : Code p) (hq : Code q) (ne : p ≠ q) : NamesOk (alike p q) := by
  constructor
  · unfold alike
    refine nodup_map (fun a b z => ?_) ?_
    · have z' := congrArg (fun s : Str => s.cps.toList) z
      exact z'
    · have h1 : ¬ p = q := ne
      have h2 : ¬ q = p := fun z => ne z.symm
      simp [h1, h2]
  · intro x hx
    unfold alike at hx
    obtain ⟨l, hl, rfl⟩ := List.mem_map.mp hx
    refine ⟨l, rfl, ?_⟩
    simp only [List.mem_cons, List.not_mem_nil, or_false] at hl
    rcases hl with rfl | rfl | rfl | rfl | rfl | rfl | rfl | rfl | rfl | rfl | rfl | rfl <;> refine ⟨by simp, by simp, fun c hc => ?_⟩ <;> simp only [List.mem_cons, List.not_mem_nil, or_false] at hc <;> (rcases hc with rfl | rfl | rfl | rfl) <;> assumption
theorem back_names {K : PySem.W.Frag} : ∀ vs H Q E, spNames vs H Q E → spP K fsNames vs H Q E := by
  rintro vs H Q E ⟨p, n, rfl, hp, n1, n2, q⟩
  refine ⟨p, [.int n], [.int n], fun d => ∃ ns, NamesOk ns ∧ ns.length = n.toNat ∧ d = nmsD ns, fun _ => False, rfl, hp, .cons (.int n) .nil, ⟨n, rfl, n1, n2, fun ns h1 h2 => ⟨ns, h1, h2, rfl⟩⟩, ?_, fun _ _ _ z => z.elim⟩
  rintro d v H' ⟨ns, h1, h2, rfl⟩ kp po r
  cases r with
  | lst e g =>
    obtain ⟨e1, e2⟩ := cut_inv e
    rw [strsOf_v g (strsOf_map ns)] at e1
    refine q _ ns H' h1 h2 ?_ kp po e1
    rcases e2 with e2 | ⟨xs, z⟩
    · exact Classical.byContradiction fun z => e2 z
    · cases z
theorem jn_nil : ∀ ys : List (List Nat), TL.joinL [] ys = ys.flatten
  | [] => rfl
  | [p] => by simp [TL.joinL]
  | p :: q :: r => by
    have ih := jn_nil (q :: r)
    rw [List.flatten_cons, ← ih]
    rfl
theorem jn_signs (l : List Nat) : joinC ("" : Str) (l.map fun c => SX.S [c]) = SX.S l := by
  have e : (l.map fun c => SX.S [c]) = (l.map fun c => [c]).map SX.S := by rw [List.map_map]; rfl
  have e0 : ("" : Str) = SX.S [] := rfl
  unfold joinC
  rw [e, e0, SX.join_S, jn_nil]
  congr 1
  clear e e0
  induction l with
  | nil => rfl
  | cons a l ih => rw [List.map_cons, List.flatten_cons, ih]; rfl
theorem perm_erase {α : Type} {xs : List α} {k : Nat} {x : α} (h : xs[k]? = some x) : (x :: xs.eraseIdx k).Perm xs := by
  induction xs generalizing k with
  | nil => simp at h
  | cons a xs ih =>
    cases k with
    | zero =>
      cases h
      exact .refl _
    | succ k => exact .trans (.swap _ _ _) (.cons a (ih h))
theorem map_eraseIdx {α β : Type} (f : α → β) (xs : List α) (k : Nat) : (xs.map f).eraseIdx k = (xs.eraseIdx k).map f := by
  induction xs generalizing k with
  | nil => rfl
  | cons a xs ih =>
    cases k with
    | zero => rfl
    | succ k => exact congrArg (f a :: ·) (ih k)
theorem fmod26 {b : Int} (h0 : 0 ≤ b) (h1 : b < 26) : Int.fmod (b + 1) 26 = b + 1 ∨ Int.fmod (b + 1) 26 = 0 ∧ b = 25 := by
  rw [Int.fmod_eq_emod_of_nonneg _ (by decide)]
  omega
theorem NamesOk.sub {xs ys all : List Str} (h : NamesOk all) (hp : (xs ++ ys).Perm all) : NamesOk xs where
  nd := (List.nodup_append.mp (hp.nodup_iff.mpr h.nd)).1
  ok := fun x hx => h.ok x (hp.subset (List.mem_append_left _ hx))
theorem signs_sum : ∀ l : List Nat, ((l.map fun c => SX.S [c]).map (·.length)).sum = l.length
  | [] => rfl
  | _ :: l => by
    rw [List.map_cons, List.map_cons, List.sum_cons, signs_sum l, List.length_cons, Nat.add_comm]
    rfl
theorem sx_cons (c : Nat) (l : List Nat) : (⟨#[c]⟩ : Str) ++ SX.S l = SX.S (c :: l) := by
  show Str.mk _ = Str.mk _
  congr 1
  simp
/-- drawing out of twelve names -/
theorem alike_pop {xs acc : List Str} {all : List Str} {k : Nat} {x : Str} (h : (acc ++ xs).Perm all) (hx : xs[k]? = some x) : ((acc ++ [x]) ++ xs.eraseIdx k).Perm all := by
  refine List.Perm.trans ?_ h
  rw [List.append_assoc]
  exact List.Perm.append_left acc (perm_erase hx)
end PW

namespace PW
open PySem PySem.Spec PyProof.Rows L2
theorem sx_snoc (l : List Nat) (c : Nat) : SX.S l ++ (⟨#[c]⟩ : Str) = SX.S (l ++ [c]) := by
  exact SX.S_cat l [c]
theorem dk_law_names {P : Program} {w : World} {K : PySem.W.Frag} {mg : Str → Option Value} {base : Heap} (T : Top K mg) :
    C8.Cal P w K mg base 2 "_law_names" (spP K fsNames) [] := by
  refine cal_of (fd_law_names T) (g_law_names T) sc_law_names bi_law_names (fun vs H Q E h => ?_) (fun cdv A outer s H vs Q E hr h => ?_)
  · obtain ⟨p, us, ds, R, Xd, rfl, _, h1, h2, _⟩ := h
    obtain ⟨n, rfl, _⟩ := h2
    exact congrArg (· + 1) h1.len
  · refine ⟨_, (pss_cons (ps_set (i := 2) sc_law_names.nd rfl (by first | exact Or.inl rfl | exact Or.inr rfl) pe_str)
      (pss_cons (ps_set (i := 3) sc_law_names.nd rfl (by first | exact Or.inl rfl | exact Or.inr rfl) (C8.pe_c (ok_law_take (K := K) T) hr (by decide) (by rfl) (pa_cons (pv 0) (pa_cons pe_int pa_nil))))
      (pss_cons (ps_if (pt_cmpR (gEq (K := K) hr.units) (C8.pe_c (ok_law_take (K := K) T) hr (by decide) (by rfl) (pa_cons (pv 0) (pa_cons pe_int pa_nil))) pe_int (nomark _)) (pss_cons (ps_par (i := 4) (j := 5) (by rfl) sc_law_names.nd rfl rfl (by decide) rfl rfl (pa_cons (pe_ix (gIx (K := K)) (pv 2) (pv 3) (fun _ _ => rfl)) (pa_cons (pe_ix (gIx (K := K)) (pv 2) (pe_op op_modN (pe_op (gAdd (K := K)) (pv 3) pe_int) pe_int) (fun _ _ => rfl)) pa_nil)) (by rfl))
      (pss_cons (ps_set (i := 6) sc_law_names.nd rfl (by first | exact Or.inl rfl | exact Or.inr rfl) (pe_lst (pa_cons (pv 4) (pa_cons (pe_op (gAdd (K := K)) (pv 4) (pv 4)) (pa_cons (pe_op (gAdd (K := K)) (pv 4) (pv 5)) (pa_cons (pe_op (gAdd (K := K)) (pe_op (gAdd (K := K)) (pv 4) (pv 4)) (pv 5)) (pa_cons (pv 5) (pa_cons (pe_op (gAdd (K := K)) (pv 5) (pv 4)) (pa_cons (pe_op (gAdd (K := K)) (pe_op (gAdd (K := K)) (pv 4) (pv 4)) (pv 4)) (pa_cons (pe_op (gAdd (K := K)) (pe_op (gAdd (K := K)) (pv 4) (pv 5)) (pv 4)) (pa_cons (pe_op (gAdd (K := K)) (pv 5) (pv 5)) (pa_cons (pe_op (gAdd (K := K)) (pe_op (gAdd (K := K)) (pe_op (gAdd (K := K)) (pv 4) (pv 4)) (pv 4)) (pv 5)) (pa_cons (pe_op (gAdd (K := K)) (pe_op (gAdd (K := K)) (pv 4) (pv 5)) (pv 5)) (pa_cons (pe_op (gAdd (K := K)) (pe_op (gAdd (K := K)) (pv 5) (pv 4)) (pv 4)) pa_nil))))))))))))))
      (pss_one (ps_ret (pe_lc (own := [("_law_k", 8)]) (g := gName 8) (by rfl) sc_law_names.nd (pi_range1 (by rfl) (f_range T) (pa_cons (pv 1) pa_nil)) (blkOk_by (own := [("_law_k", 8)]) (N := ["_law_pot_here", "_law_many", "_law_letters", "_law_begin", "_law_p", "_law_q", "_law_some", "_law_found", "_law_k", "_law_word", "_law_j"]) (sc := defScope s_law_names) (by decide +kernel)) (fun _ _ _ _ _ => (pg_name (i := 8) sc_law_names.nd rfl (by first | exact Or.inl rfl | exact Or.inr rfl))) (fun _ _ _ _ _ => pts_nil) (fun _ _ _ _ _ => (pe_bmK (K := K) PySem.F.plainAttrs_list PySem.F.slot_list_pop PySem.F.type_list_pop mt_popAt (pv 6) (pa_cons (C8.pe_c (ok_law_take (K := K) T) hr (by decide) (by rfl) (pa_cons (pv 0) (pa_cons (pe_callB (gLen (K := K)) (by rfl) (f_len T) PySem.boot_len (pa_cons (pv 6) pa_nil)) pa_nil))) pa_nil)))))))) pss_nil)
      (pss_cons (ps_set (i := 7) sc_law_names.nd rfl (by first | exact Or.inl rfl | exact Or.inr rfl) (pe_lst pa_nil))
      (pss_cons (ps_for PassesOwn.never rfl (pi_range1 (by rfl) (f_range T) (pa_cons (pv 1) pa_nil)) (pg_name (i := 8) sc_law_names.nd rfl (by first | exact Or.inl rfl | exact Or.inr rfl)) (pss_cons (ps_set (i := 9) sc_law_names.nd rfl (by first | exact Or.inl rfl | exact Or.inr rfl) (pe_ix (gIx (K := K)) (pv 2) (pe_op op_modN (pe_op (gAdd (K := K)) (pv 3) (pe_op gMul pe_int (pv 8))) pe_int) (fun _ _ => rfl)))
      (pss_cons (ps_for PassesOwn.never rfl (pi_range1 (by rfl) (f_range T) (pa_cons (C8.pe_c (ok_law_take (K := K) T) hr (by decide) (by rfl) (pa_cons (pv 0) (pa_cons pe_int pa_nil))) pa_nil)) (pg_name (i := 10) sc_law_names.nd rfl (by first | exact Or.inl rfl | exact Or.inr rfl)) (pss_one (ps_set (i := 9) sc_law_names.nd rfl (by first | exact Or.inl rfl | exact Or.inr rfl) (pe_op (gAdd (K := K)) (pv 9) (pe_ix (gIx (K := K)) (pv 2) (C8.pe_c (ok_law_take (K := K) T) hr (by decide) (by rfl) (pa_cons (pv 0) (pa_cons pe_int pa_nil))) (fun _ _ => rfl))))))
      (pss_one (ps_expr (pe_bmK (K := K) PySem.F.plainAttrs_list PySem.F.slot_list_append PySem.F.type_list_append mt_append (pv 7) (pa_cons (pv 9) pa_nil)))))))
      (pss_one (ps_ret (pv 7)))))))), ?_⟩
    refine runP (N := ["_law_pot_here", "_law_many", "_law_letters", "_law_begin", "_law_p", "_law_q", "_law_some", "_law_found", "_law_k", "_law_word", "_law_j"]) inferInstance h (fun ds R Xd h => ?_)
    obtain ⟨n, rfl, n1, n2, q⟩ := h
    have hxs := T.xs
    walk_at "a"
    refine takeC_of (by decide) (by decide) fun b b0 b1 => ?_
    walk_at "a"
    refine takeC_of (by decide) (by decide) fun c c0 c1 => ?_
    walk_at "a"
    refine ifC_d (fun e => ?_) fun e => ?_
    · walk_at "a"
      rw [letters_at b0 b1]
      walk_at "a"
      have m0 : 0 ≤ Int.fmod (b + 1) 26 := Int.fmod_nonneg (by omega) (by decide)
      have m1 : Int.fmod (b + 1) 26 < 26 := Int.fmod_lt_of_pos _ (by decide)
      rw [letters_at m0 m1]
      walk_at "a"
      have hal := alike_ok (code_of b0 b1) (code_of m0 m1) (by
        have := fmod26 b0 b1
        omega)
      rw [lcC_eq]
      unfold rangeD
      refine lc_inv (fun i : Nat => (true, D.int (0 + (i : Nat)))) (List.range n.toNat) (fun i ra acc ρ => ∃ ws rest : List Str, ra = true ∧ acc = ws.map D.str ∧ ws.length = i ∧ (ws ++ rest).Perm (alike (97 + b.toNat) (97 + (Int.fmod (b + 1) 26).toNat)) ∧
        ρ = [some (.ow true .pot), some (.sh false (.int n)), some (.sh true (.str _)), some (.sh true (.int b)), some (.sh true (.str _)), some (.sh true (.str _)), some (.ow true (.lst (rest.map D.str))), none, none, none, none]) ⟨[], alike (97 + b.toNat) (97 + (Int.fmod (b + 1) 26).toNat), rfl, rfl, rfl, .refl _, rfl⟩ ?_ ?_
      · rintro i x ra acc ρ k1 k2 hi ⟨ws, rest, rfl, rfl, hw, hp, rfl⟩ hk _
        have hi' := (List.getElem?_eq_some_iff.mp hi).1
        rw [List.length_range] at hi'
        have hlen := hp.length_eq
        rw [List.length_append, show (alike (97 + b.toNat) (97 + (Int.fmod (b + 1) 26).toNat)).length = 12 from rfl] at hlen
        walk_at "a"
        refine takeC_of (by rw [List.length_map]; omega) (by rw [List.length_map]; omega) fun d d0 d1 => ?_
        rw [List.length_map] at d1
        walk_at "a"
        rw [seqIx d0 (by rw [List.length_map]; exact d1)]
        obtain ⟨y, hy⟩ : ∃ y, rest[d.toNat]? = some y := ⟨_, List.getElem?_eq_getElem (by omega)⟩
        walk_at "w"
        rw [List.getElem?_map, hy]
        walk_at "a"
        refine hk _ _ _ ⟨ws ++ [y], rest.eraseIdx d.toNat, rfl, by rw [List.map_append]; rfl, by rw [List.length_append, hw]; rfl, alike_pop hp hy, ?_⟩
        rw [← map_eraseIdx]
        rfl
      · rintro ra acc ρ ⟨ws, rest, rfl, rfl, hw, hp, rfl⟩
        rw [List.length_range] at hw
        walk_at "a"
        exact q ws (hal.sub hp) hw
    · walk_at "a"
      refine rangeU _ _ (fun (r0 : DEnv) i (ρ : DEnv) => ∃ (ws : List Str) (x8 : Option Sl) (x9 : Option Sl) (x10 : Option Sl), (ws.length = i ∧ Heads b ws) ∧ ρ = upF r0 [(7, some (.ow true (.lst (ws.map D.str)))), (8, x8), (9, x9), (10, x10)]) ⟨[], _, _, _, ⟨rfl, Heads.nil b⟩, rfl⟩ ?_ ?_
      · rintro i ρ k hi ⟨ws, x8, x9, x10, ⟨hw, hh⟩, rfl⟩ hk
        walk_at "a"
        have m0 : 0 ≤ Int.fmod (b + 5 * (0 + (i : Nat))) 26 := Int.fmod_nonneg (by omega) (by decide)
        have m1 : Int.fmod (b + 5 * (0 + (i : Nat))) 26 < 26 := Int.fmod_lt_of_pos _ (by decide)
        refine ⟨.inl ⟨by decide, by decide⟩, ?_⟩
        walk_at "a"
        rw [letters_at m0 m1]
        walk_at "a"
        refine takeC_of (by decide) (by decide) fun d d0 d1 => ?_
        walk_at "a"
        refine rangeU _ _ (fun (r0 : DEnv) j (ρ : DEnv) => ∃ (l : List Nat) (x10 : Option Sl), (l.length = j ∧ ∀ c ∈ l, Code c) ∧ ρ = upF r0 [(9, some (.sh true (.str (SX.S ((97 + (Int.fmod (b + 5 * (0 + (i : Nat))) 26).toNat) :: l))))), (10, x10)]) ⟨[], _, ⟨rfl, fun c hc => by cases hc⟩, rfl⟩ ?_ ?_
        · rintro j ρ k' hj ⟨l, x10, ⟨hl, hc⟩, rfl⟩ hk'
          walk_at "a"
          refine takeC_of (by decide) (by decide) fun e e0 e1 => ?_
          walk_at "w"
          rw [letters_at e0 e1]
          walk_at "a"
          refine ⟨?_, ?_⟩
          · show (SX.S _).length + 1 ≤ _
            rw [SX.S_len]
            exact small (by rw [List.length_cons]; omega)
          rw [sx_snoc]
          walk_at "a"
          have hc2 : ∀ c ∈ l ++ [97 + e.toNat], Code c := fun c h => by
            rcases List.mem_append.mp h with h | h
            · exact hc c h
            · rw [List.mem_singleton.mp h]
              exact code_of e0 e1
          exact hk' _ ⟨l ++ [97 + e.toNat], _, ⟨by rw [List.length_append, hl]; rfl, hc2⟩, rfl⟩
        · rintro ρ ⟨l, x10, ⟨hl, hc⟩, rfl⟩
          have h3 : l.length ≤ 3 := by omega
          walk_at "a"
          have hi5 : (0 : Int) + (i : Nat) = (ws.length : Nat) := by omega
          have hh2 := hh.snoc (l := l) h3 hc
          have e2 : ws.map D.str ++ [D.str (SX.S ((97 + (Int.fmod (b + 5 * (0 + (i : Nat))) 26).toNat) :: l))] = (ws ++ [SX.S ((97 + ((b + 5 * (ws.length : Int)) % 26).toNat) :: l)]).map D.str := by
            rw [List.map_append, hi5, Int.fmod_eq_emod_of_nonneg _ (by decide)]
            rfl
          rw [e2]
          exact hk _ ⟨_, _, _, _, ⟨by rw [List.length_append, hw]; rfl, hh2⟩, rfl⟩
      · rintro ρ ⟨ws, x8, x9, x10, ⟨hw, hh⟩, rfl⟩
        walk_at "a"
        exact q ws (hh.ok (by omega)) hw
theorem ok_law_names {P : Program} {w : World} {K : PySem.W.Frag} {mg : Str → Option Value} {base : Heap} (T : Top K mg) :
    C8.Cal P w K mg base 2 "_law_names" spNames [] := cal_imp (dk_law_names T) back_names
end PW

namespace PW
open PySem PySem.Spec PyProof.Rows L2
theorem ok_law_mixed {P : Program} {w : World} {K : PySem.W.Frag} {mg : Str → Option Value} {base : Heap} (T : Top K mg) :
    C8.Cal P w K mg base 2 "_law_mixed" spMixed [] := by
  refine cal_of (fd_law_mixed T) (g_law_mixed T) sc_law_mixed bi_law_mixed (fun vs H Q E h => ?_) (fun cdv A outer s H vs Q E hr h => ?_)
  · obtain ⟨p, a, xs, rfl, _⟩ := h
    rfl
  · obtain ⟨p, a, xs, rfl, hp, nap, ha, hx, q⟩ := h
    refine ⟨_, (pss_cons (ps_set (i := 2) sc_law_mixed.nd rfl (by first | exact Or.inl rfl | exact Or.inr rfl) (pe_lst pa_nil))
      (pss_cons (ps_for PassesOwn.never rfl (pi_list (pv 1)) (pg_name (i := 3) sc_law_mixed.nd rfl (by first | exact Or.inl rfl | exact Or.inr rfl)) (pss_one (ps_expr (pe_bmK (K := K) PySem.F.plainAttrs_list PySem.F.slot_list_insert PySem.F.type_list_insert mt_insert (pv 2) (pa_cons (C8.pe_c (ok_law_take (K := K) T) hr (by decide) (by rfl) (pa_cons (pv 0) (pa_cons (pe_op op_add (pe_callB (lenK (K := K)) (by rfl) (f_len T) PySem.boot_len (pa_cons (pv 2) pa_nil)) pe_int) pa_nil))) (pa_cons (pv 3) pa_nil))))))
      (pss_one (ps_ret (pv 2))))), ?_⟩
    refine ⟨Nat.zero_le _, fun r nr => ?_⟩
    have nrp : r ≠ p := hp.ne nr
    have nar : a ≠ r := ne_of_none ha nr
    refine ⟨.ref a, rfl, a, rfl, ⟨xs, SqL.of (same_new nr _ _ ha)⟩, for_list (K := K) (a := a) (xs := xs) (fun i σ H2 => ∃ (ys : List V) (y3 : Option V),
      σ = [some (.ref p), some (.ref a), some (.ref r), y3] ∧ ys.Perm (xs.take i) ∧ Kp p H H2 ∧ Pot H2 p ∧ H2 r = some (.lst ys))
      ⟨[], none, rfl, .nil, Kp.same (same_new nr), hp.same (same_new nr), upd_same⟩ (fun i σ H2 _ ⟨_, _, _, _, k, _, _⟩ => SqL.of (k a _ nap ha)) ?_ ?_⟩
    · rintro i x σ H2 hi ⟨ys, y3, rfl, hy, k2, p2, er⟩
      have hl : ys.length = (xs.take i).length := hy.length_eq
      rw [List.length_take] at hl
      refine ⟨.ref r, rfl, .inl ⟨rfl, _, SqL.of er⟩, .ref p, rfl, .ref r, rfl, r, ys, rfl, .inl (SqL.of er), _, _, rfl, rfl, p, _, rfl, p2, by omega, by omega, fun d H3 d0 d1 k3 p3 => ⟨_, rfl, r, ys, d, x, rfl, rfl, k3 r _ nrp er, small1000 (by omega), d0, by omega, ?_⟩⟩
      refine ⟨_, some x, rfl, (perm_insert ys x d.toNat).trans ?_, (k2.trans k3).into nr, p3.into nrp, upd_same⟩
      rw [take_snoc hi]
      exact hy.append_right [x]
    · rintro σ H2 ⟨ys, y3, rfl, hy, k2, p2, er⟩
      rw [List.take_length] at hy
      exact ⟨_, rfl, q r ys H2 hy nr k2 p2 er⟩
theorem ok_law_tie {P : Program} {w : World} {K : PySem.W.Frag} {mg : Str → Option Value} {base : Heap} (T : Top K mg) :
    C8.Cal P w K mg base 2 "_law_tie" spTie [] := by
  refine cal_of (fd_law_tie T) (g_law_tie T) sc_law_tie bi_law_tie (fun vs H Q E h => ?_) (fun cdv A outer s H vs Q E hr h => ?_)
  · obtain ⟨p, a, ns, rfl, _⟩ := h
    rfl
  · obtain ⟨p, a, ns, rfl, hp, nap, ha, nd, h2, h3, q⟩ := h
    refine ⟨_, (pss_cons (ps_set (i := 2) sc_law_tie.nd rfl (by first | exact Or.inl rfl | exact Or.inr rfl) (C8.pe_c (ok_law_take (K := K) T) hr (by decide) (by rfl) (pa_cons (pv 0) (pa_cons (pe_callB (lenK (K := K)) (by rfl) (f_len T) PySem.boot_len (pa_cons (pv 1) pa_nil)) pa_nil))))
      (pss_cons (ps_set (i := 3) sc_law_tie.nd rfl (by first | exact Or.inl rfl | exact Or.inr rfl) (pe_op op_modN (pe_op op_add (pe_op op_add (pv 2) pe_int) (C8.pe_c (ok_law_take (K := K) T) hr (by decide) (by rfl) (pa_cons (pv 0) (pa_cons (pe_op op_sub (pe_callB (lenK (K := K)) (by rfl) (f_len T) PySem.boot_len (pa_cons (pv 1) pa_nil)) pe_int) pa_nil)))) (pe_callB (lenK (K := K)) (by rfl) (f_len T) PySem.boot_len (pa_cons (pv 1) pa_nil))))
      (pss_one (ps_ret (pe_tup (pa_cons (pe_ix (ixL (K := K)) (pv 1) (pv 2) (fun _ _ => rfl)) (pa_cons (pe_ix (ixL (K := K)) (pv 1) (pv 3) (fun _ _ => rfl)) pa_nil))))))), ?_⟩
    have hl : ((ns.map V.str).length : Int) = ns.length := by rw [List.length_map]
    refine ⟨.ref p, rfl, .ref a, rfl, a, _, rfl, .inl (SqL.of ha), p, _, rfl, hp, by omega, by omega, fun i H1 i0 i1 k1 p1 => ?_⟩
    have ha1 := k1 a _ nap ha
    refine ⟨.int i, rfl, _, _, rfl, rfl, .ref p, rfl, .ref a, rfl, a, _, rfl, .inl (SqL.of ha1), _, _, rfl, rfl, p, _, rfl, p1, by omega, by omega, fun j H2 j0 j1 k2 p2 => ?_⟩
    have ha2 := k2 a _ nap ha1
    refine ⟨_, _, rfl, rfl, .ref a, rfl, a, _, rfl, .inl (SqL.of ha2), _, _, rfl, rfl, (by rw [hl]; omega), ?_⟩
    have hm : (i + 1 + j).fmod ((ns.map V.str).length : Int) = (i + 1 + j) % (ns.length : Int) := by
      rw [hl, fmod_pos (by omega)]
    obtain ⟨z, hz, z0, z1, zi⟩ : ∃ z : Int, (i + 1 + j) % (ns.length : Int) = z ∧ 0 ≤ z ∧ z < ns.length ∧ z ≠ i := by
      refine ⟨_, rfl, Int.emod_nonneg _ (by omega), Int.emod_lt_of_pos _ (by omega), ?_⟩
      by_cases hw : i + 1 + j < ns.length
      · rw [Int.emod_eq_of_lt (by omega) hw]
        omega
      · have e : (i + 1 + j) % (ns.length : Int) = (i + 1 + j - ns.length) % (ns.length : Int) := by
          rw [Int.sub_emod_right]
        rw [e, Int.emod_eq_of_lt (by omega) (by omega)]
        omega
    simp only [hm, hz]
    have hi : i.toNat < ns.length := by omega
    have hj : z.toNat < ns.length := by omega
    have gi : (ns.map V.str)[i.toNat]? = some (.str ns[i.toNat]) := by
      rw [List.getElem?_map, List.getElem?_eq_getElem hi]
      rfl
    have gj : (ns.map V.str)[z.toNat]? = some (.str ns[z.toNat]) := by
      rw [List.getElem?_map, List.getElem?_eq_getElem hj]
      rfl
    refine ⟨.ref a, rfl, .int i, rfl, a, _, i, _, rfl, rfl, SqL.of ha2, atI_of (show i = ((i.toNat : Nat) : Int) by omega) gi, .ref a, rfl, .int z, rfl, a, _, z, _, rfl, rfl, SqL.of ha2, atI_of (show z = ((z.toNat : Nat) : Int) by omega) gj, (by show 2 ≤ sizeLine; decide), fun t nt => ?_⟩
    have ft : H t = none := k1.free (p1.ne (k2.free (p2.ne nt) nt)) (k2.free (p2.ne nt) nt)
    exact q t _ _ _ ⟨List.getElem_mem hi, List.getElem_mem hj, nodup_ne nd (List.getElem?_eq_getElem hi) (List.getElem?_eq_getElem hj) (by omega)⟩ ft ((k1.trans k2).new nt) (p2.same (same_new nt)) upd_same
end PW

namespace PW
open PySem PySem.Spec PyProof.Rows L2
theorem ok_law_web {P : Program} {w : World} {K : PySem.W.Frag} {mg : Str → Option Value} {base : Heap} (T : Top K mg) :
    C8.Cal P w K mg base 3 "_law_web" spWeb [] := by
  refine cal_of (fd_law_web T) (g_law_web T) sc_law_web bi_law_web (fun vs H Q E h => ?_) (fun cdv A outer s H vs Q E hr h => ?_)
  · obtain ⟨p, pts, most, rfl, _⟩ := h
    rfl
  · obtain ⟨p, pts, most, rfl, hp, hp1, hp9, hpm, hm20, q⟩ := h
    refine ⟨_, (pss_cons (ps_set (i := 3) sc_law_web.nd rfl (by first | exact Or.inl rfl | exact Or.inr rfl) (C8.pe_c (ok_law_names (K := K) T) hr (by decide) (by rfl) (pa_cons (pv 0) (pa_cons (pe_op op_add pe_int (C8.pe_c (ok_law_take (K := K) T) hr (by decide) (by rfl) (pa_cons (pv 0) (pa_cons (pv 1) pa_nil)))) pa_nil))))
      (pss_cons (ps_set (i := 4) sc_law_web.nd rfl (by first | exact Or.inl rfl | exact Or.inr rfl) (C8.pe_c (ok_law_take (K := K) T) hr (by decide) (by rfl) (pa_cons (pv 0) (pa_cons pe_int pa_nil))))
      (pss_cons (ps_set (i := 5) sc_law_web.nd rfl (by first | exact Or.inl rfl | exact Or.inr rfl) (pe_lst pa_nil))
      (C8.pss_cut (ps_if (pt_cmpR op_gt (pe_callB (lenK (K := K)) (by rfl) (f_len T) PySem.boot_len (pa_cons (pv 3) pa_nil)) pe_int (nomark _)) (pss_cons (ps_set (i := 6) sc_law_web.nd rfl (by first | exact Or.inl rfl | exact Or.inr rfl) (C8.pe_c (ok_law_mixed (K := K) T) hr (by decide) (by rfl) (pa_cons (pv 0) (pa_cons (pv 3) pa_nil))))
      (C8.pss_cut (ps_if (pt_cmpR op_gt (pv 4) pe_int (nomark _)) (pss_one (ps_setLc (i := 5) (own := [("_law_k", 7)]) (g := gName 7) (by rfl) sc_law_web.nd rfl rfl (sw_true rfl rfl rfl (by decide +kernel)) (pi_range2 (by rfl) (f_range T) (pa_cons (pe_callTy call_int1 (by rfl) (f_int T) (by decide +kernel) (pa_cons (pe_cmpR op_eq (pv 4) pe_int (nomark _)) pa_nil)) (pa_cons (pe_callB (lenK (K := K)) (by rfl) (f_len T) PySem.boot_len (pa_cons (pv 6) pa_nil)) pa_nil))) (blkOk_by (own := [("_law_k", 7)]) (N := ["_law_pot_here", "_law_points", "_law_most", "_law_names_here", "_law_kind", "_law_ties", "_law_row", "_law_k", "_law_turns", "_law_tie_here", "_law_turn", "_law_a", "_law_b"]) (sc := defScope s_law_web) (by decide +kernel)) (fun _ _ _ _ _ => (pg_name (i := 7) sc_law_web.nd rfl (by first | exact Or.inl rfl | exact Or.inr rfl))) (fun _ _ _ _ _ => pts_nil) (fun _ _ _ _ _ => (pe_tup (pa_cons (pe_ix (ixL (K := K)) (pv 6) (pe_op op_sub (pv 7) pe_int) (fun _ _ => rfl)) (pa_cons (pe_ix (ixL (K := K)) (pv 6) (pv 7) (fun _ _ => rfl)) pa_nil)))))) pss_nil)
      (pss_one (ps_for PassesOwn.never rfl (pi_range1 (by rfl) (f_range T) (pa_cons (C8.pe_c (ok_law_take (K := K) T) hr (by decide) (by rfl) (pa_cons (pv 0) (pa_cons (pe_op op_add (pe_op op_sub (pv 2) (pe_callB (lenK (K := K)) (by rfl) (f_len T) PySem.boot_len (pa_cons (pv 5) pa_nil))) pe_int) pa_nil))) pa_nil)) (pg_name (i := 7) sc_law_web.nd rfl (by first | exact Or.inl rfl | exact Or.inr rfl)) (pss_one (ps_expr (pe_bmK (K := K) PySem.F.plainAttrs_list PySem.F.slot_list_append PySem.F.type_list_append mt_append (pv 5) (pa_cons (C8.pe_c (ok_law_tie (K := K) T) hr (by decide) (by rfl) (pa_cons (pv 0) (pa_cons (pv 3) pa_nil))) pa_nil)))))))) pss_nil)
      (pss_cons (ps_setLc (i := 8) (own := [("_law_tie_here", 9)]) (g := gName 9) (by rfl) sc_law_web.nd rfl rfl (sw_true rfl rfl rfl (by decide +kernel)) (pi_list (pv 5)) (blkOk_by (own := [("_law_tie_here", 9)]) (N := ["_law_pot_here", "_law_points", "_law_most", "_law_names_here", "_law_kind", "_law_ties", "_law_row", "_law_k", "_law_turns", "_law_tie_here", "_law_turn", "_law_a", "_law_b"]) (sc := defScope s_law_web) (by decide +kernel)) (fun _ _ _ _ _ => (pg_name (i := 9) sc_law_web.nd rfl (by first | exact Or.inl rfl | exact Or.inr rfl))) (fun _ _ _ _ _ => pts_nil) (fun _ _ _ _ _ => (C8.pe_c (ok_law_take (K := K) T) hr (by decide) (by rfl) (pa_cons (pv 0) (pa_cons pe_int pa_nil)))))
      (pss_cons (ps_setLc (i := 5) (own := [("_law_a", 11), ("_law_b", 12), ("_law_turn", 10)]) (g := gTup K 2 (gCons (gTup K 2 (gCons (gName 11) (gCons (gName 12) gNil))) (gCons (gName 10) gNil))) (by rfl) sc_law_web.nd rfl rfl (sw_true rfl rfl rfl (by decide +kernel)) (pi_zip (by rfl) (f_zip T) (pa_cons (pv 5) (pa_cons (pv 8) pa_nil))) (blkOk_by (own := [("_law_a", 11), ("_law_b", 12), ("_law_turn", 10)]) (N := ["_law_pot_here", "_law_points", "_law_most", "_law_names_here", "_law_kind", "_law_ties", "_law_row", "_law_k", "_law_turns", "_law_tie_here", "_law_turn", "_law_a", "_law_b"]) (sc := defScope s_law_web) (by decide +kernel)) (fun _ _ _ _ _ => (pg_tup (n := 2) rfl (pgs_cons (pg_tup (n := 2) rfl (pgs_cons (pg_name (i := 11) sc_law_web.nd rfl (by first | exact Or.inl rfl | exact Or.inr rfl)) (pgs_cons (pg_name (i := 12) sc_law_web.nd rfl (by first | exact Or.inl rfl | exact Or.inr rfl)) pgs_nil))) (pgs_cons (pg_name (i := 10) sc_law_web.nd rfl (by first | exact Or.inl rfl | exact Or.inr rfl)) pgs_nil)))) (fun _ _ _ _ _ => pts_nil) (fun _ _ _ _ _ => (pe_ix (ixL (K := K)) (pe_lst (pa_cons (pe_tup (pa_cons (pv 11) (pa_cons (pv 12) pa_nil))) (pa_cons (pe_tup (pa_cons (pv 12) (pa_cons (pv 11) pa_nil))) pa_nil))) (pv 10) (fun _ _ => rfl))))
      (pss_one (ps_ret (pe_tup (pa_cons (pv 3) (pa_cons (C8.pe_c (ok_law_mixed (K := K) T) hr (by decide) (by rfl) (pa_cons (pv 0) (pa_cons (pv 5) pa_nil))) pa_nil))))))))))), ?_⟩
    refine ⟨.ref p, rfl, .ref p, rfl, .int pts, rfl, p, pts, rfl, hp, by omega, by omega, fun d H1 d0 d1 k1 p1 => ⟨_, _, rfl, rfl, p, _, rfl, p1, by omega, by omega, fun a ns H2 hns hlen na k2 p2 ea => ?_⟩⟩
    have nap : a ≠ p := p1.ne na
    have fa : H a = none := k1.free nap na
    refine ⟨.ref p, rfl, p, 4, rfl, p2, by decide, by decide, fun kd H3 kd0 kd1 k3 p3 => ⟨Nat.zero_le _, fun b0 nb0 => ?_⟩⟩
    have k13 : Kp p H H3 := (k1.trans k2).trans k3
    have ea3 := k3 a _ nap ea
    have nb0p : b0 ≠ p := p3.ne nb0
    have fb0 : H b0 = none := k13.free nb0p nb0
    have nab0 : b0 ≠ a := (ne_of_none ea3 nb0).symm
    refine ⟨fun σ' H' => ∃ (b : Addr) (ats : Ats) (y6 y7 : Option V), σ' = [some (.ref p), some (.int pts), some (.int most), some (.ref a), some (.int kd), some (.ref b), y6, y7, none, none, none, none, none] ∧
      Kp p H H' ∧ Pot H' p ∧ H' a = some (.lst (ns.map V.str)) ∧ H b = none ∧ b ≠ a ∧ H' b = some (.lst ats.vals) ∧ TupsAt H' ats ∧ (∀ x ∈ ats, TieOk ns x.2) ∧ (ats.length : Int) ≤ most, ?_, ?_⟩
    · have ea4 : upd H3 b0 (.lst []) a = some (.lst (ns.map V.str)) := same_new nb0 _ _ ea3
      have p4 : Pot (upd H3 b0 (.lst [])) p := p3.same (same_new nb0)
      refine ⟨.ref a, rfl, a, _, rfl, .inl (SqL.of ea4), _, _, rfl, rfl, _, rfl, ite2 (fun e => ?_) (fun e => ?_)⟩
      · have hl2 : 2 ≤ ns.length := by
          have e1 : (1 : Int) < ((ns.map V.str).length : Int) := of_decide_eq_true e
          rw [List.length_map] at e1
          omega
        -- row
        refine ⟨.ref p, rfl, .ref a, rfl, p, a, _, rfl, p4, nap, ea4, (by rw [List.length_map]; omega), fun rw' ys H5 hperm nrw k5 p5 erw => ?_⟩
        obtain ⟨row, rfl, hrow⟩ := perm_of_map hperm ns rfl
        have nrwp : rw' ≠ p := p4.ne nrw
        have hrl : row.length = ns.length := hrow.length_eq
        have rnd : row.Nodup := hrow.nodup_iff.mpr hns.nd
        have kH5 : Kp p H H5 := (k13.new nb0).trans k5
        have ea5 := k5 a _ nap ea4
        have eb5 : H5 b0 = some (.lst []) := k5 b0 _ nb0p upd_same
        refine ⟨fun σ' H' => ∃ (b : Addr) (ats : Ats), σ' = [some (.ref p), some (.int pts), some (.int most), some (.ref a), some (.int kd), some (.ref b), some (.ref rw'), none, none, none, none, none, none] ∧
          Kp p H H' ∧ Pot H' p ∧ H' a = some (.lst (ns.map V.str)) ∧ H b = none ∧ b ≠ a ∧ H' b = some (.lst ats.vals) ∧ TupsAt H' ats ∧ (∀ x ∈ ats, TieOk ns x.2) ∧ (ats.length : Int) ≤ most, ?_, ?_⟩
        · refine ⟨.int kd, rfl, _, _, rfl, rfl, _, rfl, ite2 (fun e2 => ?_) (fun e2 => ?_)⟩
          · refine ⟨.int kd, rfl, rfl, .inr ⟨_, rfl, .ref rw', rfl, rw', _, rfl, .inl (SqL.of erw), _, _, rfl, ?_⟩⟩
            obtain ⟨lo, elo, lo0, lo1⟩ : ∃ lo : Int, (if decide (V.int kd = V.int 3) = true then (1 : Int) else 0) = lo ∧ 0 ≤ lo ∧ lo ≤ 1 := by
              refine ⟨_, rfl, ?_, ?_⟩ <;> split <;> omega
            have hrl2 : ((row.map V.str).length : Int) = row.length := by rw [List.length_map]
            refine ⟨⟨?_, ?_, ?_, ?_⟩, ?_⟩
            · rw [elo]
              omega
            · rw [elo]
              omega
            · rw [hrl2]
              omega
            · rw [hrl2]
              omega
            simp only [elo, hrl2]
            intro D nD
            have nDp : D ≠ p := p5.ne nD
            have fD : H D = none := kH5.free nDp nD
            refine lc_range (lo := lo) (n := ((row.length : Int) - lo).toNat) (fun i Hc => ∃ ats : Ats, Kp p H Hc ∧ Pot Hc p ∧ Hc a = some (.lst (ns.map V.str)) ∧ Hc rw' = some (.lst (row.map V.str)) ∧ Hc D = some (.lst ats.vals) ∧ TupsAt Hc ats ∧ (∀ x ∈ ats, TieOk ns x.2) ∧ ats.length = i)
              ⟨[], kH5.new nD, p5.same (same_new nD), same_new nD _ _ ea5, same_new nD _ _ erw, upd_same, TupsAt.nil _, fun x h => by simp at h, rfl⟩ ?_ ?_
            · rintro i Hc hi ⟨ats, kc, pc, eac, erc, eD, hT, hv, hlc⟩
              obtain ⟨x, y, g1, g2, hxy⟩ := ring_at (xs := row) (by omega) rnd (k := lo + i) (by omega) (by omega)
              refine ⟨rfl, .ref rw', rfl, .int (lo + i), rfl, _, _, rfl, rfl, rw', _, _, _, rfl, rfl, SqL.of erc, g1, .ref rw', rfl, .int (lo + i), rfl, rw', _, _, _, rfl, rfl, SqL.of erc, g2, (by show 2 ≤ sizeLine; decide), fun t nt => ⟨_, same_new nt _ _ eD, ?_, ?_⟩⟩
              · rw [Ats.vals_len]
                exact small1000 (by omega)
              · have nDt : D ≠ t := ne_of_none eD nt
                refine ⟨ats ++ [(t, x, y)], (kc.new nt).into fD, (pc.same (same_new nt)).into nDp, ?_, ?_, ?_, ?_, all_snoc hv (hxy.perm hrow), by simp [hlc]⟩
                · rw [upd_ne (ne_of_none ea5 nD)]
                  exact same_new nt _ _ eac
                · rw [upd_ne (ne_of_none erw nD)]
                  exact same_new nt _ _ erc
                · rw [upd_same, Ats.vals_snoc]
                · refine ((hT.same (same_new nt)).upd (same_new nt _ _ eD)).snoc ?_
                  rw [upd_ne nDt.symm]
                  exact upd_same
            · rintro Hc ⟨ats, kc, pc, eac, erc, eD, hT, hv, hlc⟩
              exact ⟨D, ats, rfl, kc, pc, eac, fD, (ne_of_none ea5 nD).symm, eD, hT, hv, by omega⟩
          · exact ⟨b0, [], rfl, kH5, p5, ea5, fb0, nab0, eb5, TupsAt.nil _, fun x h => by simp at h, by show (0 : Int) ≤ most; omega⟩
        · rintro σ' H6 ⟨b, ats, rfl, k6, p6, ea6, fb, nba, eb, hT, hv, hl⟩
          have nbp : b ≠ p := fun z => by
            subst z
            obtain ⟨_, _, _, _, e1⟩ := hp
            rw [fb] at e1
            cases e1
          have hal : ((ats.vals).length : Int) = ats.length := by rw [Ats.vals_len]
          refine ⟨.ref p, rfl, .int most, rfl, .ref b, rfl, b, _, rfl, .inl (SqL.of eb), _, _, rfl, rfl, _, _, rfl, rfl, p, _, rfl, p6, by omega, by omega, fun d H7 d0 d1 k7 p7 => ⟨d, rfl, by omega, by omega, ?_⟩⟩
          refine for_range (lo := 0) (n := d.toNat) (fun i σ H8 => ∃ (bts : Ats) (y7 : Option V), σ = [some (.ref p), some (.int pts), some (.int most), some (.ref a), some (.int kd), some (.ref b), some (.ref rw'), y7, none, none, none, none, none] ∧
            Kp p H H8 ∧ Pot H8 p ∧ H8 a = some (.lst (ns.map V.str)) ∧ H8 b = some (.lst bts.vals) ∧ TupsAt H8 bts ∧ (∀ x ∈ bts, TieOk ns x.2) ∧ bts.length = ats.length + i)
            ⟨ats, none, rfl, k6.trans k7, p7, k7 a _ nap ea6, k7 b _ nbp eb, hT.kp p6 k7, hv, rfl⟩ ?_ ?_
          · rintro i σ H8 hi ⟨bts, y7, rfl, k8, p8, ea8, eb8, hT8, hv8, hl8⟩
            refine ⟨.ref b, rfl, .inl ⟨rfl, _, SqL.of eb8⟩, .ref p, rfl, .ref a, rfl, p, a, ns, rfl, p8, nap, ea8, hns.nd, hl2, by omega, fun t x y H9 hxy nt k9 p9 et => ⟨b, _, _, rfl, rfl, k9 b _ nbp eb8, ?_, ?_⟩⟩
            · rw [Ats.vals_len]
              exact small1000 (by omega)
            · have nbt : b ≠ t := ne_of_none eb8 nt
              refine ⟨bts ++ [(t, x, y)], _, rfl, (k8.trans k9).into fb, p9.into nbp, ?_, ?_, ?_, all_snoc hv8 hxy, by simp [hl8]; omega⟩
              · rw [upd_ne nba.symm]
                exact k9 a _ nap ea8
              · rw [upd_same, Ats.vals_snoc]
              · refine ((hT8.kp p8 k9).upd (k9 b _ nbp eb8)).snoc ?_
                rw [upd_ne nbt.symm]
                exact et
          · rintro σ H8 ⟨bts, y7, rfl, k8, p8, ea8, eb8, hT8, hv8, hl8⟩
            exact ⟨b, bts, _, _, rfl, k8, p8, ea8, fb, nba, eb8, hT8, hv8, by omega⟩
      · exact ⟨b0, [], none, none, rfl, k13.new nb0, p4, ea4, fb0, nab0, upd_same, TupsAt.nil _, fun x h => by simp at h, by show (0 : Int) ≤ most; omega⟩
    · rintro σ' H4 ⟨b, ats, y6, y7, rfl, k4, p4, ea4, fb, nba, eb, hT, hv, hl⟩
      have nbp : b ≠ p := fun z => by
        subst z
        obtain ⟨_, _, _, _, e1⟩ := hp
        rw [fb] at e1
        cases e1
      -- turns
      refine ⟨.ref b, rfl, b, rfl, ⟨_, SqL.of eb⟩, fun D nD => ?_⟩
      have nDp : D ≠ p := p4.ne nD
      have fD : H D = none := k4.free nDp nD
      have nDa : D ≠ a := (ne_of_none ea4 nD).symm
      have nDb : D ≠ b := (ne_of_none eb nD).symm
      refine lc_list (K := K) (a := b) (xs := ats.vals) (fun i Hc => ∃ ts : List Int, Kp p H Hc ∧ Pot Hc p ∧ Hc a = some (.lst (ns.map V.str)) ∧ Hc b = some (.lst ats.vals) ∧ TupsAt Hc ats ∧ Hc D = some (.lst (ts.map V.int)) ∧ ts.length = i ∧ ∀ t ∈ ts, t = 0 ∨ t = 1)
        ⟨[], k4.new nD, p4.same (same_new nD), same_new nD _ _ ea4, same_new nD _ _ eb, hT.same (same_new nD), upd_same, rfl, fun x h => by simp at h⟩
        (fun i Hc _ ⟨_, _, _, _, z, _⟩ => SqL.of z) ?_ ?_
      · rintro i x Hc hi ⟨ts, kc, pc, eac, ebc, hTc, eD, hlc, hv2⟩
        have hil : i < ats.length := by
          have := (List.getElem?_eq_some_iff.mp hi).1
          rw [Ats.vals_len] at this
          exact this
        refine ⟨rfl, .ref p, rfl, p, 2, rfl, pc, by decide, by decide, fun e H9 e0 e1 k9 p9 => ⟨_, k9 D _ nDp eD, ?_, ?_⟩⟩
        · rw [List.length_map]
          exact small1000 (by omega)
        · refine ⟨ts ++ [e], (kc.trans k9).into fD, p9.into nDp, ?_, ?_, ?_, ?_, by simp [hlc], all_snoc hv2 (by omega)⟩
          · rw [upd_ne nDa.symm]
            exact k9 a _ nap eac
          · rw [upd_ne nDb.symm]
            exact k9 b _ nbp ebc
          · exact (hTc.kp pc k9).upd (k9 D _ nDp eD)
          · rw [upd_same, List.map_append]
            rfl
      · rintro Hc ⟨ts, kc, pc, eac, ebc, hTc, eD, hlc, hv2⟩
        rw [Ats.vals_len] at hlc
        -- ties, told either way about
        refine ⟨.ref b, rfl, .ref D, rfl, b, D, _, _, rfl, SqL.of ebc, SqL.of eD, fun E' nE => ?_⟩
        have nEp : E' ≠ p := pc.ne nE
        have fE : H E' = none := kc.free nEp nE
        have nEa : E' ≠ a := (ne_of_none eac nE).symm
        have nEb : E' ≠ b := (ne_of_none ebc nE).symm
        have nED : E' ≠ D := (ne_of_none eD nE).symm
        refine lc_it (walk_zip (K := K) (a := b) (b := D) (xs := ats.vals) (ys := ts.map V.int) (n := ats.length) (by rw [Ats.vals_len, List.length_map]; omega))
          (fun i Hc => ∃ bts : Ats, Kp p H Hc ∧ Pot Hc p ∧ Hc a = some (.lst (ns.map V.str)) ∧ Hc b = some (.lst ats.vals) ∧ TupsAt Hc ats ∧ Hc D = some (.lst (ts.map V.int)) ∧ Hc E' = some (.lst bts.vals) ∧ TupsAt Hc bts ∧ (∀ x ∈ bts, TieOk ns x.2) ∧ bts.length = i)
          ⟨[], kc.new nE, pc.same (same_new nE), same_new nE _ _ eac, same_new nE _ _ ebc, hTc.same (same_new nE), same_new nE _ _ eD, upd_same, TupsAt.nil _, fun x h => by simp at h, rfl⟩
          (fun i Hc _ ⟨_, _, _, _, z1, _, z2, _⟩ => ⟨SqL.of z1, SqL.of z2⟩) ?_ ?_
        · rintro i x Hd Hd' hi ⟨bts, kd', pd, ead, ebd, hTd, eDd, eEd, hTb, hvb, hlb⟩ ⟨T', x1, x2, rfl, nT, rfl, f1, f2⟩
          obtain ⟨⟨A', s1, s2⟩, g1, rfl⟩ := Ats.vals_at f1
          obtain ⟨tt, g2, rfl⟩ := ints_at f2
          have hA : Hd A' = some (.tup [.str s1, .str s2]) := hTd _ (List.mem_of_getElem? g1)
          have hok : TieOk ns (s1, s2) := hv _ (List.mem_of_getElem? g1)
          have htt : tt = 0 ∨ tt = 1 := hv2 _ (List.mem_of_getElem? g2)
          refine ⟨T', _, rfl, SqT.of upd_same, rfl, _, _, rfl, A', _, rfl, SqT.of (same_new nT _ _ hA), rfl, _, _, rfl, _, _, rfl, rfl, _, _, rfl, rfl, rfl, ?_⟩
          refine ⟨.str s1, rfl, .str s2, rfl, (by show 2 ≤ sizeLine; decide), fun t1 n1 => ⟨.str s2, rfl, .str s1, rfl, (by show 2 ≤ sizeLine; decide), fun t2 n2 => ⟨(by show 2 ≤ sizeLine; decide), fun l nl => ?_⟩⟩⟩
          have sA : Same Hd (upd Hd T' (.tup [.ref A', .int tt])) := same_new nT
          have sB := sA.next (o := .tup [.str s1, .str s2]) n1
          have sC := sB.next (o := .tup [.str s2, .str s1]) n2
          have sD := sC.next (o := .lst [.ref t1, .ref t2]) nl
          have et2 := (same_new (o := HO.lst [.ref t1, .ref t2]) nl) _ _ (upd_same (H := upd (upd Hd T' (.tup [.ref A', .int tt])) t1 (.tup [.str s1, .str s2])) (a := t2) (o := .tup [.str s2, .str s1]))
          have et1 := (same_new (o := HO.lst [.ref t1, .ref t2]) nl) _ _ ((same_new (o := HO.tup [.str s2, .str s1]) n2) _ _ (upd_same (H := upd Hd T' (.tup [.ref A', .int tt])) (a := t1) (o := .tup [.str s1, .str s2])))
          have fin : ∀ (t : Addr) (u v : Str), TieOk ns (u, v) → (upd (upd (upd (upd Hd T' (.tup [.ref A', .int tt])) t1 (.tup [.str s1, .str s2])) t2 (.tup [.str s2, .str s1])) l (.lst [.ref t1, .ref t2])) t = some (.tup [.str u, .str v]) →
              ∃ cts : Ats, Kp p H (upd (upd (upd (upd (upd Hd T' (.tup [.ref A', .int tt])) t1 (.tup [.str s1, .str s2])) t2 (.tup [.str s2, .str s1])) l (.lst [.ref t1, .ref t2])) E' (.lst (bts.vals ++ [V.ref t]))) ∧ Pot (upd (upd (upd (upd (upd Hd T' (.tup [.ref A', .int tt])) t1 (.tup [.str s1, .str s2])) t2 (.tup [.str s2, .str s1])) l (.lst [.ref t1, .ref t2])) E' (.lst (bts.vals ++ [V.ref t]))) p ∧
                (upd (upd (upd (upd (upd Hd T' (.tup [.ref A', .int tt])) t1 (.tup [.str s1, .str s2])) t2 (.tup [.str s2, .str s1])) l (.lst [.ref t1, .ref t2])) E' (.lst (bts.vals ++ [V.ref t]))) a = some (.lst (ns.map V.str)) ∧ (upd (upd (upd (upd (upd Hd T' (.tup [.ref A', .int tt])) t1 (.tup [.str s1, .str s2])) t2 (.tup [.str s2, .str s1])) l (.lst [.ref t1, .ref t2])) E' (.lst (bts.vals ++ [V.ref t]))) b = some (.lst ats.vals) ∧
                TupsAt (upd (upd (upd (upd (upd Hd T' (.tup [.ref A', .int tt])) t1 (.tup [.str s1, .str s2])) t2 (.tup [.str s2, .str s1])) l (.lst [.ref t1, .ref t2])) E' (.lst (bts.vals ++ [V.ref t]))) ats ∧ (upd (upd (upd (upd (upd Hd T' (.tup [.ref A', .int tt])) t1 (.tup [.str s1, .str s2])) t2 (.tup [.str s2, .str s1])) l (.lst [.ref t1, .ref t2])) E' (.lst (bts.vals ++ [V.ref t]))) D = some (.lst (ts.map V.int)) ∧
                (upd (upd (upd (upd (upd Hd T' (.tup [.ref A', .int tt])) t1 (.tup [.str s1, .str s2])) t2 (.tup [.str s2, .str s1])) l (.lst [.ref t1, .ref t2])) E' (.lst (bts.vals ++ [V.ref t]))) E' = some (.lst cts.vals) ∧ TupsAt (upd (upd (upd (upd (upd Hd T' (.tup [.ref A', .int tt])) t1 (.tup [.str s1, .str s2])) t2 (.tup [.str s2, .str s1])) l (.lst [.ref t1, .ref t2])) E' (.lst (bts.vals ++ [V.ref t]))) cts ∧
                (∀ x ∈ cts, TieOk ns x.2) ∧ cts.length = i + 1 := fun t u v huv het => by
            generalize hG : upd (upd (upd (upd Hd T' (.tup [.ref A', .int tt])) t1 (.tup [.str s1, .str s2])) t2 (.tup [.str s2, .str s1])) l (.lst [.ref t1, .ref t2]) = G at sD het
            have eEG := sD _ _ eEd
            refine ⟨bts ++ [(t, u, v)], (kd'.trans (Kp.same sD)).into fE, (pd.same sD).into nEp, ?_, ?_, (hTd.same sD).upd eEG, ?_, ?_, ((hTb.same sD).upd eEG).snoc ?_, all_snoc hvb huv, by simp [hlb]⟩
            · rw [upd_ne nEa.symm]
              exact sD _ _ ead
            · rw [upd_ne nEb.symm]
              exact sD _ _ ebd
            · rw [upd_ne nED.symm]
              exact sD _ _ eDd
            · rw [upd_same, Ats.vals_snoc]
            · rw [upd_ne (ne_of het eEG (by intro z; cases z))]
              exact het
          have hsz : bts.vals.length < sizeLine := by
            rw [Ats.vals_len]
            exact small1000 (by omega)
          rcases htt with rfl | rfl
          · exact ⟨.int 0, rfl, l, _, 0, _, rfl, rfl, SqL.of upd_same, rfl, _, sD _ _ eEd, hsz, fin t1 s1 s2 hok et1⟩
          · exact ⟨.int 1, rfl, l, _, 1, _, rfl, rfl, SqL.of upd_same, rfl, _, sD _ _ eEd, hsz, fin t2 s2 s1 ⟨hok.2.1, hok.1, hok.2.2.symm⟩ et2⟩
        · rintro Hd ⟨bts, kd', pd, ead, ebd, hTd, eDd, eEd, hTb, hvb, hlb⟩
          refine ⟨.ref a, rfl, .ref p, rfl, .ref E', rfl, p, E', _, rfl, pd, nEp, eEd, (by rw [Ats.vals_len]; omega), fun r ys H9 hperm nr k9 p9 er => ⟨(by show 2 ≤ sizeLine; decide), fun t nt => ?_⟩⟩
          obtain ⟨cts, rfl, hc⟩ := perm_of_map (f := fun x : Addr × Str × Str => V.ref x.1) hperm bts rfl
          have nrp : r ≠ p := pd.ne nr
          have fr : H r = none := kd'.free nrp nr
          have ntp : t ≠ p := p9.ne nt
          have ea9 := k9 a _ nap ead
          refine q t a r ns cts _ hns (by omega) (by omega) ?_ (fun x hx => hvb x (hc.mem_iff.mp hx)) ((kd'.trans k9).free ntp nt) fa fr (ne_of_none ead nr) ((kd'.trans k9).new nt) (p9.same (same_new nt)) upd_same (same_new nt _ _ ea9) (same_new nt _ _ er) (((hTb.kp pd k9).perm hc).same (same_new nt))
          rw [hc.length_eq]
          omega
end PW

namespace PW
open PySem PySem.Spec PyProof.Rows L2

theorem dk_law_mixed {P : Program} {w : World} {K : PySem.W.Frag} {mg : Str → Option Value} {base : Heap} (T : Top K mg) :
    C8.Cal P w K mg base 2 "_law_mixed" (spP K fsMixed) [] := cal_imp (ok_law_mixed T) sp_mixed
theorem dk_law_tie {P : Program} {w : World} {K : PySem.W.Frag} {mg : Str → Option Value} {base : Heap} (T : Top K mg) :
    C8.Cal P w K mg base 2 "_law_tie" (spP K fsTie) [] := cal_imp (ok_law_tie T) sp_tie
theorem dk_law_web {P : Program} {w : World} {K : PySem.W.Frag} {mg : Str → Option Value} {base : Heap} (T : Top K mg) :
    C8.Cal P w K mg base 3 "_law_web" (spP K fsWeb) [] := cal_imp (ok_law_web T) sp_web
end PW

namespace PW
open PySem PySem.Spec PyProof.Rows L2
/-! ### class Web, by data, whatever is handed in -/
/-- a thing of a known kind -/
def Kn (d : D) : Prop := ∃ a, tyN d = some a ∧ notT d = true
theorem np1 {d : D} (h : Kn d) (r : Bool) : noPotL [(r, d)] = true := by
  obtain ⟨a, h1, h2⟩ := h
  cases d <;> first | rfl | cases h1
theorem np2 {d e : D} (h : Kn d) (r s : Bool) (he : noPotL [(s, e)] = true) : noPotL [(s, e), (r, d)] = true := by
  obtain ⟨a, h1, h2⟩ := h
  unfold noPotL at he ⊢
  rw [List.all_cons, List.all_nil, Bool.and_true] at he
  rw [List.all_cons, he, Bool.true_and]
  cases d <;> first | rfl | cases h1
def smallStr : D → Prop
  | .str z => z.length ≤ 1000
  | _ => True
/-- known kind, no long text -/
structure KnS (d : D) : Prop where
  kn : Kn d
  sm : smallStr d
structure KnR (d : D) : Prop extends KnS d where
  row : ∀ es, d.seq = some es → es.length ≤ 1000 ∧ ∀ e ∈ es, KnS e
structure KnRR (d : D) : Prop extends KnS d where
  rows : ∀ es, d.seq = some es → es.length ≤ 1000 ∧ ∀ e ∈ es, KnR e
def isRowB : D → Bool
  | .lst _ => true
  | .tup _ => true
  | _ => false
theorem row_any {d : D} {a : String} (h : tyN d = some a) : ["list", "tuple"].any (isiN a) = isRowB d := by
  cases d <;> simp [tyN] at h <;> subst h <;> rfl
def nameL (l : List Nat) : Bool := decide (1 ≤ l.length ∧ l.length ≤ 4) && l.all fun c => decide (97 ≤ c ∧ c ≤ 122)
def isNameB : D → Bool
  | .str z => nameL z.cps.toList
  | _ => false
theorem isNameB_iff {x : Str} : isNameB (.str x) = true ↔ IsName x := by
  unfold isNameB nameL
  rw [Bool.and_eq_true, decide_eq_true_iff, List.all_eq_true]
  constructor
  · rintro ⟨h1, h2⟩
    exact ⟨x.cps.toList, by obtain ⟨⟨l⟩⟩ := x; rfl, h1.1, h1.2, fun c hc => (of_decide_eq_true (h2 c hc) : 97 ≤ c ∧ c ≤ 122)⟩
  · rintro ⟨l, rfl, h1, h2, h3⟩
    exact ⟨⟨h1, h2⟩, fun c hc => decide_eq_true (show 97 ≤ c ∧ c ≤ 122 from h3 c hc)⟩
theorem code_dec (c : Nat) : decide (c ∈ ("abcdefghijklmnopqrstuvwxyz" : Str).cps.toList) = decide (97 ≤ c ∧ c ≤ 122) := by
  rw [small_eq, Bool.eq_iff_iff, decide_eq_true_iff, decide_eq_true_iff, List.mem_range']
  constructor
  · rintro ⟨i, h, e⟩
    omega
  · intro h
    exact ⟨c - 97, by omega, by omega⟩
theorem any_beq {l : List Str} {v : Str} : (l.any (· == v)) = true ↔ v ∈ l := by
  rw [List.any_eq_true]
  exact ⟨fun ⟨x, hx, e⟩ => (beq_iff_eq.mp e : x = v) ▸ hx, fun h => ⟨v, h, beq_iff_eq.mpr rfl⟩⟩
theorem onceS_in (val : Nat → Str) : ∀ k i, i < k → val i ∈ onceS val k
  | 0, i, h => by omega
  | k + 1, i, h => by
    unfold onceS
    by_cases e : i = k
    · subst e
      split
      · rename_i z
        exact any_beq.mp z
      · exact List.mem_append_right _ (List.mem_singleton.mpr rfl)
    · have := onceS_in val k i (by omega)
      split
      · exact this
      · exact List.mem_append_left _ this
theorem onceS_full (val : Nat → Str) : ∀ k, (onceS val k).length = k → ∀ i j, i < j → j < k → val i ≠ val j
  | 0, _, i, j, _, h => by omega
  | k + 1, e, i, j, hij, h => by
    have hl := onceS_len val k
    unfold onceS at e
    split at e
    · omega
    · rename_i hn
      rw [List.length_append, List.length_singleton] at e
      by_cases z : j = k
      · subst z
        intro y
        exact hn (any_beq.mpr (y ▸ onceS_in val j i hij))
      · exact onceS_full val k (by omega) i j hij (by omega)
theorem manyS_iff {xs : List Str} : manyS xs = xs.length ↔ xs.Nodup := by
  refine ⟨fun h => ?_, manyS_nodup⟩
  unfold manyS at h
  have := onceS_full _ _ h
  refine List.pairwise_iff_getElem.mpr fun i j hi hj hij z => this i j hij hj ?_
  show xs.getD i Str.empty = xs.getD j Str.empty
  rw [List.getD_eq_getElem?_getD, List.getD_eq_getElem?_getD, List.getElem?_eq_getElem hi, List.getElem?_eq_getElem hj, z]
/-! what they answer -/
def strD : D → Str
  | .str z => z
  | _ => Str.empty
def areNamesB (d : D) : Bool := match d.seq with
  | some es => decide (1 ≤ es.length ∧ es.length ≤ 9) && (es.all isNameB && decide ((es.map strD).Nodup))
  | none => false
theorem names_strs {es : List D} (h : es.all isNameB = true) : es = (es.map strD).map D.str ∧ ∀ x ∈ es.map strD, IsName x := by
  induction es with
  | nil => exact ⟨rfl, fun x hx => by cases hx⟩
  | cons e es ih =>
    rw [List.all_cons, Bool.and_eq_true] at h
    obtain ⟨i1, i2⟩ := ih h.2
    cases e with
    | str z =>
      refine ⟨by rw [List.map_cons, List.map_cons, ← i1]; rfl, fun x hx => ?_⟩
      rcases List.mem_cons.mp hx with rfl | hx
      · exact isNameB_iff.mp h.1
      · exact i2 x hx
    | _ => cases h.1
theorem areNames_iff {d : D} : areNamesB d = true ↔ ∃ ns : List Str, d.seq = some (ns.map D.str) ∧ NamesOk ns ∧ 1 ≤ ns.length ∧ ns.length ≤ 9 := by
  unfold areNamesB
  constructor
  · intro h
    split at h
    · rename_i es hs
      rw [Bool.and_eq_true, Bool.and_eq_true, decide_eq_true_iff, decide_eq_true_iff] at h
      obtain ⟨h1, h2, h3⟩ := h
      obtain ⟨e1, e2⟩ := names_strs h2
      refine ⟨es.map strD, by rw [← e1]; exact hs, ⟨h3, e2⟩, by rw [List.length_map]; exact h1.1, by rw [List.length_map]; exact h1.2⟩
    · cases h
  · rintro ⟨ns, hs, hn, h1, h9⟩
    rw [hs]
    have e : (ns.map D.str).map strD = ns := by
      rw [List.map_map]
      exact List.map_id ns
    show (decide (1 ≤ (ns.map D.str).length ∧ (ns.map D.str).length ≤ 9) && ((ns.map D.str).all isNameB && decide (((ns.map D.str).map strD).Nodup))) = true
    rw [e, List.length_map, decide_eq_true ⟨h1, h9⟩, decide_eq_true hn.nd, Bool.true_and, Bool.and_true, List.all_map]
    exact List.all_eq_true.mpr fun x hx => isNameB_iff.mpr (hn.ok x hx)
def isPairB (ns : List Str) (d : D) : Bool := match d.seq with
  | some [a, b] => isNameB a && (isNameB b && (decide (strD a ∈ ns) && (decide (strD b ∈ ns) && decide (strD a ≠ strD b))))
  | _ => false
theorem isPair_iff {ns : List Str} {d : D} : isPairB ns d = true ↔ ∃ t : Str × Str, d.seq = some [.str t.1, .str t.2] ∧ IsName t.1 ∧ IsName t.2 ∧ TieOk ns t := by
  unfold isPairB
  constructor
  · intro h
    split at h
    · rename_i a b hs
      simp only [Bool.and_eq_true, decide_eq_true_iff] at h
      obtain ⟨h1, h2, h3, h4, h5⟩ := h
      cases a with
      | str x =>
        cases b with
        | str y => exact ⟨(x, y), hs, isNameB_iff.mp h1, isNameB_iff.mp h2, h3, h4, h5⟩
        | _ => cases h2
      | _ => cases h1
    · cases h
  · rintro ⟨t, hs, n1, n2, ok⟩
    rw [hs]
    simp only [Bool.and_eq_true, decide_eq_true_iff]
    exact ⟨isNameB_iff.mpr n1, isNameB_iff.mpr n2, ok.1, ok.2.1, ok.2.2⟩
/-- things that make a web -/
structure WebOf (d1 d2 : D) (ns : List Str) (ts : List (Str × Str)) : Prop where
  ok : OkWeb ns ts
  pts : d1.seq = some (ns.map D.str)
  tie : ∃ es, d2.seq = some es ∧ es.length = ts.length ∧ ∀ (i : Nat) (t : Str × Str), ts[i]? = some t → ∃ e, es[i]? = some e ∧ e.seq = some [.str t.1, .str t.2]
def isTiesB (ns : List Str) (d : D) : Bool := match d.seq with
  | some es => decide (es.length ≤ 20) && es.all (isPairB ns)
  | none => false
def fsIsRow : FS := fun ds Q _ => ∃ d, ds = [d] ∧ Kn d ∧ Q (.bl (isRowB d))
def fsIsName : FS := fun ds Q _ => ∃ d, ds = [d] ∧ KnS d ∧ Q (.bl (isNameB d))
def fsAreNames : FS := fun ds Q _ => ∃ d, ds = [d] ∧ KnR d ∧ Q (.bl (areNamesB d))
def fsIsPair : FS := fun ds Q _ => ∃ ns d1 d, ds = [d1, d] ∧ d1.seq = some (ns.map D.str) ∧ KnR d ∧ Q (.bl (isPairB ns d))
def fsInit : FS := fun ds Q X => ∃ d1 d2, ds = [d1, d2] ∧ KnR d1 ∧ KnRR d2 ∧ (∀ ns ts, WebOf d1 d2 ns ts → Q (webD ns ts)) ∧ ((∀ ns ts, ¬ WebOf d1 d2 ns ts) → X ⟨"NoWeb", []⟩)
theorem ok_is_row {P : Program} {w : World} {K : PySem.W.Frag} {mg : Str → Option Value} {base : Heap} (T : Top K mg) :
    C8.Cal P w K mg base 1 "is_row" (sp0 K fsIsRow) [] := by
  refine cal_of (fd_is_row T) (g_is_row T) sc_is_row bi_is_row (fun vs H Q E h => ?_) (fun cdv A outer s H vs Q E hr h => ?_)
  · obtain ⟨ds, R, Xd, h1, h2, _⟩ := h
    obtain ⟨d, rfl, _⟩ := h2
    exact h1.len
  · refine ⟨_, (pss_one (ps_ret (pe_callB (isiKT (K := K)) (by rfl) (f_isinstance T) (by decide +kernel) (pa_cons (pv 0) (pa_cons (pe_tup (pa_cons (pe_bltn (v := .ty "list") (by rfl) (f_list T) (by decide +kernel) rfl) (pa_cons (pe_bltn (v := .ty "tuple") (by rfl) (f_tuple T) (by decide +kernel) rfl) pa_nil))) pa_nil))))), ?_⟩
    refine run0 (N := ["thing"]) inferInstance h (fun ds R Xd h => ?_)
    obtain ⟨d, rfl, hd, q⟩ := h
    have hxs := T.xs
    obtain ⟨a, h1, h2⟩ := hd
    walk_at "a"
    refine ⟨a, _, h1, h2, rfl, rfl, ?_⟩
    walk_at "a"
    rw [row_any h1]
    exact q
theorem ok_is_name {P : Program} {w : World} {K : PySem.W.Frag} {mg : Str → Option Value} {base : Heap} (T : Top K mg) :
    C8.Cal P w K mg base 1 "is_name" (sp0 K fsIsName) [] := by
  refine cal_of (fd_is_name T) (g_is_name T) sc_is_name bi_is_name (fun vs H Q E h => ?_) (fun cdv A outer s H vs Q E hr h => ?_)
  · obtain ⟨ds, R, Xd, h1, h2, _⟩ := h
    obtain ⟨d, rfl, _⟩ := h2
    exact h1.len
  · refine ⟨_, (pss_cons (ps_if (PW.pt (pw_or (pt_not (pt_val (pe_callB (isiK1 (K := K)) (by rfl) (f_isinstance T) (by decide +kernel) (pa_cons (pv 0) (pa_cons (pe_bltn (v := .ty "str") (by rfl) (f_str T) (by decide +kernel) rfl) pa_nil))))) (pw_or1 (pt_not (pt_chain op_le op_le pe_int (pe_callB (gLen (K := K)) (by rfl) (f_len T) PySem.boot_len (pa_cons (pv 0) pa_nil)) (C8.pe_gc (by rfl) (c_MOST_LETTERS T))))))) (pss_one (ps_ret pe_bl)) pss_nil)
      (pss_one (ps_ret (pe_callB (allK (K := K) rfl) (by rfl) (f_all T) (by decide +kernel) (pa_cons (pe_lc (own := [("sign", 1)]) (g := gName 1) (by rfl) sc_is_name.nd (pi_G (K := K) (pv 0)) (blkOk_by (own := [("sign", 1)]) (N := ["thing", "sign"]) (sc := defScope s_is_name) (by decide +kernel)) (fun _ _ _ _ _ => (pg_name (i := 1) sc_is_name.nd rfl (by first | exact Or.inl rfl | exact Or.inr rfl))) (fun _ _ _ _ _ => pts_nil) (fun _ _ _ _ _ => (pe_cmpR (gIn (K := K) (u65 hr)) (pv 1) (C8.pe_gc (by rfl) (c_SMALL T)) (by with_unfolding_all rfl)))) pa_nil))))), ?_⟩
    refine run0 (N := ["thing", "sign"]) inferInstance h (fun ds R Xd h => ?_)
    obtain ⟨d, rfl, hd, q⟩ := h
    have hxs := T.xs
    obtain ⟨⟨a, h1, h2⟩, hz⟩ := hd
    cases d with
    | str z =>
      have hz : z.length ≤ 1000 := hz
      have el : z.length = z.cps.toList.length := by obtain ⟨⟨l⟩⟩ := z; rfl
      walk_at "a"
      refine ifC_d (fun e => ?_) fun e => ?_
      · walk_at "a"
        refine ifC_nd (fun e2 => ?_) fun e2 => ?_
        · have : isNameB (.str z) = false := by
            show nameL z.cps.toList = false
            unfold nameL
            rw [decide_eq_false (by omega), Bool.false_and]
          rw [this] at q
          walk_at "a"
          exact q
        · walk_at "a"
          refine lc_map _ z.cps.toList (fun c => .bl (decide (97 ≤ c ∧ c ≤ 122))) (fun c hc k1 k2 h => ?_) ?_
          · walk_at "a"
            refine inC_sign ?_
            rw [code_dec]
            exact ⟨rfl, h⟩
          walk_at "a"
          have : isNameB (.str z) = (z.cps.toList.map fun c => decide (97 ≤ c ∧ c ≤ 122)).all id := by
            show nameL z.cps.toList = _
            unfold nameL
            rw [decide_eq_true (by omega), Bool.true_and, List.all_map]
            rfl
          rw [← this]
          exact q
      · have : isNameB (.str z) = false := by
          show nameL z.cps.toList = false
          unfold nameL
          rw [decide_eq_false (by omega), Bool.false_and]
        rw [this] at q
        walk_at "a"
        exact q
    | _ => first
      | (cases h1; done)
      | (cases h2; done)
      | (walk_at "a"
         exact q)
theorem KnS.np {d : D} (h : KnS d) (r : Bool) : noPotL [(r, d)] = true := np1 h.kn r
theorem row_kinds {d : D} {es : List D} (h : d.seq = some es) : d = .lst es ∨ d = .tup es := by
  cases d <;> cases h <;> simp
theorem seq_none {d : D} (h : d.seq = none) : isRowB d = false := by
  cases d <;> first | rfl | cases h
theorem areNames_none {d : D} (h : d.seq = none) : areNamesB d = false := by
  unfold areNamesB
  rw [h]
theorem ok_are_names {P : Program} {w : World} {K : PySem.W.Frag} {mg : Str → Option Value} {base : Heap} (T : Top K mg) :
    C8.Cal P w K mg base 2 "are_names" (sp0 K fsAreNames) [] := by
  refine cal_of (fd_are_names T) (g_are_names T) sc_are_names bi_are_names (fun vs H Q E h => ?_) (fun cdv A outer s H vs Q E hr h => ?_)
  · obtain ⟨ds, R, Xd, h1, h2, _⟩ := h
    obtain ⟨d, rfl, _⟩ := h2
    exact h1.len
  · refine ⟨_, (pss_cons (ps_if (PW.pt (pw_or (pt_not (pt_val (C8.pe_c (ok_is_row (K := K) T) hr (by decide) (by rfl) (pa_cons (pv 0) pa_nil)))) (pw_or (pt_not (pt_chain op_le op_le pe_int (pe_callB (gLen (K := K)) (by rfl) (f_len T) PySem.boot_len (pa_cons (pv 0) pa_nil)) (C8.pe_gc (by rfl) (c_MOST_POINTS T)))) (pw_or1 (pt_not (pt_val (pe_callB (allK (K := K) rfl) (by rfl) (f_all T) (by decide +kernel) (pa_cons (pe_lc (own := [("one", 1)]) (g := gName 1) (by rfl) sc_are_names.nd (pi_G (K := K) (pv 0)) (blkOk_by (own := [("one", 1)]) (N := ["thing", "one"]) (sc := defScope s_are_names) (by decide +kernel)) (fun _ _ _ _ _ => (pg_name (i := 1) sc_are_names.nd rfl (by first | exact Or.inl rfl | exact Or.inr rfl))) (fun _ _ _ _ _ => pts_nil) (fun _ _ _ _ _ => (C8.pe_c (ok_is_name (K := K) T) hr (by decide) (by rfl) (pa_cons (pv 1) pa_nil)))) pa_nil)))))))) (pss_one (ps_ret pe_bl)) pss_nil)
      (pss_one (ps_ret (pe_cmpR (gEq (K := K) hr.units) (pe_lenSetG (K := K) (by rfl) (f_len T) (by rfl) (f_set T) (pv 0)) (pe_callB (gLen (K := K)) (by rfl) (f_len T) PySem.boot_len (pa_cons (pv 0) pa_nil)) (nomark _))))), ?_⟩
    refine run0 (N := ["thing", "one"]) inferInstance h (fun ds R Xd h => ?_)
    obtain ⟨d, rfl, hd, q⟩ := h
    have hxs := T.xs
    walk_at "a"
    refine ⟨hd.np _, callC_of ⟨d, rfl, hd.kn, ?_⟩⟩
    cases hs : d.seq with
    | none =>
      rw [seq_none hs]
      rw [areNames_none hs] at q
      walk_at "a"
      exact q
    | some es =>
      obtain ⟨hl, hk⟩ := hd.row es hs
      have ea : areNamesB d = (decide (1 ≤ es.length ∧ es.length ≤ 9) && (es.all isNameB && decide ((es.map strD).Nodup))) := by
        unfold areNamesB
        rw [hs]
      rw [ea] at q
      rcases row_kinds hs with rfl | rfl
      all_goals
        walk_at "a"
        refine ifC_d (fun e => ?_) fun e => ?_
        · walk_at "a"
          refine ifC_nd (fun e2 => ?_) fun e2 => ?_
          · rw [decide_eq_false (by omega), Bool.false_and] at q
            walk_at "a"
            exact q
          · rw [decide_eq_true (by omega), Bool.true_and] at q
            walk_at "a"
            refine lc_map _ es (fun e => .bl (isNameB e)) (fun x hx k1 k2 h => ?_) ?_
            · walk_at "a"
              refine ⟨(hk x hx).np _, callC_of ⟨x, rfl, hk x hx, ?_⟩⟩
              walk_at "a"
              exact h
            walk_at "a"
            rw [all_fn]
            cases ha : es.all isNameB with
            | false =>
              rw [ha, Bool.false_and] at q
              walk_at "a"
              exact q
            | true =>
              rw [ha, Bool.true_and] at q
              obtain ⟨e1, _⟩ := names_strs ha
              walk_at "a"
              have ese : strsOf es = some (es.map strD) := by
                conv => lhs; rw [e1]
                exact strsOf_map _
              first
                | refine .inl ⟨es.map strD, ese, by rw [List.length_map]; omega, ?_⟩
                | refine ⟨es.map strD, ese, by rw [List.length_map]; omega, ?_⟩
              walk_at "a"
              have em : decide (((manyS (es.map strD) : Nat) : Int) = ((es.length : Nat) : Int)) = decide ((es.map strD).Nodup) := by
                rw [Bool.eq_iff_iff, decide_eq_true_iff, decide_eq_true_iff, ← manyS_iff, List.length_map]
                omega
              rw [show negB false (decide (((manyS (es.map strD) : Nat) : Int) = ((es.length : Nat) : Int))) = decide ((es.map strD).Nodup) from em]
              exact q
        · rw [decide_eq_false (by omega), Bool.false_and] at q
          walk_at "a"
          exact q
theorem isPair_none {ns : List Str} {d : D} (h : d.seq = none) : isPairB ns d = false := by
  unfold isPairB
  rw [h]
theorem isPair_len {ns : List Str} {d : D} {es : List D} (h : d.seq = some es) (hl : es.length ≠ 2) : isPairB ns d = false := by
  unfold isPairB
  rw [h]
  split
  · rename_i e
    cases e
    exact absurd rfl hl
  · rfl
theorem inC_row {s : Str} {ns : List Str} {d : D} {k : Bool → Prop} (e : d.seq = some (ns.map D.str)) (h : k (decide (s ∈ ns))) : inC (.str s) d k := by
  rcases row_kinds e with rfl | rfl
  · exact inC_strs h
  · exact inC_strsT h
theorem ok_is_pair {P : Program} {w : World} {K : PySem.W.Frag} {mg : Str → Option Value} {base : Heap} (T : Top K mg) :
    C8.Cal P w K mg base 2 "is_pair" (sp0 K fsIsPair) [] := by
  refine cal_of (fd_is_pair T) (g_is_pair T) sc_is_pair bi_is_pair (fun vs H Q E h => ?_) (fun cdv A outer s H vs Q E hr h => ?_)
  · obtain ⟨ds, R, Xd, h1, h2, _⟩ := h
    obtain ⟨ns, d1, d, rfl, _⟩ := h2
    exact h1.len
  · refine ⟨_, (pss_cons (ps_if (PW.pt (pw_or (pt_not (pt_val (C8.pe_c (ok_is_row (K := K) T) hr (by decide) (by rfl) (pa_cons (pv 1) pa_nil)))) (pw_or (pt_cmpR (gNe (K := K) hr.units) (pe_callB (gLen (K := K)) (by rfl) (f_len T) PySem.boot_len (pa_cons (pv 1) pa_nil)) pe_int (nomark _)) (pw_or1 (pt_not (pt_val (pe_callB (allK (K := K) rfl) (by rfl) (f_all T) (by decide +kernel) (pa_cons (pe_lc (own := [("one", 2)]) (g := gName 2) (by rfl) sc_is_pair.nd (pi_G (K := K) (pv 1)) (blkOk_by (own := [("one", 2)]) (N := ["points", "thing", "one"]) (sc := defScope s_is_pair) (by decide +kernel)) (fun _ _ _ _ _ => (pg_name (i := 2) sc_is_pair.nd rfl (by first | exact Or.inl rfl | exact Or.inr rfl))) (fun _ _ _ _ _ => pts_nil) (fun _ _ _ _ _ => (C8.pe_c (ok_is_name (K := K) T) hr (by decide) (by rfl) (pa_cons (pv 2) pa_nil)))) pa_nil)))))))) (pss_one (ps_ret pe_bl)) pss_nil)
      (pss_one (ps_ret (pe_and (pe_cmpR (gIn (K := K) (u65 hr)) (pe_ix (gIx (K := K)) (pv 1) pe_int (fun _ _ => rfl)) (pv 0) (by with_unfolding_all rfl)) (pe_and (pe_cmpR (gIn (K := K) (u65 hr)) (pe_ix (gIx (K := K)) (pv 1) pe_int (fun _ _ => rfl)) (pv 0) (by with_unfolding_all rfl)) (pe_one (pe_cmpR (gNe (K := K) hr.units) (pe_ix (gIx (K := K)) (pv 1) pe_int (fun _ _ => rfl)) (pe_ix (gIx (K := K)) (pv 1) pe_int (fun _ _ => rfl)) (nomark _)))))))), ?_⟩
    refine run0 (N := ["points", "thing", "one"]) inferInstance h (fun ds R Xd h => ?_)
    obtain ⟨ns, d1, d, rfl, h1, hd, q⟩ := h
    have hxs := T.xs
    walk_at "a"
    refine ⟨hd.np _, callC_of ⟨d, rfl, hd.kn, ?_⟩⟩
    cases hs : d.seq with
    | none =>
      rw [seq_none hs]
      rw [isPair_none hs] at q
      walk_at "a"
      exact q
    | some es =>
      obtain ⟨hl, hk⟩ := hd.row es hs
      rcases row_kinds hs with rfl | rfl
      all_goals
        walk_at "a"
        refine ifC_nd (fun e => ?_) fun e => ?_
        · rw [isPair_len hs (by omega)] at q
          walk_at "a"
          exact q
        · have e : es.length = 2 := by omega
          obtain ⟨a, b, rfl⟩ : ∃ a b, es = [a, b] := by
            match es, e with
            | [a, b], _ => exact ⟨a, b, rfl⟩
          walk_at "a"
          refine lc_map _ [a, b] (fun e => .bl (isNameB e)) (fun x hx k1 k2 h => ?_) ?_
          · walk_at "a"
            refine ⟨(hk x hx).np _, callC_of ⟨x, rfl, hk x hx, ?_⟩⟩
            walk_at "a"
            exact h
          walk_at "a"
          rw [all_fn]
          have q : R (.bl (isNameB a && (isNameB b && (decide (strD a ∈ ns) && (decide (strD b ∈ ns) && decide (strD a ≠ strD b)))))) := q
          cases ha : isNameB a with
          | false =>
            rw [ha, Bool.false_and] at q
            rw [show [a, b].all isNameB = false by rw [List.all_cons, ha]; rfl]
            walk_at "a"
            exact q
          | true =>
            cases hb : isNameB b with
            | false =>
              rw [ha, hb, Bool.false_and] at q
              rw [show [a, b].all isNameB = false by rw [List.all_cons, List.all_cons, ha, hb]; rfl]
              walk_at "a"
              exact q
            | true =>
              rw [ha, hb, Bool.true_and, Bool.true_and] at q
              rw [show [a, b].all isNameB = true by rw [List.all_cons, List.all_cons, ha, hb]; rfl]
              cases a with
              | str x =>
                cases b with
                | str y =>
                  walk_at "a"
                  refine inC_row h1 ?_
                  refine ifC_d (fun e1 => ?_) fun e1 => ?_
                  · walk_at "a"
                    refine inC_row h1 ?_
                    refine ifC_d (fun e2 => ?_) fun e2 => ?_
                    · walk_at "a"
                      have : (decide (strD (.str x) ∈ ns) && (decide (strD (.str y) ∈ ns) && decide (strD (.str x) ≠ strD (.str y)))) = !decide (x = y) := by
                        rw [show decide (strD (.str x) ∈ ns) = true from decide_eq_true e1, show decide (strD (.str y) ∈ ns) = true from decide_eq_true e2, Bool.true_and, Bool.true_and]
                        exact decide_not
                      rw [this] at q
                      exact q
                    · rw [show decide (strD (.str y) ∈ ns) = false from decide_eq_false e2, Bool.false_and, Bool.and_false] at q
                      walk_at "a"
                      exact q
                  · rw [show decide (strD (.str x) ∈ ns) = false from decide_eq_false e1, Bool.false_and] at q
                    walk_at "a"
                    exact q
                | _ => cases hb
              | _ => cases ha
theorem webOf_of {d1 d2 : D} {ns : List Str} (h1 : d1.seq = some (ns.map D.str)) (hn : NamesOk ns) (n1 : 1 ≤ ns.length) (n9 : ns.length ≤ 9) {es : List D} (h2 : d2.seq = some es) (hl : es.length ≤ 20) (hp : es.all (isPairB ns) = true) :
    ∃ ts, WebOf d1 d2 ns ts ∧ es.map (fun e => D.tup (e.seq.getD [])) = ts.map tieD := by
  have ex : ∀ es : List D, es.all (isPairB ns) = true → ∃ ts : List (Str × Str), (∀ t ∈ ts, TieOk ns t) ∧ es.length = ts.length ∧ (∀ (i : Nat) (t : Str × Str), ts[i]? = some t → ∃ e, es[i]? = some e ∧ e.seq = some [.str t.1, .str t.2]) ∧ es.map (fun e => D.tup (e.seq.getD [])) = ts.map tieD := by
    intro es
    induction es with
    | nil => exact fun _ => ⟨[], (fun t ht => by cases ht), rfl, (fun i t h => by cases h), rfl⟩
    | cons e es ih =>
      intro h
      rw [List.all_cons, Bool.and_eq_true] at h
      obtain ⟨t, ht, _, _, ok⟩ := isPair_iff.mp h.1
      obtain ⟨ts, i1, i2, i3, i4⟩ := ih h.2
      refine ⟨t :: ts, fun u hu => ?_, by rw [List.length_cons, List.length_cons, i2], fun i u hu => ?_, ?_⟩
      · rcases List.mem_cons.mp hu with rfl | hu
        · exact ok
        · exact i1 u hu
      · cases i with
        | zero =>
          cases hu
          exact ⟨e, rfl, ht⟩
        | succ i => exact i3 i u hu
      · rw [List.map_cons, List.map_cons, i4, ht]
        rfl
  obtain ⟨ts, t1, t2, t3, t4⟩ := ex es hp
  exact ⟨ts, ⟨⟨hn, n1, n9, by omega, t1⟩, h1, es, h2, t2, t3⟩, t4⟩
theorem webOf_no1 {d1 d2 : D} (h : areNamesB d1 = false) (ns : List Str) (ts : List (Str × Str)) : ¬ WebOf d1 d2 ns ts := fun w => by
  have := areNames_iff.mpr ⟨ns, w.pts, w.ok.names, w.ok.n1, w.ok.n9⟩
  rw [h] at this
  cases this
theorem webOf_no2 {d1 d2 : D} {ms : List Str} (h1 : d1.seq = some (ms.map D.str)) (h : isTiesB ms d2 = false) (ns : List Str) (ts : List (Str × Str)) : ¬ WebOf d1 d2 ns ts := fun w => by
  have e : ns = ms := by
    have := w.pts
    rw [h1] at this
    exact (map_inj (fun a b z => by cases z; rfl) (Option.some.inj this)).symm
  subst e
  obtain ⟨es, h2, hl, ht⟩ := w.tie
  have : isTiesB ns d2 = true := by
    unfold isTiesB
    rw [h2]
    have := w.ok.t20
    show (decide (es.length ≤ 20) && es.all (isPairB ns)) = true
    rw [show decide (es.length ≤ 20) = true from decide_eq_true (by omega), Bool.true_and]
    refine List.all_eq_true.mpr fun e he => ?_
    obtain ⟨i, hi⟩ := List.getElem?_of_mem he
    have hil : i < ts.length := by
      rw [← hl]
      exact (List.getElem?_eq_some_iff.mp hi).1
    obtain ⟨e', he', hs⟩ := ht i _ (List.getElem?_eq_getElem hil)
    rw [hi] at he'
    cases he'
    have tok := w.ok.ties _ (List.getElem_mem hil)
    exact isPair_iff.mpr ⟨_, hs, w.ok.names.ok _ tok.1, w.ok.names.ok _ tok.2.1, tok⟩
  rw [h] at this
  cases this
theorem seq_tup {e : D} {es : List D} (h : e.seq = some es) : D.tup (e.seq.getD []) = .tup es := by rw [h]; rfl
theorem ok_Web_init {P : Program} {w : World} {K : PySem.W.Frag} {mg : Str → Option Value} {base : Heap} (T : Top K mg) :
    MakX P w K mg base 3 "Web" (He.ga K "Web") (spI K "Web" fsInit) := by
  refine makX_of (mk_Web T) (g_Web T) (fd_Web_init T) sc_Web_init bi_Web_init (fun vs H Q E h => ?_) (fun cdv A outer s H vs Q E hr h => ?_)
  · obtain ⟨x, dx, us, ds, R, Xd, rfl, _, h1, h2, _⟩ := h
    obtain ⟨d1, d2, rfl, _⟩ := h2
    exact congrArg (· + 1) h1.len
  · refine ⟨_, (pss_cons (ps_if (pt_not (pt_val (C8.pe_c (ok_are_names (K := K) T) hr (by decide) (by rfl) (pa_cons (pv 1) pa_nil)))) (pss_one (ps_rz rfl (L2N.takes_of rfl rfl rfl rfl) (xo_NoWeb (K := K) T) (g_NoWeb (K := K) T) (by rfl))) pss_nil)
      (pss_cons (ps_if (PW.pt (pw_or (pt_not (pt_val (C8.pe_c (ok_is_row (K := K) T) hr (by decide) (by rfl) (pa_cons (pv 2) pa_nil)))) (pw_or (pt_cmpR op_gt (pe_callB (gLen (K := K)) (by rfl) (f_len T) PySem.boot_len (pa_cons (pv 2) pa_nil)) (C8.pe_gc (by rfl) (c_MOST_TIES T)) (nomark _)) (pw_or1 (pt_not (pt_val (pe_callB (allK (K := K) rfl) (by rfl) (f_all T) (by decide +kernel) (pa_cons (pe_lc (own := [("tie", 3)]) (g := gName 3) (by rfl) sc_Web_init.nd (pi_G (K := K) (pv 2)) (blkOk_by (own := [("tie", 3)]) (N := ["self", "points", "ties", "tie"]) (sc := defScope s_Web_init) (by decide +kernel)) (fun _ _ _ _ _ => (pg_name (i := 3) sc_Web_init.nd rfl (by first | exact Or.inl rfl | exact Or.inr rfl))) (fun _ _ _ _ _ => pts_nil) (fun _ _ _ _ _ => (C8.pe_c (ok_is_pair (K := K) T) hr (by decide) (by rfl) (pa_cons (pv 1) (pa_cons (pv 3) pa_nil))))) pa_nil)))))))) (pss_one (ps_rz rfl (L2N.takes_of rfl rfl rfl rfl) (xo_NoWeb (K := K) T) (g_NoWeb (K := K) T) (by rfl))) pss_nil)
      (pss_cons (ps_fldK (K := K) (pv 0) (pe_callTy (gList (K := K) rfl) (by rfl) (f_list T) (by decide +kernel) (pa_cons (pv 1) pa_nil)) rfl)
      (pss_one (ps_fldK (K := K) (pv 0) (pe_lc (own := [("tie", 3)]) (g := gName 3) (by rfl) sc_Web_init.nd (pi_G (K := K) (pv 2)) (blkOk_by (own := [("tie", 3)]) (N := ["self", "points", "ties", "tie"]) (sc := defScope s_Web_init) (by decide +kernel)) (fun _ _ _ _ _ => (pg_name (i := 3) sc_Web_init.nd rfl (by first | exact Or.inl rfl | exact Or.inr rfl))) (fun _ _ _ _ _ => pts_nil) (fun _ _ _ _ _ => (pe_callTy (tupK (K := K)) (by rfl) (f_tuple T) (by decide +kernel) (pa_cons (pv 3) pa_nil)))) rfl))))), ?_⟩
    refine runIX (N := ["self", "points", "ties", "tie"]) inferInstance h (fun ds R Xd h => ?_)
    obtain ⟨d1, d2, rfl, k1, k2, q, qx⟩ := h
    have hxs := T.xs
    walk_at "a"
    refine ⟨k1.np _, callC_of ⟨d1, rfl, k1, ?_⟩⟩
    cases ha : areNamesB d1 with
    | false =>
      walk_at "a"
      exact qx (webOf_no1 ha)
    | true =>
      obtain ⟨ns, h1, hn, n1, n9⟩ := areNames_iff.mp ha
      walk_at "a"
      refine ⟨k2.np _, callC_of ⟨d2, rfl, k2.kn, ?_⟩⟩
      cases hs : d2.seq with
      | none =>
        rw [seq_none hs]
        walk_at "a"
        exact qx (webOf_no2 h1 (by unfold isTiesB; rw [hs]))
      | some es =>
        obtain ⟨hl, hk⟩ := k2.rows es hs
        rcases row_kinds hs with rfl | rfl
        all_goals
          walk_at "a"
          refine ifC_d (fun e => ?_) fun e => ?_
          · walk_at "a"
            refine qx (webOf_no2 h1 ?_)
            show (decide (es.length ≤ 20) && es.all (isPairB ns)) = false
            rw [decide_eq_false (by omega), Bool.false_and]
          · walk_at "a"
            refine lc_map _ es (fun e => .bl (isPairB ns e)) (fun x hx k3 k4 h => ?_) ?_
            · walk_at "a"
              refine ⟨?_, callC_of ⟨ns, d1, x, rfl, h1, hk x hx, ?_⟩⟩
              · exact np2 (hk x hx).kn _ _ (k1.np _)
              walk_at "a"
              exact h
            walk_at "a"
            rw [all_fn]
            cases hp : es.all (isPairB ns) with
            | false =>
              walk_at "a"
              refine qx (webOf_no2 h1 ?_)
              show (decide (es.length ≤ 20) && es.all (isPairB ns)) = false
              rw [hp, Bool.and_false]
            | true =>
              obtain ⟨ts, wo, et⟩ := webOf_of h1 hn n1 n9 hs (by omega) hp
              have each : ∀ x ∈ es, ∃ t : Str × Str, x.seq = some [.str t.1, .str t.2] := fun x hx => by
                obtain ⟨t, ht, _⟩ := isPair_iff.mp (List.all_eq_true.mp hp x hx)
                exact ⟨t, ht⟩
              rcases row_kinds h1 with rfl | rfl
              all_goals
                walk_at "a"
                refine ⟨⟨cl_Web T, na_Web_own_points T⟩, ?_⟩
                walk_at "a"
                refine lc_map _ es (fun e => .tup (e.seq.getD [])) (fun x hx k3 k4 h => ?_) ?_
                · obtain ⟨t, ht⟩ := each x hx
                  rw [seq_tup ht] at h
                  rcases row_kinds ht with rfl | rfl
                  all_goals first
                    | (walk_at "a"
                       exact h)
                    | (generalize (D.tup es).imm = fl
                       cases fl
                       all_goals
                         walk_at "a"
                         exact h)
                rw [et]
                walk_at "a"
                refine ⟨⟨cl_Web T, na_Web_own_ties T⟩, (by decide : 1 < 1000), ?_⟩
                walk_at "w"
                refine ⟨?_, rfl, ?_⟩
                · simp [reg, D.pim, immL_str]
                · have e : putFD "own_ties" (D.lst (ts.map tieD)) (putFD "own_points" (D.lst (ns.map D.str)) []) = ([("own_points", nmsD ns), ("own_ties", tiesD ts)] : List (Str × D)) := by
                    show (if ("own_points" : Str) = "own_ties" then _ else _) = _
                    rw [if_neg wf_ne]
                    rfl
                  rw [e]
                  exact q ns ts wo
theorem ok_Web_points {P : Program} {w : World} {K : PySem.W.Frag} {mg : Str → Option Value} {base : Heap} (T : Top K mg) :
    C8.Met P w K mg base 1 (He.ga K "Web") "points" (sp0 K fsPoints) [] := by
  refine met_of (cl_Web T) (me_Web_points T) (fd_Web_points T) sc_Web_points bi_Web_points (fun vs H Q E h => ?_) (fun cdv A outer s H vs Q E hr h => ?_)
  · obtain ⟨ds, R, Xd, h1, h2, _⟩ := h
    obtain ⟨ns, ts, rfl, _⟩ := h2
    exact h1.len
  · refine ⟨_, (pss_one (ps_ret (pe_callTy (gList (K := K) rfl) (by rfl) (f_list T) (by decide +kernel) (pa_cons (pe_fldK (K := K) (pv 0) rfl) pa_nil)))), ?_⟩
    refine run0 (N := ["self"]) inferInstance h (fun ds R Xd h => ?_)
    obtain ⟨ns, ts, rfl, q⟩ := h
    have hxs := T.xs
    walk_at "d"
    refine ⟨⟨cl_Web T, na_Web_own_points T⟩, ?_⟩
    walk_at "d"
    exact q
theorem ok_Web_ties {P : Program} {w : World} {K : PySem.W.Frag} {mg : Str → Option Value} {base : Heap} (T : Top K mg) :
    C8.Met P w K mg base 1 (He.ga K "Web") "ties" (sp0 K fsTies) [] := by
  refine met_of (cl_Web T) (me_Web_ties T) (fd_Web_ties T) sc_Web_ties bi_Web_ties (fun vs H Q E h => ?_) (fun cdv A outer s H vs Q E hr h => ?_)
  · obtain ⟨ds, R, Xd, h1, h2, _⟩ := h
    obtain ⟨ns, ts, rfl, _⟩ := h2
    exact h1.len
  · refine ⟨_, (pss_one (ps_ret (pe_callTy (gList (K := K) rfl) (by rfl) (f_list T) (by decide +kernel) (pa_cons (pe_fldK (K := K) (pv 0) rfl) pa_nil)))), ?_⟩
    refine run0 (N := ["self"]) inferInstance h (fun ds R Xd h => ?_)
    obtain ⟨ns, ts, rfl, q⟩ := h
    have hxs := T.xs
    walk_at "d"
    refine ⟨⟨cl_Web T, na_Web_own_ties T⟩, ?_⟩
    walk_at "d"
    exact q
theorem ok_Web_many {P : Program} {w : World} {K : PySem.W.Frag} {mg : Str → Option Value} {base : Heap} (T : Top K mg) :
    C8.Met P w K mg base 1 (He.ga K "Web") "many" (sp0 K fsMany) [] := by
  refine met_of (cl_Web T) (me_Web_many T) (fd_Web_many T) sc_Web_many bi_Web_many (fun vs H Q E h => ?_) (fun cdv A outer s H vs Q E hr h => ?_)
  · obtain ⟨ds, R, Xd, h1, h2, _⟩ := h
    obtain ⟨ns, ts, rfl, _⟩ := h2
    exact h1.len
  · refine ⟨_, (pss_one (ps_ret (pe_callB (gLen (K := K)) (by rfl) (f_len T) PySem.boot_len (pa_cons (pe_fldK (K := K) (pv 0) rfl) pa_nil)))), ?_⟩
    refine run0 (N := ["self"]) inferInstance h (fun ds R Xd h => ?_)
    obtain ⟨ns, ts, rfl, q⟩ := h
    have hxs := T.xs
    walk_at "d"
    refine ⟨⟨cl_Web T, na_Web_own_ties T⟩, ?_⟩
    walk_at "d"
    rw [List.length_map]
    exact q
/-! ### as the laws make them -/
theorem kn_str (z : Str) : Kn (.str z) := ⟨_, rfl, rfl⟩
theorem kns_name {z : Str} (h : IsName z) : KnS (.str z) := ⟨kn_str z, by
  obtain ⟨l, rfl, _, h4, _⟩ := h
  show (SX.S l).length ≤ 1000
  rw [SX.S_len]
  omega⟩
theorem knr_names {ns : List Str} (h : ∀ x ∈ ns, IsName x) (hl : ns.length ≤ 1000) {d : D} (hd : d.seq = some (ns.map D.str)) : KnR d := by
  have hs : ∀ es, d.seq = some es → es.length ≤ 1000 ∧ ∀ e ∈ es, KnS e := fun es z => by
    rw [hd] at z
    cases z
    refine ⟨by rw [List.length_map]; exact hl, fun e he => ?_⟩
    obtain ⟨x, hx, rfl⟩ := List.mem_map.mp he
    exact kns_name (h x hx)
  rcases row_kinds hd with rfl | rfl
  · exact ⟨⟨⟨_, rfl, rfl⟩, trivial⟩, hs⟩
  · exact ⟨⟨⟨_, rfl, rfl⟩, trivial⟩, hs⟩
theorem init_ok {ns : List Str} {ts : List (Str × Str)} {Q : D → Prop} {X : Exn → Prop} (ok : OkWeb ns ts) (q : Q (webD ns ts)) : fsInit [nmsD ns, tiesD ts] Q X := by
  have hk : KnR (nmsD ns) := knr_names ok.names.ok (by have := ok.n9; omega) rfl
  have wo : WebOf (nmsD ns) (tiesD ts) ns ts := ⟨ok, rfl, _, rfl, List.length_map _, fun i t h => ⟨tieD t, by rw [List.getElem?_map, h]; rfl, rfl⟩⟩
  refine ⟨_, _, rfl, hk, ⟨⟨⟨_, rfl, rfl⟩, trivial⟩, fun es z => ?_⟩, fun ns' ts' w => ?_, fun z => absurd wo (z ns ts)⟩
  · cases z
    refine ⟨by rw [List.length_map]; have := ok.t20; omega, fun e he => ?_⟩
    obtain ⟨t, ht, rfl⟩ := List.mem_map.mp he
    have tok := ok.ties t ht
    exact knr_names (ns := [t.1, t.2]) (fun x hx => by
      rcases List.mem_cons.mp hx with rfl | hx
      · exact ok.names.ok _ tok.1
      · rw [List.mem_singleton.mp hx]
        exact ok.names.ok _ tok.2.1) (by decide : 2 ≤ 1000) rfl
  · have e1 : ns' = ns := (map_inj (fun a b z => by cases z; rfl) (Option.some.inj w.pts)).symm
    obtain ⟨es, z, hl, ht⟩ := w.tie
    cases z
    have e2 : ts' = ts := by
      refine List.ext_getElem? fun i => ?_
      rw [List.length_map] at hl
      by_cases hi : i < ts'.length
      · obtain ⟨e, he, hs⟩ := ht i _ (List.getElem?_eq_getElem hi)
        rw [List.getElem?_map] at he
        have hi' : i < ts.length := by omega
        rw [List.getElem?_eq_getElem hi'] at he
        cases he
        rw [List.getElem?_eq_getElem hi, List.getElem?_eq_getElem hi']
        have : ts'[i] = ts[i] := by
          have hs := Option.some.inj hs
          simp only [List.cons.injEq, D.str.injEq, and_true] at hs
          exact Prod.ext hs.1.symm hs.2.symm
        rw [this]
      · rw [List.getElem?_eq_none (by omega), List.getElem?_eq_none (by omega)]
    rw [e1, e2]
    exact q
end PW

namespace PW
open PySem PySem.Spec PyProof.Rows L2
/-! ### pointings, by data -/
def isWholeB : D → Bool
  | .int _ => true
  | _ => false
def isTurnB : D → Bool
  | .int i => decide (0 ≤ i ∧ i ≤ 1)
  | _ => false
def fsIsWhole : FS := fun ds Q _ => ∃ d, ds = [d] ∧ Kn d ∧ Q (.bl (isWholeB d))
def fsIsListed : FS := fun ds Q _ => ∃ d, ds = [d] ∧ Kn d ∧ Q (.bl (isRowB d))
def fsIsTurn : FS := fun ds Q _ => ∃ d, ds = [d] ∧ Kn d ∧ Q (.bl (isTurnB d))
def isPointB (n : Nat) (d : D) : Bool := match d.seq with
  | some ds => decide (ds.length = n) && ds.all isTurnB
  | none => false
def fsIsPointing : FS := fun ds Q _ => ∃ ns ts d, ds = [webD ns ts, d] ∧ ts.length ≤ 1000 ∧ KnR d ∧ Q (.bl (isPointB ts.length d))
structure IsPoint (n : Nat) (d : D) (ps : List Int) : Prop where
  seq : d.seq = some (ps.map D.int)
  len : ps.length = n
  turn : ∀ p ∈ ps, p = 0 ∨ p = 1
def fsWantPointing : FS := fun ds Q X => ∃ ns ts d, ds = [webD ns ts, d] ∧ ts.length ≤ 1000 ∧ KnR d ∧ (∀ ps, IsPoint ts.length d ps → Q (intsL ps)) ∧ ((∀ ps, ¬ IsPoint ts.length d ps) → X ⟨"NoPointing", []⟩)
def fsWantPoint : FS := fun ds Q X => ∃ ns ts d, ds = [webD ns ts, d] ∧ Kn d ∧ (∀ z, d = .str z → z ∈ ns → Q .non) ∧ ((∀ z, d = .str z → z ∉ ns) → X ⟨"NoPoint", []⟩)
theorem isPoint_iff {n : Nat} {d : D} : isPointB n d = true ↔ ∃ ps, IsPoint n d ps := by
  unfold isPointB
  constructor
  · intro h
    split at h
    · rename_i es hs
      rw [Bool.and_eq_true, decide_eq_true_iff] at h
      have ex : ∀ es : List D, es.all isTurnB = true → ∃ ps : List Int, es = ps.map D.int ∧ ∀ p ∈ ps, p = 0 ∨ p = 1 := by
        intro es
        induction es with
        | nil => exact fun _ => ⟨[], rfl, fun p hp => by cases hp⟩
        | cons e es ih =>
          intro h
          rw [List.all_cons, Bool.and_eq_true] at h
          obtain ⟨ps, rfl, hp⟩ := ih h.2
          cases e with
          | int i =>
            have := of_decide_eq_true h.1
            refine ⟨i :: ps, rfl, fun p z => ?_⟩
            rcases List.mem_cons.mp z with rfl | z
            · omega
            · exact hp p z
          | _ => cases h.1
      obtain ⟨ps, rfl, hp⟩ := ex es h.2
      exact ⟨ps, hs, by rw [← h.1, List.length_map], hp⟩
    · cases h
  · rintro ⟨ps, hs, hl, hp⟩
    rw [hs]
    show (decide ((ps.map D.int).length = n) && (ps.map D.int).all isTurnB) = true
    rw [List.length_map, decide_eq_true hl, Bool.true_and, List.all_map]
    refine List.all_eq_true.mpr fun p z => decide_eq_true ?_
    rcases hp p z with rfl | rfl <;> decide
theorem IsPoint.uniq {n : Nat} {d : D} {ps qs : List Int} (h : IsPoint n d ps) (g : IsPoint n d qs) : ps = qs := by
  have := h.seq
  rw [g.seq] at this
  exact (map_inj (fun a b z => by cases z; rfl) (Option.some.inj this)).symm
theorem kn_int (i : Int) : Kn (.int i) := ⟨_, rfl, rfl⟩
theorem knr_ints {d : D} {ps : List Int} (h : d.seq = some (ps.map D.int)) (hl : ps.length ≤ 1000) : KnR d := by
  have hs : ∀ es, d.seq = some es → es.length ≤ 1000 ∧ ∀ e ∈ es, KnS e := fun es z => by
    rw [h] at z
    cases z
    refine ⟨by rw [List.length_map]; exact hl, fun e he => ?_⟩
    obtain ⟨x, hx, rfl⟩ := List.mem_map.mp he
    exact ⟨kn_int x, trivial⟩
  rcases row_kinds h with rfl | rfl
  · exact ⟨⟨⟨_, rfl, rfl⟩, trivial⟩, hs⟩
  · exact ⟨⟨⟨_, rfl, rfl⟩, trivial⟩, hs⟩
theorem IsPoint.knr {n : Nat} {d : D} {ps : List Int} (h : IsPoint n d ps) (hn : n ≤ 1000) : KnR d := knr_ints h.seq (by rw [h.len]; exact hn)
theorem IsPoint.ok {n : Nat} {d : D} {ps : List Int} (h : IsPoint n d ps) : isPointB n d = true := isPoint_iff.mpr ⟨ps, h⟩
theorem IsPoint.kn {n : Nat} {d : D} {ps : List Int} (h : IsPoint n d ps) : Kn d := by
  have := h.seq
  cases d <;> first | exact ⟨_, rfl, rfl⟩ | cases this
theorem wp_ok {ns : List Str} {ts : List (Str × Str)} {d : D} {ps : List Int} {Q : D → Prop} {X : Exn → Prop} (hn : ts.length ≤ 1000) (hp : IsPoint ts.length d ps) (q : Q (intsL ps)) : fsWantPointing [webD ns ts, d] Q X :=
  ⟨ns, ts, d, rfl, hn, hp.knr hn, fun qs h => by rw [h.uniq hp]; exact q, fun z => absurd hp (z ps)⟩
theorem wn_ok {ns : List Str} {ts : List (Str × Str)} {z : Str} {Q : D → Prop} {X : Exn → Prop} (hz : z ∈ ns) (q : Q .non) : fsWantPoint [webD ns ts, .str z] Q X :=
  ⟨ns, ts, _, rfl, kn_str z, fun _ _ _ => q, fun h => absurd hz (h z rfl)⟩
/-! ### from which point to which one each tie leads -/
def fsLeadsOf : FS := fun ds Q _ => ∃ ns ts d ps, ds = [webD ns ts, d] ∧ ts.length ≤ 1000 ∧ d.seq = some (ps.map D.int) ∧ ps.length = ts.length ∧ Q (tiesD (leadsL ts ps))
theorem leadsL_take {ts : List (Str × Str)} {ps : List Int} {i : Nat} {t : Str × Str} {p : Int} (h : (List.zip ts ps)[i]? = some (t, p)) : leadsL (ts.take (i + 1)) (ps.take (i + 1)) = leadsL (ts.take i) (ps.take i) ++ [lead t p] := by
  rw [List.getElem?_zip_eq_some] at h
  unfold leadsL
  rw [← List.take_zipWith, ← List.take_zipWith, List.take_add_one, List.getElem?_zipWith, h.1, h.2]
  rfl
theorem zip_take {α β : Type} {ts : List α} {ps : List β} (h : ps.length = ts.length) : ts.take (List.zip ts ps).length = ts ∧ ps.take (List.zip ts ps).length = ps := by
  rw [List.length_zip]
  exact ⟨List.take_of_length_le (by omega), List.take_of_length_le (by omega)⟩
end PW

namespace PW
open PySem PySem.Spec PyProof.Rows L2
/-! ### changes of told things, one after another -/
structure KJ (Hn H1 H2 : Hp) (n : Nat) : Prop where
  k : KillR Hn H1 H2
  ls : ∀ a us, Hn a = some (.lst us) → ∃ ws, H2 a = some (.lst ws) ∧ ws.length ≤ us.length + n
section
variable {K : PySem.W.Frag} {Hn H H1 H2 : Hp} {n : Nat}
theorem KJ.init (le : Same Hn H) : KJ Hn H H 0 := ⟨KillR.refl _ _, fun a us h => ⟨us, le a _ h, Nat.le_refl _⟩⟩
theorem KJ.upd (S : KJ Hn H1 H2 n) {b : Addr} {us ws vs' : List V} (hb : Hn b = some (.lst us)) (h2 : H2 b = some (.lst ws)) (hl : vs'.length ≤ ws.length + 1) : KJ Hn H1 (L2.upd H2 b (.lst vs')) (n + 1) := by
  refine ⟨S.k.trans (killR_upd h2 (by rw [hb]; exact fun z => by cases z) fun _ z => by cases z), fun a us' h => ?_⟩
  obtain ⟨ws', g1, g2⟩ := S.ls a us' h
  by_cases e : a = b
  · subst e
    rw [hb] at h
    cases h
    rw [h2] at g1
    cases g1
    exact ⟨vs', upd_same, by omega⟩
  · exact ⟨ws', by rw [upd_ne e]; exact g1, by omega⟩
theorem KJ.new (S : KJ Hn H1 H2 n) {c : Addr} {o : HO} (hc : H2 c = none) : KJ Hn H1 (L2.upd H2 c o) n := by
  have ne : ∀ {a : Addr} {u : HO}, H2 a = some u → a ≠ c := fun {a u} h z => by
    rw [z, hc] at h
    cases h
  refine ⟨S.k.trans ⟨fun a u h _ => by rw [upd_ne (ne h)]; exact h, fun a h => ?_⟩, fun a us h => ?_⟩
  · by_cases e : a = c
    · rw [e]
      exact hc
    · rw [upd_ne e] at h
      exact h
  · obtain ⟨ws, g1, g2⟩ := S.ls a us h
    exact ⟨ws, by rw [upd_ne (ne g1)]; exact g1, g2⟩
end
/-! t[0].append(..); t[1].reverse(); t[1].append((.., ..)) -/
def okTwo (d : D) : Prop := ∃ xs ys, d = .lst [.lst xs, .lst ys] ∧ xs.length ≤ 100000 ∧ ys.length ≤ 100000
instance {K : PySem.W.Frag} {i : Nat} {v u w : V} : DMKill K (tSeq (tDrop (tBM K "list" rAppend (tOp (rIxG K) (tVar i) (tC (.int 0))) (tCons (tC v) tNil))) (tSeq (tDrop (tBM0 K "list" rReverse (tOp (rIxG K) (tVar i) (tC (.int 1))))) (tDrop (tBM K "list" rAppend (tOp (rIxG K) (tVar i) (tC (.int 1))) (tCons (tTup (tCons (tC u) (tCons (tC w) tNil))) tNil))))) i [] okTwo where
  run := fun {σ H Hn v0 d Dn} hv _ rp le hok nx => by
    obtain ⟨xs, ys, rfl, xl, yl⟩ := hok
    have whole := rp
    cases rp with
    | @lst a vs _ g1 g2 =>
      cases g2 with
      | @cons v1 _ _ _ r1 g3 =>
        cases g3 with
        | @cons v2 _ _ _ r2 g4 =>
          cases g4
          cases r1 with
          | @lst c0 w0 _ c1 c2 =>
            cases r2 with
            | @lst e0 z0 _ e1 e2 =>
              have cl := c2.len
              have el := e2.len
              have nc : c0 ≠ a := fun z => by
                subst z
                have := whole.dp1 (.lst c1 c2)
                simp only [D.dp, D.dpL] at this
                omega
              have ne : e0 ≠ a := fun z => by
                subst z
                have := whole.dp1 (.lst e1 e2)
                simp only [D.dp, D.dpL] at this
                omega
              have aH := le _ _ g1
              have S0 := KJ.init (Hn := Hn) le
              have h0 := le _ _ c1
              have S1 := S0.upd (vs' := w0 ++ [v]) c1 h0 (by rw [List.length_append]; exact Nat.le_refl _)
              obtain ⟨t1, q1, q2⟩ := S1.ls e0 _ e1
              have S2 := S1.upd (vs' := t1.reverse) e1 q1 (by rw [List.length_reverse]; exact Nat.le_succ _)
              obtain ⟨t2, q3, q4⟩ := S2.ls e0 _ e1
              have a1 : upd H c0 (.lst (w0 ++ [v])) a = some (.lst [.ref c0, .ref e0]) := by rw [upd_ne (Ne.symm nc)]; exact aH
              have a2 : upd (upd H c0 (.lst (w0 ++ [v]))) e0 (.lst t1.reverse) a = some (.lst [.ref c0, .ref e0]) := by rw [upd_ne (Ne.symm ne)]; exact a1
              refine ⟨_, hv, .inl ⟨a, _, 0, _, rfl, rfl, SqL.of aH, rfl, .inl ⟨rfl, _, SqL.of h0⟩, c0, w0, v, rfl, rfl, h0, by rw [sizeLine_eq]; omega, ?_⟩⟩
              refine ⟨_, hv, .inl ⟨a, _, 1, _, rfl, rfl, SqL.of a1, rfl, .inl ⟨rfl, _, SqL.of q1⟩, e0, t1, rfl, rfl, q1, ?_⟩⟩
              refine ⟨_, hv, .inl ⟨a, _, 1, _, rfl, rfl, SqL.of a2, rfl, .inl ⟨rfl, _, SqL.of q3⟩, ⟨by rw [sizeLine_eq]; show 2 ≤ _; omega, fun p hp => ?_⟩⟩⟩
              have S3 := S2.new (c := p) (o := .tup [u, w]) hp
              obtain ⟨t3, q5, q6⟩ := S3.ls e0 _ e1
              refine ⟨e0, t3, .ref p, rfl, rfl, q5, by rw [sizeLine_eq]; omega, ?_⟩
              have S4 := S3.upd (vs' := t3 ++ [.ref p]) e1 q5 (by rw [List.length_append]; exact Nat.le_refl _)
              exact nx _ _ S4.k rfl fun _ _ => rfl
def tMqk3 (t : TS) : TS := t
theorem pss_mqk3 {X : Cx} {b : List Stmt} {t : TS} (h : PSs X b t) : PSs X b (tMqk3 t) := h
instance {K : PySem.W.Frag} {W : WXT} {i : Nat} {js : List Nat} {okd : D → Prop} {s u v tr : TS} {wr : DSW} [A : DMKill K (tSeq s (tSeq u v)) i js okd] [R : DSk K W tr wr] : DMq K W (tMqk3 (tSeq s (tSeq u (tSeq v tr)))) (mqC i js okd wr) :=
  mqSeq (t := tSeq s (tSeq u v))
/-! ### a def that changes all that it was handed: its lists of lists reversed and made longer, itself emptied -/
def Elt (d : D) : Prop := (∃ z, d = .str z) ∨ (∃ es, d = .tup es) ∨ ∃ es, d = .lst es ∧ es.length ≤ 1000
def okSp (d : D) : Prop := ∃ A B as bs, d = .tup [A, B] ∧ A.seq = some as ∧ B.seq = some bs ∧ (∀ e ∈ as, ∃ z, e = .str z) ∧ (∀ e ∈ bs, Elt e) ∧ as.length ≤ 1000 ∧ bs.length ≤ 1000
def spSpoil (K : PySem.W.Frag) : Sp := fun vs H Q _ => ∃ (v : V) (d : D) (Hn : Hp), vs = [v] ∧ Rep K Hn v d ∧ Same Hn H ∧ okSp d ∧ ∀ H', KillR Hn H H' → Q .non H'
section
variable {K : PySem.W.Frag}
theorem spRow {tl : TE} {tb : TS} {σ : L2.St} {Hn H1 H2 : Hp} {Dn : Ends} {vs ws : List V} {ds : List D} {n : Nat}
    (body1 : ∀ {σ2 : L2.St} {H2 : Hp} {Dn : Ends} {x : V}, σ2[2]? = some (some x) → ((∃ z, x = V.str z) ∨ ∃ c us, x = .ref c ∧ H2 c = some (.tup us)) → Dn.nx σ2 H2 → tb Dn σ2 H2)
    (body2 : ∀ {σ2 : L2.St} {H2 : Hp} {Dn : Ends} {c : Addr} {us : List V}, σ2[2]? = some (some (.ref c)) → H2 c = some (.lst us) → us.length + 1 < sizeLine → (∀ us', us'.length ≤ us.length + 1 → Dn.nx σ2 (upd (upd H2 c (.lst us.reverse)) c (.lst us'))) → tb Dn σ2 H2)
    (htl : ∀ Q : VK, (∀ l, H2 l = none → Q (.ref l) (upd H2 l (.lst ws))) → tl σ H2 Q)
    (le : Same Hn H1) (S : KJ Hn H1 H2 n) (hr : RepL K Hn vs ds) (sub : ∀ x ∈ ws, x ∈ vs) (hE : ∀ d ∈ ds, Elt d) (hσ : 2 < σ.length) (wl : ws.length ≤ 1000) (nl : n ≤ 100000)
    (P : Hp → Prop) (p0 : P H2) (pn : ∀ (H : Hp) l o, P H → H l = none → P (upd H l o)) (pl : (∀ d ∈ ds, ∃ z, d = .str z) ∨ ∀ (H : Hp) b o, P H → P (upd H b o))
    (nx : ∀ (σ' : L2.St) (H' : Hp) (n' : Nat), KJ Hn H1 H' n' → n' ≤ n + 2000 → σ'.length = σ.length → (∀ j, j ≠ 2 → σ'[j]? = σ[j]?) → P H' → Dn.nx σ' H') : tFor (iG K tl) (gName 2) tb Dn σ H2 := by
  refine htl _ fun l hl => .inl ⟨l, rfl, ⟨ws, SqL.of upd_same⟩, fun i m σ2 H3 => m = ws.length - i ∧ i ≤ ws.length ∧ (∃ n', KJ Hn H1 H3 n' ∧ n' ≤ n + 2 * i) ∧ H3 l = some (.lst ws) ∧ σ2.length = σ.length ∧ (∀ j, j ≠ 2 → σ2[j]? = σ[j]?) ∧ P H3, ⟨_, rfl, Nat.zero_le _, ⟨n, S.new hl, Nat.le_refl _⟩, upd_same, rfl, fun _ _ => rfl, pn _ _ _ p0 hl⟩, ?_⟩
  rintro i m σ2 H3 ⟨rfl, hi, ⟨n', S', hn'⟩, h3, sl, so, hP⟩
  have lnn : ∀ c us, Hn c = some (.lst us) → c ≠ l := fun c us h z => by
    obtain ⟨t, q, _⟩ := S.ls c us h
    rw [z, hl] at q
    cases q
  by_cases hlt : i < ws.length
  · refine .inr ⟨⟨ws, ws[i], SqL.of h3, by simp [hlt]⟩, fun σ4 H4 => i + 1 ≤ ws.length ∧ (∃ n', KJ Hn H1 H4 n' ∧ n' ≤ n + 2 * (i + 1)) ∧ H4 l = some (.lst ws) ∧ σ4.length = σ.length ∧ (∀ j, j ≠ 2 → σ4[j]? = σ[j]?) ∧ P H4, fun σ4 H4 z => ⟨ws.length - (i + 1), by omega, rfl, z⟩, fun x H4 y => ?_⟩
    obtain ⟨rfl, y⟩ := y
    have hx := y ws (SqL.of h3)
    have h2 : 2 < σ2.length := by omega
    have s2 : (σ2.set 2 (some x))[2]? = some (some x) := List.getElem?_set_self h2
    have sl2 : (σ2.set 2 (some x)).length = σ.length := by rw [List.length_set]; exact sl
    have so2 : ∀ j, j ≠ 2 → (σ2.set 2 (some x))[j]? = σ[j]? := fun j hj => by rw [List.getElem?_set_ne (Ne.symm hj)]; exact so j hj
    obtain ⟨k, hk⟩ := List.getElem?_of_mem (sub x (List.mem_of_getElem? hx))
    obtain ⟨d, hd, rd⟩ := hr.getV hk
    have dm := List.mem_of_getElem? hd
    rcases hE d dm with ⟨z, rfl⟩ | ⟨es, rfl⟩ | ⟨es, rfl, el⟩
    · cases rd
      exact body1 s2 (.inl ⟨_, rfl⟩) ⟨hlt, ⟨n', S', by omega⟩, h3, sl2, so2, hP⟩
    · cases rd with
      | @tup c us _ f1 f2 =>
        exact body1 s2 (.inr ⟨c, us, rfl, S'.k.kp c _ (le c _ f1) (.inr ⟨us, rfl⟩)⟩) ⟨hlt, ⟨n', S', by omega⟩, h3, sl2, so2, hP⟩
    · cases rd with
      | @lst c us _ f1 f2 =>
        have ul := f2.len
        obtain ⟨t, q1, q2⟩ := S'.ls c us f1
        have cl := lnn c us f1
        refine body2 s2 q1 (by rw [sizeLine_eq]; omega) fun us' hu => ?_
        have S1 := S'.upd (vs' := t.reverse) f1 q1 (by rw [List.length_reverse]; exact Nat.le_succ _)
        have S2 := S1.upd (vs' := us') f1 upd_same (by rw [List.length_reverse]; exact hu)
        refine ⟨hlt, ⟨n' + 1 + 1, S2, by omega⟩, by rw [upd_ne (Ne.symm cl), upd_ne (Ne.symm cl)]; exact h3, sl2, so2, ?_⟩
        rcases pl with pl | pl
        · obtain ⟨z, hz⟩ := pl _ dm
          cases hz
        · exact pl _ _ _ (pl _ _ _ hP)
  · exact .inl ⟨⟨ws, SqL.of h3, by omega⟩, nx σ2 H3 n' S' (by omega) sl so hP⟩
theorem spoil_all {tl : TE} {tb tc : TS} {σ : L2.St} {Hn H : Hp} {Dn : Ends} {v : V} {d : D}
    (body1 : ∀ {σ2 : L2.St} {H2 : Hp} {Dn : Ends} {x : V}, σ2[2]? = some (some x) → ((∃ z, x = V.str z) ∨ ∃ c us, x = .ref c ∧ H2 c = some (.tup us)) → Dn.nx σ2 H2 → tb Dn σ2 H2)
    (body2 : ∀ {σ2 : L2.St} {H2 : Hp} {Dn : Ends} {c : Addr} {us : List V}, σ2[2]? = some (some (.ref c)) → H2 c = some (.lst us) → us.length + 1 < sizeLine → (∀ us', us'.length ≤ us.length + 1 → Dn.nx σ2 (upd (upd H2 c (.lst us.reverse)) c (.lst us'))) → tb Dn σ2 H2)
    (htl : ∀ {σ2 : L2.St} {H2 : Hp} {a : Addr} {ws : List V} (Q : VK), σ2[1]? = some (some (.ref a)) → (H2 a = some (.lst ws) ∨ H2 a = some (.tup ws)) → (∀ l, H2 l = none → Q (.ref l) (upd H2 l (.lst ws))) → tl σ2 H2 Q)
    (htc1 : ∀ {σ2 : L2.St} {H2 : Hp} {Dn : Ends} {a : Addr} {ws : List V}, σ2[1]? = some (some (.ref a)) → H2 a = some (.lst ws) → Dn.nx σ2 (upd H2 a (.lst [])) → tc Dn σ2 H2)
    (htc2 : ∀ {σ2 : L2.St} {H2 : Hp} {Dn : Ends} {a : Addr} {ws : List V}, σ2[1]? = some (some (.ref a)) → H2 a = some (.tup ws) → Dn.nx σ2 H2 → tc Dn σ2 H2)
    (h0 : σ[0]? = some (some v)) (hσ : σ.length = 3) (rp : Rep K Hn v d) (le : Same Hn H) (hok : okSp d)
    (nx : ∀ σ' H', KillR Hn H H' → Dn.nx σ' H') : tFor (iG K (tVar 0)) (gName 1) (tSeq (tFor (iG K tl) (gName 2) tb) tc) Dn σ H := by
  obtain ⟨A, B, as, bs, rfl, hA, hB, sA, sB, lA, lB⟩ := hok
  cases rp with
  | @tup T vs2 _ g1 g2 =>
    cases g2 with
    | @cons vA _ _ _ rA g3 =>
      cases g3 with
      | @cons vB _ _ _ rB g4 =>
        cases g4
        have TH := le _ _ g1
        -- each row: where it stands, its things
        have row : ∀ {x : V} {D0 : D} {es : List D}, Rep K Hn x D0 → D0.seq = some es → ∃ a vs, x = .ref a ∧ RepL K Hn vs es ∧ (Hn a = some (.lst vs) ∨ Hn a = some (.tup vs)) := fun {x D0 es} r hs => by
          rcases row_kinds hs with rfl | rfl
          · cases r with
            | lst f1 f2 => exact ⟨_, _, rfl, f2, .inl f1⟩
          · cases r with
            | tup f1 f2 => exact ⟨_, _, rfl, f2, .inr f1⟩
        obtain ⟨a, va, rfl, raL, ka⟩ := row rA hA
        obtain ⟨b, vb, rfl, rbL, kb⟩ := row rB hB
        have la := raL.len
        have lb := rbL.len
        let CB : Hp → Prop := fun H' => ∀ vs, Hn b = some (.lst vs) → ∃ ws, H' b = some (.lst ws) ∧ (∀ x ∈ ws, x ∈ vb) ∧ ws.length ≤ 1000
        have cb0 : CB H := fun vs hvs => by
          rcases kb with kb | kb
          · rw [kb] at hvs
            cases hvs
            exact ⟨vb, le _ _ kb, fun x hx => hx, by omega⟩
          · rw [kb] at hvs
            cases hvs
        refine ⟨_, h0, .inr (.inl ⟨T, rfl, ⟨_, SqT.of TH⟩, fun i m σ2 H2 => m = 2 - i ∧ i ≤ 2 ∧ (∃ n, KJ Hn H H2 n ∧ n ≤ 3000 * i) ∧ σ2.length = 3 ∧ (i ≤ 1 → CB H2) ∧ (i = 0 → ∀ c o, H c = some o → H2 c = some o), ⟨_, rfl, Nat.zero_le _, ⟨0, KJ.init le, Nat.zero_le _⟩, hσ, fun _ => cb0, fun _ _ _ h => h⟩, ?_⟩)⟩
        rintro i m σ2 H2 ⟨rfl, hi, ⟨n, S, hn⟩, sl, hC, hO⟩
        have T2 : H2 T = some (.tup [.ref a, .ref b]) := S.k.kp _ _ TH (.inr ⟨_, rfl⟩)
        by_cases hlt : i < 2
        · refine .inr ⟨⟨[.ref a, .ref b], [V.ref a, V.ref b][i], SqT.of T2, by simp [hlt]⟩, fun σ4 H4 => i + 1 ≤ 2 ∧ (∃ n, KJ Hn H H4 n ∧ n ≤ 3000 * (i + 1)) ∧ σ4.length = 3 ∧ (i + 1 ≤ 1 → CB H4), fun σ4 H4 z => ⟨2 - (i + 1), by omega, rfl, z.1, z.2.1, z.2.2.1, z.2.2.2, fun z => by omega⟩, fun x H4 y => ?_⟩
          obtain ⟨rfl, y⟩ := y
          have hx := y _ (SqT.of T2)
          have s1 : ∀ x : V, (σ2.set 1 (some x))[1]? = some (some x) := fun x => List.getElem?_set_self (by omega)
          have sl1 : ∀ x : V, 2 < (σ2.set 1 (some x)).length := fun x => by rw [List.length_set]; omega
          have end_ : ∀ {c : Addr} {vs : List V} (σ' : L2.St) (H' : Hp) (n' : Nat), (Hn c = some (.lst vs) ∨ Hn c = some (.tup vs)) → KJ Hn H H' n' → n' ≤ 3000 * i + 2000 → σ'.length = (σ2.set 1 (some (.ref c))).length → (∀ j, j ≠ 2 → σ'[j]? = (σ2.set 1 (some (.ref c)))[j]?) → (i = 0 → CB H') →
              tc { Dn with nx := fun σ4 H4 => i + 1 ≤ 2 ∧ (∃ n, KJ Hn H H4 n ∧ n ≤ 3000 * (i + 1)) ∧ σ4.length = 3 ∧ (i + 1 ≤ 1 → CB H4), ct := fun σ4 H4 => i + 1 ≤ 2 ∧ (∃ n, KJ Hn H H4 n ∧ n ≤ 3000 * (i + 1)) ∧ σ4.length = 3 ∧ (i + 1 ≤ 1 → CB H4), bk := Dn.nx } σ' H' := fun {c vs} σ' H' n' kc S' hn' l' o' hP => by
            have q1 : σ'[1]? = some (some (.ref c)) := by
              rw [o' 1 (by decide)]
              exact s1 _
            have l3 : σ'.length = 3 := by
              rw [l', List.length_set]
              exact sl
            rcases kc with kc | kc
            · obtain ⟨t, q2, _⟩ := S'.ls c vs kc
              refine htc1 q1 q2 ⟨hlt, ⟨n' + 1, S'.upd (vs' := []) kc q2 (Nat.zero_le _), by omega⟩, l3, fun hi1 => ?_⟩
              intro vs' hvs
              obtain ⟨ws, w1, w2, w3⟩ := hP (by omega) vs' hvs
              by_cases e : b = c
              · subst e
                exact ⟨[], upd_same, (fun x hx => by cases hx), Nat.zero_le _⟩
              · exact ⟨ws, by rw [upd_ne e]; exact w1, w2, w3⟩
            · exact htc2 q1 (S'.k.kp c _ (le _ _ kc) (.inr ⟨_, rfl⟩)) ⟨hlt, ⟨n', S', by omega⟩, l3, fun hi1 => hP (by omega)⟩
          have pn : ∀ (H' : Hp) l o, (i = 0 → CB H') → H' l = none → (i = 0 → CB (upd H' l o)) := fun H' l o h hl z vs hvs => by
            obtain ⟨ws, w1, w2, w3⟩ := h z vs hvs
            refine ⟨ws, ?_, w2, w3⟩
            rw [upd_ne fun e => by rw [← e, w1] at hl; cases hl]
            exact w1
          have i2 : i = 0 ∨ i = 1 := by omega
          rcases i2 with rfl | rfl
          · cases hx
            have ha : H4 a = some (.lst va) ∨ H4 a = some (.tup va) := ka.imp (fun z => hO rfl _ _ (le _ _ z)) fun z => hO rfl _ _ (le _ _ z)
            exact spRow body1 body2 (fun Q k => htl Q (s1 _) ha k) le S raL (fun x hx => hx) (fun d hd => .inl (sA d hd)) (sl1 _) (by omega) (by omega) (fun H' => (0 : Nat) = 0 → CB H') (fun _ => hC (by decide)) pn (.inl sA) fun σ' H' n' S' hn' l' o' hP => end_ σ' H' n' ka S' (by omega) l' o' hP
          · cases hx
            have hb : ∃ ws, (H4 b = some (.lst ws) ∨ H4 b = some (.tup ws)) ∧ (∀ x ∈ ws, x ∈ vb) ∧ ws.length ≤ 1000 := by
              rcases kb with kb | kb
              · obtain ⟨ws, w1, w2, w3⟩ := hC (Nat.le_refl _) vb kb
                exact ⟨ws, .inl w1, w2, w3⟩
              · exact ⟨vb, .inr (S.k.kp b _ (le _ _ kb) (.inr ⟨_, rfl⟩)), fun x hx => hx, by omega⟩
            obtain ⟨ws, w1, w2, w3⟩ := hb
            exact spRow body1 body2 (fun Q k => htl Q (s1 _) w1 k) le S rbL w2 sB (sl1 _) w3 (by omega) (fun H' => (1 : Nat) = 0 → CB H') (fun z => absurd z (by decide)) (fun H' l o h hl z => absurd z (by decide)) (.inr fun H' b o h z => absurd z (by decide)) fun σ' H' n' S' hn' l' o' hP => end_ σ' H' n' kb S' (by omega) l' o' (fun z => absurd z (by decide))
        · exact .inl ⟨⟨_, SqT.of T2, by show 2 ≤ i; omega⟩, nx σ2 H2 S.k⟩
end
instance {K : PySem.W.Frag} {i : Nat} {E0 : XK} : DMKill K (tDrop (tCall (spSpoil K) [] E0 (tCons (tVar i) tNil))) i [] okSp where
  run := fun {σ H Hn v d Dn} hv _ rp le hok nx => ⟨_, hv, v, d, Hn, by rw [List.append_nil], rp, le, hok, fun H' k => nx σ H' k rfl fun _ _ => rfl⟩
theorem mid_of2 {w : DSW} {X : XC} {E : DEnds} {ρ : DEnv} (ρ1 ρ2 ρ3 : DEnv) (e : ρ = ρ1) (h0 : ρ1.map frzS = ρ3) (h1 : rstB ρ3 = true) (h2 : ρ3.map paS = ρ2) (h : w X E ρ2) : midC w X E ρ := by
  subst h0
  rw [← frzN_map] at h1 h2
  exact mid_of ρ1 ρ2 e h1 h2 h
theorem mk_of2 {i : Nat} {js : List Nat} {okd : D → Prop} {wr : DSW} {X : XC} {E : DEnds} {ρ : DEnv} {d : D} (ρ1 ρ2 ρ3 : DEnv) (e : ρ = ρ1) (h2 : ρ1.map frzS = ρ2) (hi : ρ2[i]? = some (some (.pa true d))) (hr : rstB ρ2 = true) (hok : okd d) (hb : (ρ2.map unS).all killB = true) (hj : js.contains 0 = false ∧ ∀ j ∈ js, j < ρ1.length) (h3 : wipeD (ρ2.map midS) js = ρ3) (h : wr X E ρ3) : mkC i js okd wr X E ρ :=
  mk_of ρ1 ρ2 ρ3 e (by rw [frzN_map]; exact h2) hi hr hok hb hj h3 h
end PW

namespace PW
open PySem PySem.Spec PyProof.Rows L2
theorem ok_law_spoil {P : Program} {w : World} {K : PySem.W.Frag} {mg : Str → Option Value} {base : Heap} (T : Top K mg) :
    C8.Cal P w K mg base 1 "_law_spoil" (spSpoil K) [] := by
  refine cal_of (fd_law_spoil T) (g_law_spoil T) sc_law_spoil bi_law_spoil (fun vs H Q E h => ?_) (fun cdv A outer s H vs Q E hr h => ?_)
  · obtain ⟨v, d, Hn, rfl, _⟩ := h
    rfl
  · refine ⟨_, (pss_one (ps_for PassesOwn.never rfl (pi_G (K := K) (pv 0)) (pg_name (i := 1) sc_law_spoil.nd rfl (by first | exact Or.inl rfl | exact Or.inr rfl)) (pss_cons (ps_for PassesOwn.never rfl (pi_G (K := K) (pe_callTy (gList (K := K) rfl) (by rfl) (f_list T) (by decide +kernel) (pa_cons (pv 1) pa_nil))) (pg_name (i := 2) sc_law_spoil.nd rfl (by first | exact Or.inl rfl | exact Or.inr rfl)) (pss_one (ps_if (pt_val (pe_callB (isiK1 (K := K)) (by rfl) (f_isinstance T) (by decide +kernel) (pa_cons (pv 2) (pa_cons (pe_bltn (v := .ty "list") (by rfl) (f_list T) (by decide +kernel) rfl) pa_nil)))) (pss_cons (ps_expr (pe_bm0K (K := K) PySem.F.plainAttrs_list PySem.F.slot_list_reverse PySem.F.type_list_reverse mt_reverse (pv 2)))
      (pss_one (ps_expr (pe_bmK (K := K) PySem.F.plainAttrs_list PySem.F.slot_list_append PySem.F.type_list_append mt_append (pv 2) (pa_cons pe_str pa_nil))))) pss_nil)))
      (pss_one (ps_if (pt_val (pe_callB (isiK1 (K := K)) (by rfl) (f_isinstance T) (by decide +kernel) (pa_cons (pv 1) (pa_cons (pe_bltn (v := .ty "list") (by rfl) (f_list T) (by decide +kernel) rfl) pa_nil)))) (pss_one (ps_expr (pe_bm0K (K := K) PySem.F.plainAttrs_list PySem.F.slot_list_clear PySem.F.type_list_clear mt_clear (pv 1)))) pss_nil))))), ?_⟩
    obtain ⟨v, d, Hn, rfl, rp, le, hok, nx⟩ := h
    refine spoil_all (fun {σ2 H2 Dn x} h1 h2 q => ?_) (fun {σ2 H2 Dn c us} h1 h2 h3 q => ?_) (fun {σ2 H2 a ws} Q h1 h2 q => ?_) (fun {σ2 H2 Dn a ws} h1 h2 q => ?_) (fun {σ2 H2 Dn a ws} h1 h2 q => ?_) rfl rfl rp le hok fun σ' H' k => nx H' k
    · rcases h2 with ⟨z, rfl⟩ | ⟨c, us, rfl, hc⟩
      · exact ⟨_, h1, .str z, .ty "list", .type "str", _, _, rfl, .ty _, .base (.str _), kit_ty (isiN_ok (d := .str z) rfl rfl), _, rfl, by rw [show isiN "str" "list" = false by decide]; exact q⟩
      · exact ⟨_, h1, .ref c, .ty "list", .type "tuple", _, _, rfl, .ty _, .base (.tup hc), kit_ty (isiN_ok (d := .tup []) rfl rfl), _, rfl, by rw [show isiN "tuple" "list" = false by decide]; exact q⟩
    · refine ⟨_, h1, .ref c, .ty "list", .type "list", _, _, rfl, .ty _, .base (.lst h2), kit_ty (isiN_ok (d := .lst []) rfl rfl), _, rfl, ?_⟩
      rw [show isiN "list" "list" = true by decide]
      dsimp only
      rw [if_pos rfl]
      exact ⟨_, h1, .inl ⟨rfl, _, SqL.of h2⟩, c, us, rfl, rfl, h2, _, h1, .inl ⟨rfl, _, SqL.of upd_same⟩, c, us.reverse, _, rfl, rfl, upd_same, by rw [List.length_reverse]; omega, q _ (by rw [List.length_append, List.length_reverse]; exact Nat.le_refl _)⟩
    · exact ⟨_, h1, .inl ⟨a, ws, rfl, h2.imp SqL.of SqT.of, q⟩⟩
    · refine ⟨_, h1, .ref a, .ty "list", .type "list", _, _, rfl, .ty _, .base (.lst h2), kit_ty (isiN_ok (d := .lst []) rfl rfl), _, rfl, ?_⟩
      rw [show isiN "list" "list" = true by decide]
      dsimp only
      rw [if_pos rfl]
      exact ⟨_, h1, .inl ⟨rfl, _, SqL.of h2⟩, a, ws, rfl, rfl, h2, q⟩
    · exact ⟨_, h1, .ref a, .ty "list", .type "tuple", _, _, rfl, .ty _, .base (.tup h2), kit_ty (isiN_ok (d := .tup []) rfl rfl), _, rfl, by rw [show isiN "tuple" "list" = false by decide]; exact q⟩
theorem reg_str (r : Bool) (l : List Str) : reg (r, .lst (l.map D.str)) = true := by
  show (r || D.immL (l.map D.str)) = true
  rw [immL_str, Bool.or_true]
def pairD (t : Str × Str) : D := .lst [.str t.1, .str t.2]
def fsHanded11 : FS := fun ds Q _ => ∃ ns ts, ds = [.tup [nmsD ns, tiesD ts]] ∧ OkWeb ns ts ∧ ∀ (A B : D) (ys : List D), A.seq = some (ns.map D.str) → B.seq = some ys → ys.length = ts.length → (∀ (i : Nat) t y, ts[i]? = some t → ys[i]? = some y → y = tieD t ∨ y = pairD t) → Q (.tup [A, B])
theorem ok_law_handed {P : Program} {w : World} {K : PySem.W.Frag} {mg : Str → Option Value} {base : Heap} (T : Top K mg) :
    C8.Cal P w K mg base 2 "_law_handed" (spP K fsHanded11) [] := by
  refine cal_of (fd_law_handed T) (g_law_handed T) sc_law_handed bi_law_handed (fun vs H Q E h => ?_) (fun cdv A outer s H vs Q E hr h => ?_)
  · obtain ⟨p, us, ds, R, Xd, rfl, _, h1, h2, _⟩ := h
    obtain ⟨ns, ts, rfl, _⟩ := h2
    exact congrArg (· + 1) h1.len
  · refine ⟨_, (pss_cons (ps_par (i := 2) (j := 3) (by rfl) sc_law_handed.nd rfl rfl (by decide) rfl rfl (pa_cons (pe_callTy (gList (K := K) rfl) (by rfl) (f_list T) (by decide +kernel) (pa_cons (pe_ix (gIx (K := K)) (pv 1) pe_int (fun _ _ => rfl)) pa_nil)) (pa_cons (pe_lc (own := [("_law_tie_here", 4)]) (g := gName 4) (by rfl) sc_law_handed.nd (pi_G (K := K) (pe_ix (gIx (K := K)) (pv 1) pe_int (fun _ _ => rfl))) (blkOk_by (own := [("_law_tie_here", 4)]) (N := ["_law_pot_here", "_law_web_here", "_law_names_here", "_law_ties", "_law_tie_here"]) (sc := defScope s_law_handed) (by decide +kernel)) (fun _ _ _ _ _ => (pg_name (i := 4) sc_law_handed.nd rfl (by first | exact Or.inl rfl | exact Or.inr rfl))) (fun _ _ _ _ _ => pts_nil) (fun _ _ _ _ _ => (pe_ix (gIx (K := K)) (pe_lst (pa_cons (pv 4) (pa_cons (pe_callTy (gList (K := K) rfl) (by rfl) (f_list T) (by decide +kernel) (pa_cons (pv 4) pa_nil)) pa_nil))) (C8.pe_c (ok_law_take (K := K) T) hr (by decide) (by rfl) (pa_cons (pv 0) (pa_cons pe_int pa_nil))) (fun _ _ => rfl)))) pa_nil)) (by rfl))
      (pss_cons (ps_if (pt_cmpR (gEq (K := K) hr.units) (C8.pe_c (ok_law_take (K := K) T) hr (by decide) (by rfl) (pa_cons (pv 0) (pa_cons pe_int pa_nil))) pe_int (nomark _)) (pss_one (ps_set (i := 2) sc_law_handed.nd rfl (by first | exact Or.inl rfl | exact Or.inr rfl) (pe_callTy (tupK (K := K)) (by rfl) (f_tuple T) (by decide +kernel) (pa_cons (pv 2) pa_nil)))) pss_nil)
      (pss_cons (ps_if (pt_cmpR (gEq (K := K) hr.units) (C8.pe_c (ok_law_take (K := K) T) hr (by decide) (by rfl) (pa_cons (pv 0) (pa_cons pe_int pa_nil))) pe_int (nomark _)) (pss_one (ps_set (i := 3) sc_law_handed.nd rfl (by first | exact Or.inl rfl | exact Or.inr rfl) (pe_callTy (tupK (K := K)) (by rfl) (f_tuple T) (by decide +kernel) (pa_cons (pv 3) pa_nil)))) pss_nil)
      (pss_one (ps_ret (pe_tup (pa_cons (pv 2) (pa_cons (pv 3) pa_nil)))))))), ?_⟩
    refine runP (N := ["_law_pot_here", "_law_web_here", "_law_names_here", "_law_ties", "_law_tie_here"]) inferInstance h (fun ds R Xd h => ?_)
    obtain ⟨ns, ts, rfl, ok, q⟩ := h
    have hxs := T.xs
    have t20 := ok.t20
    have h9 := ok.n9
    walk_at "a"
    refine frC [_, _, _, _, _] rfl ?_
    refine lcm (lc_drawn _ ts (fun t (y : D) => y = tieD t ∨ y = pairD t) id (fun t ht k1 k2 h => ?_) ?_)
    · walk_at "a"
      refine takeC_of (by decide) (by decide) fun i i0 i1 => ?_
      have : i = 0 ∨ i = 1 := by omega
      rcases this with rfl | rfl
      · walk_at "a"
        exact h _ (.inl rfl)
      · walk_at "a"
        exact h _ (.inr rfl)
    intro ys yl hy
    rw [List.map_id]
    walk_at "a"
    rw [reg_str]
    refine takeC_of (by decide) (by decide) fun i i0 i1 => ?_
    walk_at "a"
    refine ifC_d (fun e1 => ?_) fun e1 => ?_
    all_goals
      walk_at "a"
      refine takeC_of (by decide) (by decide) fun j j0 j1 => ?_
      walk_at "a"
      refine ifC_d (fun e2 => ?_) fun e2 => ?_
      all_goals
        walk_at "a"
        exact q _ _ ys rfl rfl yl hy
def fsTells : FS := fun ds Q _ => ∃ ns ts, ds = [webD ns ts, nmsD ns, tiesD ts] ∧ OkWeb ns ts ∧ Q (.bl true)
theorem ok_law_tells {P : Program} {w : World} {K : PySem.W.Frag} {mg : Str → Option Value} {base : Heap} (T : Top K mg) :
    C8.Cal P w K mg base 2 "_law_tells" (sp0 K fsTells) [] := by
  refine cal_of (fd_law_tells T) (g_law_tells T) sc_law_tells bi_law_tells (fun vs H Q E h => ?_) (fun cdv A outer s H vs Q E hr h => ?_)
  · obtain ⟨ds, R, Xd, h1, h2, _⟩ := h
    obtain ⟨ns, ts, rfl, _⟩ := h2
    exact h1.len
  · refine ⟨_, (pss_rst2 (pss_cons (ps_set (i := 3) sc_law_tells.nd rfl (by first | exact Or.inl rfl | exact Or.inr rfl) (pe_lst (pa_cons (C8.pe_mt0 (ok_Web_points (K := K) T) hr (by decide) (pv 0)) (pa_cons (C8.pe_mt0 (ok_Web_ties (K := K) T) hr (by decide) (pv 0)) pa_nil))))
      (pss_cons (ps_if (PW.pt (pw_or (pt_not (pt_val (pe_callB (isiK1 (K := K)) (by rfl) (f_isinstance T) (by decide +kernel) (pa_cons (pe_ix (gIx (K := K)) (pv 3) pe_int (fun _ _ => rfl)) (pa_cons (pe_bltn (v := .ty "list") (by rfl) (f_list T) (by decide +kernel) rfl) pa_nil))))) (pw_or (pt_not (pt_val (pe_callB (isiK1 (K := K)) (by rfl) (f_isinstance T) (by decide +kernel) (pa_cons (pe_ix (gIx (K := K)) (pv 3) pe_int (fun _ _ => rfl)) (pa_cons (pe_bltn (v := .ty "list") (by rfl) (f_list T) (by decide +kernel) rfl) pa_nil))))) (pw_or1 (pt_cmpR (gNe (K := K) hr.units) (pv 3) (pe_lst (pa_cons (pv 1) (pa_cons (pv 2) pa_nil))) (nomark _)))))) (pss_one (ps_ret pe_bl)) pss_nil)
      (pss_cons (ps_if (PW.pt (pw_or (pt_not (pt_val (pe_callB (allK (K := K) rfl) (by rfl) (f_all T) (by decide +kernel) (pa_cons (pe_lc (own := [("_law_tie_here", 4)]) (g := gName 4) (by rfl) sc_law_tells.nd (pi_G (K := K) (pe_ix (gIx (K := K)) (pv 3) pe_int (fun _ _ => rfl))) (blkOk_by (own := [("_law_tie_here", 4)]) (N := ["_law_web_here", "_law_names_here", "_law_ties", "_law_told", "_law_tie_here"]) (sc := defScope s_law_tells) (by decide +kernel)) (fun _ _ _ _ _ => (pg_name (i := 4) sc_law_tells.nd rfl (by first | exact Or.inl rfl | exact Or.inr rfl))) (fun _ _ _ _ _ => pts_nil) (fun _ _ _ _ _ => (pe_callB (isiK1 (K := K)) (by rfl) (f_isinstance T) (by decide +kernel) (pa_cons (pv 4) (pa_cons (pe_bltn (v := .ty "tuple") (by rfl) (f_tuple T) (by decide +kernel) rfl) pa_nil))))) pa_nil)))) (pw_or1 (pt_cmpR (gNe (K := K) hr.units) (C8.pe_mt0 (ok_Web_many (K := K) T) hr (by decide) (pv 0)) (pe_callB (gLen (K := K)) (by rfl) (f_len T) PySem.boot_len (pa_cons (pv 2) pa_nil)) (nomark _))))) (pss_one (ps_ret pe_bl)) pss_nil)
      (pss_mq (pss_mqk3 (pss_cons (ps_expr (pe_bmK (K := K) PySem.F.plainAttrs_list PySem.F.slot_list_append PySem.F.type_list_append mt_append (pe_ix (gIx (K := K)) (pv 3) pe_int (fun _ _ => rfl)) (pa_cons pe_str pa_nil)))
      (pss_cons (ps_expr (pe_bm0K (K := K) PySem.F.plainAttrs_list PySem.F.slot_list_reverse PySem.F.type_list_reverse mt_reverse (pe_ix (gIx (K := K)) (pv 3) pe_int (fun _ _ => rfl))))
      (pss_cons (ps_expr (pe_bmK (K := K) PySem.F.plainAttrs_list PySem.F.slot_list_append PySem.F.type_list_append mt_append (pe_ix (gIx (K := K)) (pv 3) pe_int (fun _ _ => rfl)) (pa_cons (pe_tup (pa_cons pe_str (pa_cons pe_str pa_nil))) pa_nil)))
      (pss_one (ps_ret (pe_and (pe_cmpR (gEq (K := K) hr.units) (C8.pe_mt0 (ok_Web_points (K := K) T) hr (by decide) (pv 0)) (pv 1) (nomark _)) (pe_and (pe_cmpR (gEq (K := K) hr.units) (C8.pe_mt0 (ok_Web_ties (K := K) T) hr (by decide) (pv 0)) (pv 2) (nomark _)) (pe_one (pe_callB (isiK1 (K := K)) (by rfl) (f_isinstance T) (by decide +kernel) (pa_cons (C8.pe_mt0 (ok_Web_many (K := K) T) hr (by decide) (pv 0)) (pa_cons (pe_bltn (v := .ty "int") (by rfl) (f_int T) (by decide +kernel) rfl) pa_nil))))))))))))))))), ?_⟩
    refine run0 (N := ["_law_web_here", "_law_names_here", "_law_ties", "_law_told", "_law_tie_here"]) inferInstance h (fun ds R Xd h => ?_)
    obtain ⟨ns, ts, rfl, ok, q⟩ := h
    have hxs := T.xs
    have t20 := ok.t20
    have h9 := ok.n9
    walk_at "a"
    refine rst_of2 [_, _, _, _, _] [_, _, _, _, _] [_, _, _, _, _] rfl rfl rfl rfl ?_
    walk_at "a"
    have pl : PlD 3 (.lst [nmsD ns, tiesD ts]) := .lst fun d hd => by
      rcases List.mem_cons.mp hd with rfl | hd
      · exact .nms ok.names.ok
      · rw [List.mem_singleton.mp hd]
        exact .ties fun t ht => ⟨ok.names.ok _ (ok.ties t ht).1, ok.names.ok _ (ok.ties t ht).2.1⟩
    refine eqC_t (n := 3) (d := .lst [nmsD ns, tiesD ts]) pl (by decide) ?_
    walk_at "a"
    refine frC [_, _, _, _, _] rfl ?_
    refine lcm (lc_map _ ts (fun _ => D.bl true) (fun t ht k1 k2 h => ?_) ?_)
    · walk_at "a"
      exact h
    walk_at "a"
    rw [all_t]
    walk_at "a"
    rw [decide_eq_true (show ((ts.length : Nat) : Int) = (((ts.map tieD).length : Nat) : Int) by rw [List.length_map])]
    walk_at "a"
    refine mqS_of2 [_, _, _, _, _] [_, _, _, _, _] [_, _, _, _, _] rfl rfl rfl rfl ?_
    refine mqC_of2 [_, _, _, _, _] [_, _, _, _, _] [_, _, _, _, _] rfl rfl rfl ⟨_, _, rfl, by rw [List.length_map]; omega, by rw [List.length_map]; omega⟩ rfl ⟨rfl, fun j hj => by cases hj⟩ rfl ?_
    walk_at "a"
    refine eqC_t (n := 1) (d := nmsD ns) (.nms ok.names.ok) (by decide) ?_
    walk_at "a"
    refine eqC_t (n := 2) (d := tiesD ts) (.ties fun t ht => ⟨ok.names.ok _ (ok.ties t ht).1, ok.names.ok _ (ok.ties t ht).2.1⟩) (by decide) ?_
    walk_at "a"
    exact q
end PW

namespace PW
open PySem PySem.Spec PyProof.Rows L2
theorem WebOf.uniq {d1 d2 : D} {ns ns' : List Str} {ts ts' : List (Str × Str)} (w : WebOf d1 d2 ns ts) (g : WebOf d1 d2 ns' ts') : ns' = ns ∧ ts' = ts := by
  have e1 : ns' = ns := by
    have := g.pts
    rw [w.pts] at this
    exact (map_inj (fun a b z => by cases z; rfl) (Option.some.inj this)).symm
  obtain ⟨es, z, hl, ht⟩ := w.tie
  obtain ⟨es', z', hl', ht'⟩ := g.tie
  rw [z] at z'
  cases z'
  refine ⟨e1, List.ext_getElem? fun i => ?_⟩
  by_cases hi : i < ts.length
  · have a1 : ts[i]? = some ts[i] := List.getElem?_eq_getElem hi
    have a2 : ts'[i]? = some (ts'[i]'(by omega)) := List.getElem?_eq_getElem _
    obtain ⟨e, h1, h2⟩ := ht i _ a1
    obtain ⟨e', h3, h4⟩ := ht' i _ a2
    rw [h1] at h3
    cases h3
    rw [h2] at h4
    have h4 := Option.some.inj h4
    simp only [List.cons.injEq, D.str.injEq, and_true] at h4
    rw [a1, a2]
    exact congrArg some (Prod.ext h4.1.symm h4.2.symm)
  · rw [List.getElem?_eq_none (by omega), List.getElem?_eq_none (by omega)]
def HandOk (ts : List (Str × Str)) (ys : List D) : Prop := ys.length = ts.length ∧ ∀ (i : Nat) t y, ts[i]? = some t → ys[i]? = some y → y = tieD t ∨ y = pairD t
theorem HandOk.mem {ts : List (Str × Str)} {ys : List D} (h : HandOk ts ys) {y : D} (hy : y ∈ ys) : ∃ t ∈ ts, y = tieD t ∨ y = pairD t := by
  obtain ⟨i, hi⟩ := List.getElem?_of_mem hy
  have il := (List.getElem?_eq_some_iff.mp hi).1
  have a1 : ts[i]? = some (ts[i]'(by have := h.1; omega)) := List.getElem?_eq_getElem _
  exact ⟨_, List.mem_of_getElem? a1, h.2 i _ y a1 hi⟩
theorem init_hand {ns : List Str} {ts : List (Str × Str)} {A B : D} {ys : List D} {Q : D → Prop} {X : Exn → Prop} (ok : OkWeb ns ts) (hA : A.seq = some (ns.map D.str)) (hB : B.seq = some ys) (hy : HandOk ts ys) (q : Q (webD ns ts)) : fsInit [A, B] Q X := by
  have wo : WebOf A B ns ts := ⟨ok, hA, ys, hB, hy.1, fun i t h => by
    have il := (List.getElem?_eq_some_iff.mp h).1
    have a1 : ys[i]? = some (ys[i]'(by have := hy.1; omega)) := List.getElem?_eq_getElem _
    refine ⟨_, a1, ?_⟩
    rcases hy.2 i t _ h a1 with e | e
    · rw [e]
      rfl
    · rw [e]
      rfl⟩
  have rows : ∀ es, B.seq = some es → es.length ≤ 1000 ∧ ∀ e ∈ es, KnR e := fun es z => by
    rw [hB] at z
    cases z
    refine ⟨by rw [hy.1]; have := ok.t20; omega, fun e he => ?_⟩
    obtain ⟨t, ht, h⟩ := hy.mem he
    have tok := ok.ties t ht
    refine knr_names (ns := [t.1, t.2]) (fun x hx => by
      rcases List.mem_cons.mp hx with rfl | hx
      · exact ok.names.ok _ tok.1
      · rw [List.mem_singleton.mp hx]
        exact ok.names.ok _ tok.2.1) (by decide : 2 ≤ 1000) ?_
    rcases h with rfl | rfl <;> rfl
  have kB : KnRR B := by
    rcases row_kinds hB with rfl | rfl
    · exact ⟨⟨⟨_, rfl, rfl⟩, trivial⟩, rows⟩
    · exact ⟨⟨⟨_, rfl, rfl⟩, trivial⟩, rows⟩
  exact ⟨A, B, rfl, knr_names ok.names.ok (by have := ok.n9; omega) hA, kB, fun ns' ts' w => by obtain ⟨rfl, rfl⟩ := wo.uniq w; exact q, fun z => absurd wo (z ns ts)⟩
theorem okSp_of {ns : List Str} {ts : List (Str × Str)} {A B : D} {ys : List D} (ok : OkWeb ns ts) (hA : A.seq = some (ns.map D.str)) (hB : B.seq = some ys) (hy : HandOk ts ys) : okSp (.tup [A, B]) := by
  refine ⟨A, B, _, ys, rfl, hA, hB, fun e he => ?_, fun e he => ?_, by rw [List.length_map]; have := ok.n9; omega, by rw [hy.1]; have := ok.t20; omega⟩
  · obtain ⟨z, _, rfl⟩ := List.mem_map.mp he
    exact ⟨z, rfl⟩
  · obtain ⟨t, _, h | h⟩ := hy.mem he
    · exact .inr (.inl ⟨_, h⟩)
    · exact .inr (.inr ⟨_, h, by show 2 ≤ 1000; decide⟩)
theorem name_a : IsName "a" := ⟨[97], rfl, by decide, by decide, fun c hc => by rw [List.mem_singleton.mp hc]; exact ⟨by decide, by decide⟩⟩
theorem ok_a : OkWeb ["a"] [] := ⟨⟨List.nodup_cons.mpr ⟨List.not_mem_nil, List.nodup_nil⟩, fun x hx => by rw [List.mem_singleton.mp hx]; exact name_a⟩, by decide, by decide, by decide, fun t ht => by cases ht⟩
theorem np_seq {d : D} {es : List D} (h : d.seq = some es) (r : Bool) : noPotL [(r, d)] = true := by
  rcases row_kinds h with rfl | rfl <;> rfl
def Eld (y : Option Sl) : Prop := y = some (.sh true .non) ∨ ∃ ns ts, OkWeb ns ts ∧ y = some (.sh false (.tup [webD ns ts, nmsD ns, tiesD ts]))
theorem fn_law {P : Program} {w : World} {K : PySem.W.Frag} {mg : Str → Option Value} {base : Heap} (T : Top K mg) {fd : FuncData}
    (F : FunD K "law" "law" (defArgs s_law) (defBody s_law) (defScope s_law) [] [] (He.fAd K ("law", none)) fd) : FnOk P w K mg base C8.CX0 5 (He.fAd K ("law", none)) fd ["_law_script"] (spLaw K) := by
  refine fnok_of F sc_law (fun vs H Q E h => ?_) (fun cdv A outer s H vs Q E hr h => ?_)
  · obtain ⟨a, ns, rfl, _⟩ := h
    rfl
  · refine ⟨_, (pss_cons (ps_set (i := 1) sc_law.nd rfl (by first | exact Or.inl rfl | exact Or.inr rfl) pe_non)
      (pss_cons (ps_for PassesOwn.never rfl (pi_range1 (by rfl) (f_range T) (pa_cons (pe_callB (gMax2 rfl) (by rfl) (f_max T) (by decide +kernel) (pa_cons pe_int (pa_cons (pe_callB (gMin2 rfl) (by rfl) (f_min T) (by decide +kernel) (pa_cons (pe_callB (gLen (K := K)) (by rfl) (f_len T) PySem.boot_len (pa_cons (pv 0) pa_nil)) (pa_cons pe_int pa_nil))) pa_nil))) pa_nil)) (pg_name (i := 2) sc_law.nd rfl (by first | exact Or.inl rfl | exact Or.inr rfl)) (pss_cons (ps_set (i := 3) sc_law.nd rfl (by first | exact Or.inl rfl | exact Or.inr rfl) (C8.pe_c (ok_law_pot (K := K) T) hr (by decide) (by rfl) (pa_cons (pv 0) (pa_cons (pv 2) pa_nil))))
      (pss_cons (ps_asg (C8.pe_c (dk_law_web (K := K) T) hr (by decide) (by rfl) (pa_cons (pv 3) (pa_cons pe_int (pa_cons pe_int pa_nil)))) (pg_tupG (K := K) (n := 2) rfl (pgs_cons (pg_name (i := 4) sc_law.nd rfl (by first | exact Or.inl rfl | exact Or.inr rfl)) (pgs_cons (pg_name (i := 5) sc_law.nd rfl (by first | exact Or.inl rfl | exact Or.inr rfl)) pgs_nil))))
      (pss_fg [6, 7] (pss_rst2 (pss_cons (ps_set (i := 6) sc_law.nd rfl (by first | exact Or.inl rfl | exact Or.inr rfl) (C8.pe_c (ok_law_handed (K := K) T) hr (by decide) (by rfl) (pa_cons (pv 3) (pa_cons (pe_tup (pa_cons (pv 4) (pa_cons (pv 5) pa_nil))) pa_nil))))
      (pss_mid (pss_cons (ps_set (i := 7) sc_law.nd rfl (by first | exact Or.inl rfl | exact Or.inr rfl) (pe_mkX (ok_Web_init (K := K) T) takesN hr (by decide) (by rfl) (pa_cons (pe_ix (gIx (K := K)) (pv 6) pe_int (fun _ _ => rfl)) (pa_cons (pe_ix (gIx (K := K)) (pv 6) pe_int (fun _ _ => rfl)) pa_nil))))
      (pss_mk (pss_cons (ps_expr (C8.pe_c (ok_law_spoil (K := K) T) hr (by decide) (by rfl) (pa_cons (pv 6) pa_nil)))
      (pss_cons (ps_if (pt_not (pt_val (C8.pe_c (ok_law_tells (K := K) T) hr (by decide) (by rfl) (pa_cons (pv 7) (pa_cons (pv 4) (pa_cons (pv 5) pa_nil)))))) (pss_one (ps_ret pe_bl)) pss_nil)
      (pss_cons (ps_if (PW.pt (pw_and (pt_cmpR gNot (pv 1) pe_non (nomark _)) (pw_and1 (pt_not (pt_val (C8.pe_c (ok_law_tells (K := K) T) hr (by decide) (by rfl) (pa_cons (pe_ix (gIx (K := K)) (pv 1) pe_int (fun _ _ => rfl)) (pa_cons (pe_ix (gIx (K := K)) (pv 1) pe_int (fun _ _ => rfl)) (pa_cons (pe_ix (gIx (K := K)) (pv 1) pe_int (fun _ _ => rfl)) pa_nil))))))))) (pss_one (ps_ret pe_bl)) pss_nil)
      (pss_one (ps_set (i := 1) sc_law.nd rfl (by first | exact Or.inl rfl | exact Or.inr rfl) (pe_tup (pa_cons (pv 7) (pa_cons (pv 4) (pa_cons (pv 5) pa_nil))))))))))))))))))
      (pss_one (ps_ret (C8.pe_c (ok_law_tells (K := K) T) hr (by decide) (by rfl) (pa_cons (pe_mkX (ok_Web_init (K := K) T) takesN hr (by decide) (by rfl) (pa_cons (pe_lst (pa_cons pe_str pa_nil)) (pa_cons (pe_tup pa_nil) pa_nil))) (pa_cons (pe_lst (pa_cons pe_str pa_nil)) (pa_cons (pe_lst pa_nil) pa_nil)))))))), ?_⟩
    refine runS (N := ["_law_script", "_law_elder", "_law_k", "_law_pot_here", "_law_names_here", "_law_ties", "_law_handed_here", "_law_web_here"]) inferInstance (by decide) h (fun ns hlen => ?_)
    walk_at "a"
    refine frL [_, _, _, _, _, _, _, _] rfl ?_
    refine rangeU _ _ (fun r0 i ρ => ∃ (y x2 x3 x4 x5 x6 x7 : Option Sl), Eld y ∧ ρ = upF r0 [(1, y), (2, x2), (3, x3), (4, x4), (5, x5), (6, x6), (7, x7)]) ⟨_, _, _, _, _, _, _, .inl rfl, rfl⟩ ?_ ?_
    · rintro i ρ kk hi ⟨y, x2, x3, x4, x5, x6, x7, hy, rfl⟩ hk
      rcases hy with rfl | ⟨ms0, ts0, ok0, rfl⟩
      all_goals
        refine frG [_, _, _, _, _, _, _, _] rfl ?_
        walk_at "a"
        refine callC_of ⟨9, 20, rfl, by decide, by decide, by decide, by decide, fun ms ts ok hn ht => ?_⟩
        have h9 := ok.n9
        have t20 := ok.t20
        walk_at "a"
        refine rst_of2 [_, _, _, _, _, _, _, _] [_, _, _, _, _, _, _, _] [_, _, _, _, _, _, _, _] rfl rfl rfl rfl ?_
        walk_at "a"
        refine callC_of ⟨ms, ts, rfl, ok, fun A B ys hA hB hl hys => ?_⟩
        have ho : HandOk ts ys := ⟨hl, hys⟩
        walk_at "a"
        refine mid_of2 [_, _, _, _, _, _, _, _] [_, _, _, _, _, _, _, _] [_, _, _, _, _, _, _, _] rfl rfl rfl rfl ?_
        walk_at "a"
        refine ⟨npx (np_seq hA _) (np_seq hB _), callC_of (init_hand ok hA hB ho ?_)⟩
        walk_at "a"
        refine mk_of2 [_, _, _, _, _, _, _, _] [_, _, _, _, _, _, _, _] [_, _, _, _, _, _, _, _] rfl rfl rfl rfl (okSp_of ok hA hB ho) rfl ⟨rfl, fun j hj => by cases hj⟩ rfl ?_
        walk_at "a"
        refine callC_of ⟨ms, ts, rfl, ok, ?_⟩
        walk_at "a"
        first
          | (refine callC_of ⟨ms0, ts0, rfl, ok0, ?_⟩
             walk_at "a")
          | skip
        exact hk _ ⟨_, _, _, _, _, _, _, .inr ⟨ms, ts, ok, rfl⟩, rfl⟩
    · rintro ρ ⟨y, x2, x3, x4, x5, x6, x7, hy, rfl⟩
      walk_at "a"
      refine callC_of (init_hand (A := .lst [.str "a"]) (B := .tup []) (ys := []) ok_a rfl rfl ⟨rfl, fun i t y h => by cases h⟩ ?_)
      walk_at "a"
      refine callC_of ⟨["a"], [], rfl, ok_a, ?_⟩
      walk_at "a"
theorem law_end {P : Program} {w : World} {K : PySem.W.Frag} {mg : Str → Option Value} {fa : Addr} (T : Top K mg) (hmg : mg "law" = some (.ref fa)) :
    ∃ fd : FuncData, (∀ (s : Shared) (v : Value), BindsTo s fd ⟨[v], []⟩ [("_law_script", v)]) ∧ ∀ base : Heap, K.In base → base.Ns mainGlobals mg → FnOk P w K mg base C8.CX0 5 fa fd ["_law_script"] (spLaw K) := by
  obtain ⟨fd, F⟩ := fd_law T
  have e := hmg.symm.trans (g_law T)
  cases e
  exact ⟨fd, fun s v => FunD.bindsA (ps := ["_law_script"]) F bi_law s [v] rfl, fun base _ _ => fn_law T F⟩
end PW

namespace PW
open PySem PySem.W PySem.Calls PyProof.Rows
def loose0 : List PySem.Str := ["PointError", "NoWeb", "SMALL", "MOST_LETTERS", "MOST_POINTS", "MOST_TIES", "is_row", "is_name", "are_names", "is_pair", "Web", "_law_pot", "_law_take", "_law_names", "_law_mixed", "_law_tie", "_law_web", "_law_handed", "_law_spoil", "_law_tells"]
def loose : List PySem.Str := loose0
abbrev R : PySem.W.OpenRow := PySem.W.OpenLaw.row PySem.Challenge.rw_pointways_k11_webs_told
abbrev hk : PySem.W.Hook := hookE 5 fa fn xf
def ob (s : PySem.W.SharedT) : He.AlD × Bool := obsE 5 fa fn xf (HandSHeadRun.getT s)
theorem ob_eq (s : PySem.W.SharedT) : ob s = hk.obs s.abs := obsE_eq (HandSHeadRun.getT_eq s)
theorem run (w : World) : HandSHeadRun.RunEq R (PySem.W.view R.prog [23]) hk ob 4000 loose w := by
  intro os
  kernel_rfl
end PW
open PySem PySem.W PySem.Calls PyProof.Rows
set_option maxHeartbeats 0 in
theorem PySem.Challenge.cw_pointways_k11_webs_told_holds : PySem.Challenge.rw_pointways_k11_webs_told.Holds := by
  w_on; o_law
  refine HandSHeadRun.head_any (r := OpenLaw.row PySem.Challenge.rw_pointways_k11_webs_told)
    (q := view (OpenLaw.row PySem.Challenge.rw_pointways_k11_webs_told).prog [23]) (H := PW.hk) (ob := PW.ob) (M := 4000) (loose := PW.loose)
    (d := HandSHeadRun.topDef (OpenLaw.row PySem.Challenge.rw_pointways_k11_webs_told).prog 23) (kwd := []) PW.ob_eq (by kernel_rfl) (fun s => by kernel_rfl) PW.run
    (by kernel_rfl) (by kernel_rfl) (by kernel_rfl) (by rfl) (by first | assumption | decide +kernel) (by decide +kernel)
    ⟨rfl, rfl, rfl, rfl, rfl, by decide +kernel⟩ ?hw ?hc
  case hw => w_witness2
  case hc =>
    refine L2.walk_ofE (l := PySem.Challenge.rw_pointways_k11_webs_told) (n := 63) (k := 5) (x := "_law_script") (CX := C8.CX0)
      rfl (by decide) (by kernel_rfl) ⟨rfl, by decide, by decide⟩ ?F (fun _ _ _ _ z => z)
    intro w mg fa h Y G hmg0
    obtain ⟨K, KX, c, cx⟩ := Y
    have hmg : mg ("law" : PySem.Str) = some (.ref fa) := by
      have e : (HandSHeadRun.topDef (OpenLaw.row PySem.Challenge.rw_pointways_k11_webs_told).prog 23).name = ("law" : PySem.Str) := by kernel_rfl
      rw [← e]
      exact hmg0
    have T : PW.Top K mg := ⟨PW.TopOf.mk' KX G c, cx⟩
    obtain ⟨fd, hb, hF⟩ := PW.law_end (P := (PySem.Challenge.rw_pointways_k11_webs_told).prog) (w := w) T hmg
    exact ⟨K, fd, PW.spLaw K, KX, hb, fun H a ns hl _ hS => ⟨a, ns, rfl, hS, hl, fun _ => rfl⟩, hF⟩
