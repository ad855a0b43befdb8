import PyProof.Rows.All
import Wide.All
import OpenK.AllK
import Wide.FinOn
import HandS.ForMost
import HandS.Codes
import HandS.IsInst
import HandS.More
import HandS.Defaults
import HandS.Walk
import HandS.Deep
import HandS.Conv
import HandS.Zip
import HandS.Style
import HandS.Head0
import HandS.Head1
import HandS.Head2
import HandS.HeadEnd
import HandS.HeadHook1
import HandS.HeadHook2
import PySem.Challenge.RW_pointways_k17_refusals_made
import HandS.ExcInit
import KE.KExcIs
import HandS.ExcField
import HandS.SetFor
import KE.GoesZip
import KE.GoesMore
import HandS.ForExc
import HandS.TryMany
import HandS.ExcIs
import HandS.HotCalls
import HandS.ExcInitHot
import HandS.ExcValue
set_option synthInstance.maxSize 100000
set_option synthInstance.maxHeartbeats 2000000
set_option Elab.async false
set_option linter.all false
set_option maxRecDepth 100000
set_option maxHeartbeats 4000000
namespace PW
open PySem PySem.Spec PyProof.Rows L2
/-! ### what the top left, by names -/
structure TopOf (fa : List He.Fa) (fn : List He.DefD) (K : PySem.W.Frag) (mg : Str → Option Value) : Prop where
  says : He.SaysD fa fn K
  glo : ∀ x, (He.Fa.glo x).ok K = true → mg x = some (.ref (He.ga K x))
  free : ∀ x, (He.Fa.free x).ok K = true → mg x = none
  int : ∀ x i, (He.Fa.int x i).ok K = true → ∃ t, mg x = some (.int i t)
  str : ∀ x z, (He.Fa.str x z).ok K = true → ∃ t, mg x = some (.str z t)
theorem TopOf.mk' {fa : List He.Fa} {fn : List He.DefD} {K : PySem.W.Frag} {mg : Str → Option Value} {h : Heap} (X : K.In h) (G : h.Ns mainGlobals mg) (c : He.SaysD fa fn K) : TopOf fa fn K mg :=
  ⟨c, fun _ z => He.glo_ok X G z, fun _ z => He.free_ok X G z, fun _ _ z => He.int_ok X G z, fun _ _ z => He.str_ok X G z⟩
section
variable {P : Program} {w : World} {K : PySem.W.Frag} {mg : Str → Option Value} {base : Heap}
abbrev BodyOf (P : Program) (w : World) (K : PySem.W.Frag) (mg : Str → Option Value) (base : Heap) (N : List Str) (qual : Str) (sc : Scope) (bd : List Stmt) (f : Addr) (k : Nat) (sp : Sp) : Prop :=
  ∀ (cdv : Value) (A : Around) (outer : List Env) (s : Shared) (H : Hp) (vs : List V) (Q : VK) (E : XK), Room k (A.deeper (envOfC qual sc s.heap.objs.size f cdv)) → sp vs H Q E →
      ∃ t, PSs (cxOf C8.CX0 P w K mg base N qual sc f cdv A outer s H E).nox bd t ∧ t { nx := fun _ H' => Q .non H', rt := Q } (start N vs) H
abbrev BindOf (x qual : Str) (pa : Arguments) (bd : List Stmt) (sc : Scope) (ps : List Str) : Prop :=
  ∀ (kV doc pm : Value) (an : Option Addr) (cdv ct : Value) (us : List Value), us.length = ps.length → bindArgs (PySem.W.fnOf x qual pa bd sc .none kV doc pm an cdv ct) ⟨us, []⟩ = pure (ps.zip us)
theorem fnok_of {x qual : Str} {pa : Arguments} {bd : List Stmt} {sc : Scope} {f : Addr} {fd : FuncData} {N ps : List Str} {k : Nat} {sp : Sp} (F : FunD K x qual pa bd sc [] [] f fd) (S : FnScope N ps sc)
    (len : ∀ vs H Q E, sp vs H Q E → vs.length = ps.length) (hbody : BodyOf P w K mg base N qual sc bd f k sp) : FnOk P w K mg base C8.CX0 (k + 1) f fd ps sp := by
  refine F.ok S len fun cdv A outer s H vs Q E hr h => ?_
  obtain ⟨t, a, b⟩ := hbody cdv A outer s H vs Q E hr h
  exact ⟨t, a.nox, b⟩
/-- a def by its body -/
theorem cal_of {x : Str} {pa : Arguments} {bd : List Stmt} {sc : Scope} {f : Addr} {N ps : List Str} {k : Nat} {sp : Sp} (F : ∃ fd, FunD K x x pa bd sc [] [] f fd) (hm : mg x = some (.ref f)) (S : FnScope N ps sc)
    (hb : BindOf x x pa bd sc ps) (len : ∀ vs H Q E, sp vs H Q E → vs.length = ps.length) (hbody : BodyOf P w K mg base N x sc bd f k sp) : C8.Cal P w K mg base (k + 1) x sp [] := by
  obtain ⟨fd, F⟩ := F
  exact ⟨f, fd, ps, [], fnok_of F S len hbody, hm, F.kp, F.bindsN hb, .nil⟩
/-- a method by its body -/
theorem met_of {m qual : Str} {C : Addr} {pa : Arguments} {bd : List Stmt} {sc : Scope} {f : Addr} {N ps : List Str} {k : Nat} {sp : Sp} (c : Cls K C) (me : Meth K C m f) (F : ∃ fd, FunD K m qual pa bd sc [] [] f fd) (S : FnScope N ps sc)
    (hb : BindOf m qual pa bd sc ps) (len : ∀ vs H Q E, sp vs H Q E → vs.length = ps.length) (hbody : BodyOf P w K mg base N qual sc bd f k sp) : C8.Met P w K mg base (k + 1) C m sp [] := by
  obtain ⟨fd, F⟩ := F
  exact ⟨f, fd, ps, [], c, me, fnok_of F S len hbody, F.bindsN hb, .nil⟩
/-- a class by its __init__'s body -/
theorem mak_of {x qual : Str} {C : Addr} {pa : Arguments} {bd : List Stmt} {sc : Scope} {f : Addr} {N ps : List Str} {k : Nat} {sp : Sp} (M : Mk K C f) (hm : mg x = some (.ref C)) (F : ∃ fd, FunD K "__init__" qual pa bd sc [] [] f fd) (S : FnScope N ps sc)
    (hb : BindOf "__init__" qual pa bd sc ps) (len : ∀ vs H Q E, sp vs H Q E → vs.length = ps.length) (hbody : BodyOf P w K mg base N qual sc bd f k sp) : C8.Mak P w K mg base (k + 1) x C sp [] := by
  obtain ⟨fd, F⟩ := F
  exact ⟨f, fd, ps, [], M, fnok_of F S len hbody, hm, F.bindsN hb, .nil⟩
end
/-! ### the layer's rules with the written part by its own name (so that a comprehension's reading holds none of its frame) -/
section
variable {X : Cx} {K : PySem.W.Frag}
def rLenK (K : PySem.W.Frag) : List V → Hp → VK → Prop := fun xs H Q => ∃ p ys, xs = [V.ref p] ∧ (SqL K H p ys ∨ SqT K H p ys) ∧ Q (.int ys.length) H
def rListK (K : PySem.W.Frag) : List V → Hp → VK → Prop := fun xs H Q => ∃ p ys, xs = [V.ref p] ∧ (SqL K H p ys ∨ SqT K H p ys) ∧ ∀ l, H l = none → Q (.ref l) (upd H l (.lst ys))
def rTupK (K : PySem.W.Frag) : List V → Hp → VK → Prop := fun xs H Q => ∃ p ys, xs = [V.ref p] ∧ ((SqL K H p ys ∧ ∀ l, H l = none → Q (.ref l) (upd H l (.tup ys))) ∨ (SqT K H p ys ∧ Q (.ref p) H))
theorem ixL (h : X.K = K := by rfl) : IxR X (rIxL K) := by
  subst h
  exact ix_list
theorem ixT (h : X.K = K := by rfl) : IxR X (rIxT K) := by
  subst h
  exact ix_tup
theorem inSeq (h : X.K = K := by rfl) : OpR X (compareOp .In) (rIn K false) := by
  subst h
  exact op_in_seq
theorem notInSeq (h : X.K = K := by rfl) : OpR X (compareOp .NotIn) (rIn K true) := by
  subst h
  exact op_notIn_seq
theorem eqDK (hu : X.A.units + 64 < cLine) (h : X.K = K := by rfl) : OpR X (compareOp .Eq) (rEqD K) := by
  subst h
  exact op_eqD hu
theorem neDK (hu : X.A.units + 64 < cLine) (h : X.K = K := by rfl) : OpR X (compareOp .NotEq) (rNeD K) := by
  subst h
  exact op_neD hu
theorem inDK (hu : X.A.units + 65 < cLine) (h : X.K = K := by rfl) : OpR X (compareOp .In) (rInD K) := by
  subst h
  exact op_inD hu
theorem notInDK (hu : X.A.units + 65 < cLine) (h : X.K = K := by rfl) : OpR X (compareOp .NotIn) (rNotInD K) := by
  subst h
  exact op_notInD hu
theorem u65 {k : Nat} {A : Around} (r : Room k A) : A.units + 65 < cLine := by
  have := r.un
  omega
theorem lookup_relabel {env : Env} : ∀ {names : List (Str × NameKind)} {x : Str}, names.lookup x = some .cell ∨ names.lookup x = some .free →
    (names.map fun (n, k) => if (k == NameKind.free && env.scope.kind == .function && env.kindOf n == some .cell) then (n, NameKind.cell) else (n, k)).lookup x = some .cell ∨ (names.map fun (n, k) => if (k == NameKind.free && env.scope.kind == .function && env.kindOf n == some .cell) then (n, NameKind.cell) else (n, k)).lookup x = some .free
  | [], _, h => by simp at h
  | (n, k) :: r, x, h => by
    have ih := @lookup_relabel env r x
    rw [List.map_cons]
    generalize hc : (k == NameKind.free && env.scope.kind == .function && env.kindOf n == some .cell) = c
    by_cases e : (x == n) = true
    · rw [List.lookup_cons, e] at h
      cases c with
      | true =>
        left
        show List.lookup x ((if (k == NameKind.free && env.scope.kind == .function && env.kindOf n == some .cell) = true then (n, NameKind.cell) else (n, k)) :: _) = _
        rw [hc, if_pos rfl, List.lookup_cons, e]
      | false =>
        show List.lookup x ((if (k == NameKind.free && env.scope.kind == .function && env.kindOf n == some .cell) = true then (n, NameKind.cell) else (n, k)) :: _) = _ ∨ List.lookup x ((if (k == NameKind.free && env.scope.kind == .function && env.kindOf n == some .cell) = true then (n, NameKind.cell) else (n, k)) :: _) = _
        rw [hc, if_neg Bool.false_ne_true, List.lookup_cons, e]
        exact h
    · have e' : (x == n) = false := Bool.eq_false_iff.mpr e
      rw [List.lookup_cons, e'] at h
      show List.lookup x ((if (k == NameKind.free && env.scope.kind == .function && env.kindOf n == some .cell) = true then (n, NameKind.cell) else (n, k)) :: _) = _ ∨ List.lookup x ((if (k == NameKind.free && env.scope.kind == .function && env.kindOf n == some .cell) = true then (n, NameKind.cell) else (n, k)) :: _) = _
      rw [hc]
      cases c with
      | true =>
        rw [if_pos rfl, List.lookup_cons, e']
        exact ih h
      | false =>
        rw [if_neg Bool.false_ne_true, List.lookup_cons, e']
        exact ih h
/-- a comprehension in a comprehension: sc is the outer one's scope as it is written -/
theorem blkOk_in {N : List Str} {sc scope : Scope} {env : Env} {own : List (Str × Nat)} (h : blkC N sc scope own = true) : BlkOk N (relabel sc env) scope own := by
  have b := blkOk_by h
  exact ⟨b.kind, b.uniq, b.ix, fun y hy e => lookup_relabel (b.free y hy e), b.own⟩
def iOr (w1 w2 : TI) : TI := fun σ H R => w1 σ H R ∨ w2 σ H R
def tOrE (t1 t2 : TE) : TE := fun σ H Q => t1 σ H Q ∨ t2 σ H Q
theorem pi_or {tg l : Expr} {w1 w2 : TI} (a : PI X tg l w1) (b : PI X tg l w2) : PI X tg l (iOr w1 w2) :=
  ⟨fun pins s σ H R I h => h.elim (fun z => a.run pins s σ H R I z) fun z => b.run pins s σ H R I z⟩
theorem pe_orE {e : Expr} {t1 t2 : TE} (a : PE X e t1) (b : PE X e t2) : PE X e (tOrE t1 t2) :=
  ⟨fun pins s σ H Q I h => h.elim (fun z => a.run pins s σ H Q I z) fun z => b.run pins s σ H Q I z⟩
theorem pi_listK {tg l : Expr} {tl : TE} (a : PE X l tl) (h : X.K = K := by rfl) : PI X tg l (iList K tl) := by
  subst h
  exact pi_list a
theorem pi_tupK {tg l : Expr} {tl : TE} (a : PE X l tl) (h : X.K = K := by rfl) : PI X tg l (iTup K tl) := by
  subst h
  exact pi_tup a
theorem pe_bmK {T id : String} {name : Str} {o e : Expr} {es : List Expr} {to : TE} {t : TA} {r : V → List V → Hp → VK → Prop} {apos cpos : Pos} (pa : PlainAttrs T) (slot : Slot T name id) (hty : typeOf (.builtin id) = pure (.type "method_descriptor")) (hm : MtR X id r) (ho : PE X o to) (ha : PA X (e :: es) t)
    (hK : X.K = K := by rfl) (hbase : attributeBase o name X.env (eval o X.env) = eval o X.env := by rfl) (hfew : ((backTo cpos (starEach (e :: es) X.env)).all (fun x => !x.1) && (backToKw cpos (keywordEach [] X.env)).all (fun x => x.1.isSome) && decide ((e :: es).length + ([] : List Keyword).length + (if ([] : List Keyword).isEmpty then 0 else 1) < 30)) = true := by rfl)
    (hl : (apos.endLine == cpos.line) = true := by rfl) (hs : starEach (e :: es) X.env = (false, eval e X.env) :: starEach es X.env := by rfl) (hp : (backTo cpos (starEach es X.env)).any (·.1) = false := by rfl) : PE X (.Call (.Attribute o name apos) (e :: es) [] cpos) (tBM K T r to t) := by
  subst hK
  exact pe_bm pa slot hty hm ho ha hbase hfew hl hs hp
theorem pe_bm0K {T id : String} {name : Str} {o : Expr} {to : TE} {r : V → List V → Hp → VK → Prop} {apos cpos : Pos} (pa : PlainAttrs T) (slot : Slot T name id) (hty : typeOf (.builtin id) = pure (.type "method_descriptor")) (hm : MtR X id r) (ho : PE X o to)
    (hK : X.K = K := by rfl) (hbase : attributeBase o name X.env (eval o X.env) = eval o X.env := by rfl) (hl : (apos.endLine == cpos.line) = true := by rfl) : PE X (.Call (.Attribute o name apos) [] [] cpos) (tBM0 K T r to) := by
  subst hK
  exact pe_bm0 pa slot hty hm ho hbase hl
theorem pe_fldK {e : Expr} {f : Str} {ta : TE} {pos : Pos} (he : PE X e ta) (hb : attributeBase e f X.env (eval e X.env) = eval e X.env) (hK : X.K = K := by rfl) : PE X (.Attribute e f pos) (tFld K ta f) := by
  subst hK
  exact pe_fld he hb
def rDictK (K : PySem.W.Frag) : List V → Hp → VK → Prop := fun xs H Q => ∃ (a : Addr) (ps : List Addr) (kvs : List (Key × V)), xs = [V.ref a] ∧ SqL K H a (ps.map V.ref) ∧ Paired (fun p kv => SqT K H p [kV kv.1, kv.2]) ps kvs ∧ ∀ q, H q = none → Q (.ref q) (upd H q (.dK (mergeK [] kvs)))
theorem dictK (hc : X.calm = true) (h : X.K = K := by rfl) : CallR X (.type "dict") (rDictK K) := by
  subst h
  exact call_dictP hc
theorem lenK (h : X.K = K := by rfl) : CallR X (.builtin "len") (rLenK K) := by
  subst h
  exact call_len_seq
theorem listK (h : X.K = K := by rfl) : CallR X (.type "list") (rListK K) := by
  subst h
  exact call_list_of
theorem tupK (h : X.K = K := by rfl) : CallR X (.type "tuple") (rTupK K) := by
  subst h
  exact call_tuple_of
theorem allK (hc : X.calm = true) (h : X.K = K := by rfl) : CallR X (.builtin "all") (rAll K) := by
  subst h
  exact cr_all hc
theorem anyK (hc : X.calm = true) (h : X.K = K := by rfl) : CallR X (.builtin "any") (rAny K) := by
  subst h
  exact cr_any hc
theorem sumK (hc : X.calm = true) (h : X.K = K := by rfl) : CallR X (.builtin "sum") (rSum K) := by
  subst h
  exact cr_sum hc
theorem maxK (hc : X.calm = true) (h : X.K = K := by rfl) : CallR X (.builtin "max") (rMax K) := by
  subst h
  exact cr_max hc
theorem minK (hc : X.calm = true) (h : X.K = K := by rfl) : CallR X (.builtin "min") (rMin K) := by
  subst h
  exact cr_min hc
def rIsiY (K : PySem.W.Frag) : List V → Hp → VK → Prop := fun xs H Q => rIsi K xs H Q ∨ ∃ (a : Addr) (o : Obj) (kvs : List (List Key × V)) (c : V) (u : Value) (b : Bool), xs = [.ref a, c] ∧ ClsV c u ∧ H a = some (.frz o (.dT kvs)) ∧ PySem.W.kitOne K (.type "dict") u = some b ∧ Q (.bl b) H
def rIsiTY (K : PySem.W.Frag) : List V → Hp → VK → Prop := fun xs H Q => rIsiT K xs H Q ∨ ∃ (a : Addr) (o : Obj) (kvs : List (List Key × V)) (tp : Addr) (cs : List V) (us : List Value) (b : Bool), xs = [.ref a, .ref tp] ∧ H tp = some (.tup cs) ∧ Paired ClsV cs us ∧ H a = some (.frz o (.dT kvs)) ∧ PySem.W.kitAny K (.type "dict") us = some b ∧ Q (.bl b) H
theorem isiK1 (h : X.K = K := by rfl) : CallR X (.builtin "isinstance") (rIsiY K) := by
  subst h
  intro pins s σ H xs us Q I r h
  rcases h with h | ⟨a, o, kvs, c, u, b, rfl, k, ha, e, q⟩
  · exact call_isi pins s σ H xs us Q I r h
  · obtain ⟨u1, u2, rfl, r1, r2⟩ := vals2 r
    have e2 := k.eq r2
    subst e2
    cases (show u1 = Value.ref a from r1)
    obtain ⟨_, _, _, xs, _, o2, es, ep, h1, h2, _⟩ := (show ObjOk X.prog X.w H s.heap a (.frz o (.dT kvs)) from I.hok a _ ha)
    exact PySem.W.kia_one PySem.W.kitx_dict I.kIn ⟨o2, h1, h2.1⟩ e (fun z => nomatch z) fun tk => ⟨.bl b, H, I.tok tk, rfl, q⟩
theorem isiKT (h : X.K = K := by rfl) : CallR X (.builtin "isinstance") (rIsiTY K) := by
  subst h
  intro pins s σ H xs us Q I r h
  rcases h with h | ⟨a, o, kvs, tp, cs, ws, b, rfl, hT, k, ha, e, q⟩
  · exact call_isiT pins s σ H xs us Q I r h
  · obtain ⟨u1, u2, rfl, r1, r2⟩ := vals2 r
    cases (show u1 = Value.ref a from r1)
    cases (show u2 = Value.ref tp from r2)
    obtain ⟨_, _, _, xs, _, o2, es, ep, z1, z2, _⟩ := (show ObjOk X.prog X.w H s.heap a (.frz o (.dT kvs)) from I.hok a _ ha)
    obtain ⟨_, its, rv, ot, h1, h2, n, h3⟩ := (show ObjOk X.prog X.w H s.heap tp (.tup cs) from I.hok tp _ hT)
    have e3 := ClsV.all k rv
    subst e3
    obtain ⟨oc, od, dt, sl⟩ := ot
    simp only at h2 h3
    subst h2 h3
    exact PySem.W.kia_tup PySem.W.kitx_dict I.kIn ⟨o2, z1, z2.1⟩ h1 e (fun z => nomatch z) fun tk => ⟨.bl b, H, I.tok tk, rfl, q⟩
theorem slLK (h : X.K = K := by rfl) : SlR X (rSlL K) := by
  subst h
  exact sl_list
theorem slTK (h : X.K = K := by rfl) : SlR X (rSlT K) := by
  subst h
  exact sl_tup
theorem mtIndexK (h : X.K = K := by rfl) : MtR X "list.index" (rIndex K) := by
  subst h
  exact mt_index
end
end PW

local macro_rules | `(tactic| walk_at "same") => `(tactic| first
  | assumption
  | exact L2.Same.refl _
  | (with_reducible refine' PW.sameIn ?h ?e; (case h => walk_at "free"); (case e => walk_at "same"))
  | (refine' L2.Same.trans ?e ?f; (case f => assumption); (case e => walk_at "same")))
local macro_rules | `(tactic| walk_at "free") => `(tactic| first
  | assumption
  | (refine' PW.freeS ?h ?e; (case h => assumption); (case e => walk_at "same"))
  | (refine' PW.freeK ?h ?n ?e; (case h => assumption); (case e => walk_at "kp"); (case n => walk_at "ne")))
local macro_rules | `(tactic| walk_at "kp") => `(tactic| first
  | assumption
  | exact PW.Kp.refl _ _
  | (with_reducible refine' PW.kpWr ?e; (case e => walk_at "kp"))
  | (with_reducible refine' PW.kpIn ?h ?e; (case e => walk_at "kp"); (case h => walk_at "free"))
  | (refine' PW.kpS ?e ?s; (case s => assumption); (case e => walk_at "kp"))
  | (refine' PW.Kp.trans ?e ?f; (case f => assumption); (case e => walk_at "kp"))
  | (refine' PW.Kp.same ?e; (case e => walk_at "same")))
local macro_rules | `(tactic| walk_at "hp") => `(tactic| first
  | assumption
  | with_reducible exact L2.upd_same
  | (refine' PW.hpS ?h ?e; (case h => assumption); (case e => walk_at "same"))
  | (refine' PW.hpK ?h ?n ?e; (case h => assumption); (case e => walk_at "kp"); (case n => walk_at "ne")))
local macro_rules | `(tactic| walk_at "ne") => `(tactic| first
  | assumption
  | (refine' Ne.symm ?h; (case h => assumption))
  | (refine' PW.neN1 ?h ?g; (case h => assumption); (case g => walk_at "hp"))
  | (refine' PW.neN2 ?h ?g; (case h => assumption); (case g => walk_at "hp"))
  | (refine' PW.neP1 ?h ?g; (case h => assumption); (case g => walk_at "pot"))
  | (refine' PW.neP2 ?h ?g; (case h => assumption); (case g => walk_at "pot")))
local macro_rules | `(tactic| walk_at "pot") => `(tactic| first
  | assumption
  | (refine' PW.Pot.same ?h ?e; (case h => assumption); (case e => walk_at "same"))
  | (with_reducible refine' PW.Pot.into ?h ?n; (case n => walk_at "ne"); (case h => walk_at "pot")))
local macro_rules | `(tactic| walk_at "fact") => `(tactic| first
  | assumption
  | (with_reducible refine' PW.DatAt.same ?h ?e; (case h => assumption); (case e => walk_at "same"))
  | (with_reducible refine' PW.DatAt.kp ?h ?hp ?na ?nb ?e; (case h => assumption); (case e => walk_at "kp"); (case hp => walk_at "pot"); (case na => walk_at "ne"); (case nb => walk_at "ne"))
  | (with_reducible refine' PW.WebAt.same ?h ?e; (case h => assumption); (case e => walk_at "same"))
  | (with_reducible refine' PW.WebAt.kp ?h ?hp ?n1 ?e; (case h => assumption); (case e => walk_at "kp"); (case hp => walk_at "pot"); (case n1 => first | assumption | (refine PW.WebOk.n1 (ats := ?x) ?y; assumption)))
  | (with_reducible refine' PW.TupsAt.same ?h ?e; (case h => assumption); (case e => walk_at "same"))
  | (with_reducible refine' PW.TupsAt.kp ?h ?hp ?e; (case h => assumption); (case e => walk_at "kp"); (case hp => walk_at "pot"))
  | (with_reducible refine' PW.LstsAt.same ?h ?e; (case h => assumption); (case e => walk_at "same")))
local macro_rules | `(tactic| walk_at "sq") => `(tactic| first
  | assumption
  | (with_reducible refine' L2.SqL.of ?h; (case h => walk_at "hp"))
  | (with_reducible refine' L2.SqT.of ?h; (case h => walk_at "hp"))
  | (with_reducible refine' PW.sqlS ?h ?e; (case h => assumption); (case e => walk_at "same"))
  | (with_reducible refine' Or.inl ?h; (case h => walk_at "sq"))
  | (with_reducible refine' Or.inr ?h; (case h => walk_at "sq"))
  | (with_reducible refine' PW.rowO.sq ?h; (case h => walk_at "hp"))
  | (with_reducible refine' Exists.intro ?w ?h; (case h => walk_at "sq")))
local macro_rules | `(tactic| walk_at "cl") => `(tactic| first
  | assumption
  | rfl
  | walk_at "sq"
  | (with_reducible refine' Or.inl ⟨rfl, ?w, ?h⟩; (case h => walk_at "sq"))
  | (with_reducible refine' L2.DGet.k (k := Sum.inr _) ?h; (case h => walk_at "hp"))
  | exact L2.ClsV.ty _
  | exact L2.TyX.base (.int _)
  | exact L2.TyX.base (.str _)
  | (with_reducible refine' L2.kit_ty (b := true) ?h; (case h => decide +kernel))
  | (with_reducible refine' L2.kit_ty (b := false) ?h; (case h => decide +kernel))
  | exact PW.flat_strs _
  | exact PW.sz0 | exact PW.sz1 | exact PW.sz2 | exact PW.sz3 | exact PW.sz4
  | walk_at "fact" | walk_at "hp" | walk_at "ne" | walk_at "pot" | walk_at "same" | walk_at "kp" | walk_at "free"
  | omega)
local macro_rules | `(tactic| walk_at "rd1") => `(tactic| first
  | (refine' And.intro ?l ?r; (case l => walk_at "cl"))
  | ((fail_if_success (refine' Exists.intro (α := (_ → _)) ?w ?r)); refine' Exists.intro ?w ?r; rotate_left))
local macro_rules | `(tactic| walk_at "rd") => `(tactic| repeat walk_at "rd1")

namespace PW
open PySem PySem.Spec PyProof.Rows L2
/-! ### raise C(x, ..), C an own class of refusals whose __init__ calls its base's and keeps its values -/
def oexB (K : PySem.W.Frag) (C : Addr) : Bool := (match K.lookup C with
  | some ⟨.type "type", _, .cls cd, sl⟩ => (match cd.mro, sl.toList with
    | .ref C' :: bm, [_, _, _, _, some (.builtin n), _] => C' == C && n == "ValueError.__new__" && !cd.hasDel && cd.hasDict && PySem.HandSPX.refsVE bm
    | _, _ => false)
  | _ => false) &&
  (decide (PySem.W.findIn K (.ref C) "__setattr__" = some (some (.builtin "object.__setattr__"))) && (decide (PySem.W.subIn K (.ref C) (.type "BaseException") = some true) && (decide (PySem.W.typeIn K (.ref C) = some (.type "type")) && PySem.W.keepIn K (.ref C))))
theorem oexB_ok {K : PySem.W.Frag} {C : Addr} (h : oexB K C = true) : L2.OexC K C := by
  unfold oexB at h
  rw [Bool.and_eq_true, Bool.and_eq_true, Bool.and_eq_true, Bool.and_eq_true, decide_eq_true_iff, decide_eq_true_iff, decide_eq_true_iff] at h
  obtain ⟨q, h1, h2, h3, h4⟩ := h
  refine ⟨?_, h1, h2, h3, h4⟩
  split at q
  · rename_i dd cd sl ho
    split at q
    · rename_i C' bm k0 k1 k2 k3 n k5 hm hs
      simp only [Bool.and_eq_true, beq_iff_eq, Bool.not_eq_true'] at q
      obtain ⟨⟨⟨⟨rfl, rfl⟩, hdel⟩, hdc⟩, hbm⟩ := q
      obtain ⟨nm, bs, mro, ns, qn, hd, sn, sub, ab, col, del⟩ := cd
      dsimp only at hm hdel hdc
      subst hm hdel hdc
      have hsl : sl = #[k0, k1, k2, k3, some (.builtin "ValueError.__new__"), k5] := by
        obtain ⟨l⟩ := sl
        simp only at hs
        rw [hs]
      subst hsl
      exact ⟨nm, qn, ns, bs, bm, sn, sub, ab, col, dd, k0, k1, k2, k3, k5, ho, hbm⟩
    · cases q
  · cases q
/-- what of the base is read -/
structure ParC (K : PySem.W.Frag) (P : Addr) : Prop where
  rd : PySem.W.readsIn K P (.type "type") = true
  ga : PySem.W.specialIn K (.ref P) "__getattribute__" = some (some (.builtin "type.__getattribute__"))
  fi : PySem.W.findCls K (.ref P) (.type "type") "__init__" = some (.val (.builtin "ValueError.__init__"))
def parB (K : PySem.W.Frag) (P : Addr) : Bool := PySem.W.readsIn K P (.type "type") && (decide (PySem.W.specialIn K (.ref P) "__getattribute__" = some (some (.builtin "type.__getattribute__"))) && (match PySem.W.findCls K (.ref P) (.type "type") "__init__" with
  | some (.val v) => decide (v = .builtin "ValueError.__init__")
  | _ => false))
theorem parB_ok {K : PySem.W.Frag} {P : Addr} (h : parB K P = true) : ParC K P := by
  unfold parB at h
  rw [Bool.and_eq_true, Bool.and_eq_true, decide_eq_true_iff] at h
  obtain ⟨h1, h2, h3⟩ := h
  refine ⟨h1, h2, ?_⟩
  split at h3
  · rename_i v e
    rw [e, of_decide_eq_true h3]
  · cases h3
end PW

namespace PW
open PySem PySem.Spec PyProof.Rows L2
/-! ### more facts of the top: classes of exceptions -/
inductive Xf where
  | is (x : Str)
  | kit (x y : Str) (b : Bool)
  | kitB (x : Str) (t : String) (b : Bool)
  | fld (x f : Str)
  | oex (x : Str)
  | par (x : Str)
def xcB (K : PySem.W.Frag) (C : Addr) : Bool := (PySem.W.clsIn K C).isSome && (decide (PySem.W.findIn K (.ref C) "__getattribute__" = some (some (.builtin "BaseException.__getattribute__"))) && (decide (PySem.W.findIn K (.ref C) "__getattr__" = some none) &&
  (decide (PySem.W.subIn K (.ref C) (.type "BaseException") = some true) && (decide (PySem.W.findIn K (.ref C) "__class__" = some (some (.builtin "object.__class__"))) && (decide (PySem.W.specialIn K (.builtin "object.__class__") "__get__" = some (some (.builtin "getset_descriptor.__get__"))) &&
  (decide (PySem.W.takesIn K (.builtin "object.__class__") = some true) && decide (PySem.W.mroIn K C (.type "object") = some true)))))))
structure XcC (K : PySem.W.Frag) (C : Addr) : Prop where
  cl : (PySem.W.clsIn K C).isSome = true
  ga : PySem.W.findIn K (.ref C) "__getattribute__" = some (some (.builtin "BaseException.__getattribute__"))
  gg : PySem.W.findIn K (.ref C) "__getattr__" = some none
  sb : PySem.W.subIn K (.ref C) (.type "BaseException") = some true
  cc : PySem.W.findIn K (.ref C) "__class__" = some (some (.builtin "object.__class__"))
  sp : PySem.W.specialIn K (.builtin "object.__class__") "__get__" = some (some (.builtin "getset_descriptor.__get__"))
  tk : PySem.W.takesIn K (.builtin "object.__class__") = some true
  mo : PySem.W.mroIn K C (.type "object") = some true
theorem xcB_ok {K : PySem.W.Frag} {C : Addr} (h : xcB K C = true) : XcC K C := by
  unfold xcB at h
  simp only [Bool.and_eq_true, decide_eq_true_eq] at h
  obtain ⟨h1, h2, h3, h4, h5, h6, h7, h8⟩ := h
  exact ⟨h1, h2, h3, h4, h5, h6, h7, h8⟩
def Xf.ok (K : PySem.W.Frag) : Xf → Bool
  | .is x => xcB K (He.ga K x)
  | .kit x y b => decide (PySem.W.kitOne K (.ref (He.ga K x)) (.ref (He.ga K y)) = some b)
  | .kitB x t b => decide (PySem.W.kitOne K (.ref (He.ga K x)) (.type t) = some b)
  | .fld x f => xfB K (He.ga K x) && decide (PySem.W.findIn K (.ref (He.ga K x)) f = some none)
  | .oex x => oexB K (He.ga K x) && (decide (PySem.W.findIn K (.ref (He.ga K x)) "__init__" = some (some (.ref (He.fAd K (x, some "__init__"))))) && decide (PySem.W.typeIn K (.ref (He.fAd K (x, some "__init__"))) = some (.type "function")))
  | .par x => parB K (He.ga K x)
def obsE (n : Nat) (fa : List He.Fa) (fn : List He.DefD) (xf : List Xf) (g : Addr → Option Obj) : He.AlD × Bool := (He.obsD fa fn (He.frG g (He.asD g n ++ [PySem.cStatics])), xf.all fun f => f.ok (He.frG g (He.asD g n ++ [PySem.cStatics])))
def hookE (n : Nat) (fa : List He.Fa) (fn : List He.DefD) (xf : List Xf) : PySem.W.Hook where
  α := He.AlD × Bool
  obs := fun s => obsE n fa fn xf s.heap.get?
  val := fun _ => (He.valD fn, true)
  says := fun _ h => ∃ K : PySem.W.Frag, K.In h ∧ He.SaysD fa fn K ∧ (xf.all fun f => f.ok K) = true
  of := fun _ _ e => ⟨_, He.frG_in, congrArg (fun z : He.AlD × Bool => z.1) e, congrArg (fun z : He.AlD × Bool => z.2) e⟩
  keeps := fun _ _ _ ⟨K, hK, c, d⟩ k => ⟨K, PySem.W.Frag.In.keeps hK k, c, d⟩
theorem obsE_eq {n : Nat} {fa : List He.Fa} {fn : List He.DefD} {xf : List Xf} {g : Addr → Option Obj} {s : Shared} (h : ∀ a, g a = s.heap.get? a) : obsE n fa fn xf g = (hookE n fa fn xf).obs s := by
  cases (funext h : g = s.heap.get?)
  rfl
structure TopE (fa : List He.Fa) (fn : List He.DefD) (xf : List Xf) (K : PySem.W.Frag) (mg : Str → Option Value) : Prop extends TopOf fa fn K mg where
  xs : (xf.all fun f => f.ok K) = true
section
variable {K : PySem.W.Frag} {xf : List Xf}
theorem xf_mem (h : (xf.all fun f => f.ok K) = true) {f : Xf} (m : f ∈ xf) : f.ok K = true := List.all_eq_true.mp h f m
def hasOex (xf : List Xf) (x : Str) : Bool := xf.any fun f => match f with
  | .oex y => decide (y = x)
  | _ => false
def hasPar (xf : List Xf) (x : Str) : Bool := xf.any fun f => match f with
  | .par y => decide (y = x)
  | _ => false
theorem oex_get (h : (xf.all fun f => f.ok K) = true) {x : Str} (e : hasOex xf x = true) : L2.OexC K (He.ga K x) ∧ PySem.W.findIn K (.ref (He.ga K x)) "__init__" = some (some (.ref (He.fAd K (x, some "__init__")))) ∧ PySem.W.typeIn K (.ref (He.fAd K (x, some "__init__"))) = some (.type "function") := by
  obtain ⟨f, hf, e⟩ := List.any_eq_true.mp e
  have g := xf_mem h hf
  split at e
  · rename_i y
    cases of_decide_eq_true e
    unfold Xf.ok at g
    rw [Bool.and_eq_true, Bool.and_eq_true, decide_eq_true_iff, decide_eq_true_iff] at g
    exact ⟨oexB_ok g.1, g.2.1, g.2.2⟩
  · cases e
theorem par_get (h : (xf.all fun f => f.ok K) = true) {x : Str} (e : hasPar xf x = true) : ParC K (He.ga K x) := by
  obtain ⟨f, hf, e⟩ := List.any_eq_true.mp e
  have g := xf_mem h hf
  split at e
  · rename_i y
    cases of_decide_eq_true e
    exact parB_ok g
  · cases e
def hasIs (xf : List Xf) (x : Str) : Bool := xf.any fun f => match f with
  | .is y => decide (y = x)
  | _ => false
def hasKit (xf : List Xf) (x y : Str) : Option Bool := xf.findSome? fun f => match f with
  | .kit a b r => if a = x ∧ b = y then some r else none
  | _ => none
def hasKitB (xf : List Xf) (x : Str) (t : String) : Option Bool := xf.findSome? fun f => match f with
  | .kitB a b r => if a = x ∧ b = t then some r else none
  | _ => none
def hasFld (xf : List Xf) (x f : Str) : Bool := xf.any fun g => match g with
  | .fld a b => decide (a = x ∧ b = f)
  | _ => false
theorem is_get (h : (xf.all fun f => f.ok K) = true) {x : Str} (e : hasIs xf x = true) : XcC K (He.ga K x) := by
  obtain ⟨f, hf, e⟩ := List.any_eq_true.mp e
  cases f with
  | is y =>
    cases of_decide_eq_true e
    exact xcB_ok (xf_mem h hf)
  | _ => cases e
theorem kit_get (h : (xf.all fun f => f.ok K) = true) {x y : Str} {b : Bool} (e : hasKit xf x y = some b) : PySem.W.kitOne K (.ref (He.ga K x)) (.ref (He.ga K y)) = some b := by
  obtain ⟨f, hf, e⟩ := List.exists_of_findSome?_eq_some e
  cases f with
  | kit u v r =>
    dsimp only at e
    split at e
    · rename_i z
      cases e
      obtain ⟨rfl, rfl⟩ := z
      exact of_decide_eq_true (xf_mem h hf)
    · cases e
  | _ => cases e
theorem kitB_get (h : (xf.all fun f => f.ok K) = true) {x : Str} {t : String} {b : Bool} (e : hasKitB xf x t = some b) : PySem.W.kitOne K (.ref (He.ga K x)) (.type t) = some b := by
  obtain ⟨f, hf, e⟩ := List.exists_of_findSome?_eq_some e
  cases f with
  | kitB u v r =>
    dsimp only at e
    split at e
    · rename_i z
      cases e
      obtain ⟨rfl, rfl⟩ := z
      exact of_decide_eq_true (xf_mem h hf)
    · cases e
  | _ => cases e
structure FldC (K : PySem.W.Frag) (x f : Str) : Prop where
  xc : XfC K (He.ga K x)
  no : PySem.W.findIn K (.ref (He.ga K x)) f = some none
theorem fld_get (h : (xf.all fun f => f.ok K) = true) {x f : Str} (e : hasFld xf x f = true) : FldC K x f := by
  obtain ⟨g, hg, e⟩ := List.any_eq_true.mp e
  cases g with
  | fld u v =>
    obtain ⟨rfl, rfl⟩ := of_decide_eq_true e
    obtain ⟨h1, h2⟩ := Bool.and_eq_true_iff.mp (xf_mem h hg)
    exact ⟨xfB_ok h1, of_decide_eq_true h2⟩
  | _ => cases e
end
end PW

set_option Elab.async false
set_option linter.all false
set_option maxRecDepth 100000
set_option maxHeartbeats 4000000
namespace PW
open PySem PySem.Spec PyProof.Rows L2
def top (i : Nat) : Stmt := PySem.Challenge.pw_pointways_k17_refusals_made.main.body.getD i (.Pass ⟨0, 0, 0, 0⟩)
abbrev s_Parted_init : Stmt := inClass (top 14) 0
theorem sc_Parted_init : FnScope ["self", "lot"] ["self", "lot"] (defScope s_Parted_init) :=
  ⟨rfl, rfl, rfl, by decide +kernel, rfl, by decide +kernel, by decide +kernel⟩
def d_Parted_init : He.DefD := ⟨("Parted", some "__init__"), "__init__", "Parted.__init__", defArgs s_Parted_init, defBody s_Parted_init, defScope s_Parted_init, [], []⟩
abbrev s_Shut_init : Stmt := inClass (top 15) 0
theorem sc_Shut_init : FnScope ["self", "lot"] ["self", "lot"] (defScope s_Shut_init) :=
  ⟨rfl, rfl, rfl, by decide +kernel, rfl, by decide +kernel, by decide +kernel⟩
def d_Shut_init : He.DefD := ⟨("Shut", some "__init__"), "__init__", "Shut.__init__", defArgs s_Shut_init, defBody s_Shut_init, defScope s_Shut_init, [], []⟩
abbrev s_Thin_init : Stmt := inClass (top 16) 0
theorem sc_Thin_init : FnScope ["self", "lot"] ["self", "lot"] (defScope s_Thin_init) :=
  ⟨rfl, rfl, rfl, by decide +kernel, rfl, by decide +kernel, by decide +kernel⟩
def d_Thin_init : He.DefD := ⟨("Thin", some "__init__"), "__init__", "Thin.__init__", defArgs s_Thin_init, defBody s_Thin_init, defScope s_Thin_init, [], []⟩
abbrev s_Barred_init : Stmt := inClass (top 17) 0
theorem sc_Barred_init : FnScope ["self", "tie", "lot"] ["self", "tie", "lot"] (defScope s_Barred_init) :=
  ⟨rfl, rfl, rfl, by decide +kernel, rfl, by decide +kernel, by decide +kernel⟩
def d_Barred_init : He.DefD := ⟨("Barred", some "__init__"), "__init__", "Barred.__init__", defArgs s_Barred_init, defBody s_Barred_init, defScope s_Barred_init, [], []⟩
abbrev s_NoIns_init : Stmt := inClass (top 18) 0
theorem sc_NoIns_init : FnScope ["self", "word", "part"] ["self", "word", "part"] (defScope s_NoIns_init) :=
  ⟨rfl, rfl, rfl, by decide +kernel, rfl, by decide +kernel, by decide +kernel⟩
def d_NoIns_init : He.DefD := ⟨("NoIns", some "__init__"), "__init__", "NoIns.__init__", defArgs s_NoIns_init, defBody s_NoIns_init, defScope s_NoIns_init, [], []⟩
abbrev s_law_pot : Stmt := top 20
theorem sc_law_pot : FnScope ["_law_script", "_law_k", "_law_cell"] ["_law_script", "_law_k"] (defScope s_law_pot) :=
  ⟨rfl, rfl, rfl, by decide +kernel, rfl, by decide +kernel, by decide +kernel⟩
def d_law_pot : He.DefD := ⟨("_law_pot", none), "_law_pot", "_law_pot", defArgs s_law_pot, defBody s_law_pot, defScope s_law_pot, [], []⟩
abbrev s_law_take : Stmt := top 21
theorem sc_law_take : FnScope ["_law_pot_here", "_law_many", "_law_digit"] ["_law_pot_here", "_law_many"] (defScope s_law_take) :=
  ⟨rfl, rfl, rfl, by decide +kernel, rfl, by decide +kernel, by decide +kernel⟩
def d_law_take : He.DefD := ⟨("_law_take", none), "_law_take", "_law_take", defArgs s_law_take, defBody s_law_take, defScope s_law_take, [], []⟩
abbrev s_law_names : Stmt := top 22
theorem sc_law_names : FnScope ["_law_pot_here", "_law_many", "_law_letters", "_law_begin", "_law_found", "_law_k", "_law_word", "_law_j"] ["_law_pot_here", "_law_many"] (defScope s_law_names) :=
  ⟨rfl, rfl, rfl, by decide +kernel, rfl, by decide +kernel, by decide +kernel⟩
def d_law_names : He.DefD := ⟨("_law_names", none), "_law_names", "_law_names", defArgs s_law_names, defBody s_law_names, defScope s_law_names, [], []⟩
abbrev s_law_kinds : Stmt := top 23
theorem sc_law_kinds : FnScope ["_law_e", "_law_found"] ["_law_e"] (defScope s_law_kinds) :=
  ⟨rfl, rfl, rfl, by decide +kernel, rfl, by decide +kernel, by decide +kernel⟩
def d_law_kinds : He.DefD := ⟨("_law_kinds", none), "_law_kinds", "_law_kinds", defArgs s_law_kinds, defBody s_law_kinds, defScope s_law_kinds, [], []⟩
abbrev s_law_of_nothing : Stmt := top 24
theorem sc_law_of_nothing : FnScope ["_law_some"] [] (defScope s_law_of_nothing) :=
  ⟨rfl, rfl, rfl, by decide +kernel, rfl, by decide +kernel, by decide +kernel⟩
def d_law_of_nothing : He.DefD := ⟨("_law_of_nothing", none), "_law_of_nothing", "_law_of_nothing", defArgs s_law_of_nothing, defBody s_law_of_nothing, defScope s_law_of_nothing, [], []⟩
abbrev s_law_of_text : Stmt := top 25
theorem sc_law_of_text : FnScope ["_law_text", "_law_some"] ["_law_text"] (defScope s_law_of_text) :=
  ⟨rfl, rfl, rfl, by decide +kernel, rfl, by decide +kernel, by decide +kernel⟩
def d_law_of_text : He.DefD := ⟨("_law_of_text", none), "_law_of_text", "_law_of_text", defArgs s_law_of_text, defBody s_law_of_text, defScope s_law_of_text, [], []⟩
abbrev s_law_are_kinds : Stmt := top 26
theorem sc_law_are_kinds : FnScope ["_law_some", "_law_first", "_law_k", "_law_e", "_law_kinds_here"] ["_law_some", "_law_first"] (defScope s_law_are_kinds) :=
  ⟨rfl, rfl, rfl, by decide +kernel, rfl, by decide +kernel, by decide +kernel⟩
def d_law_are_kinds : He.DefD := ⟨("_law_are_kinds", none), "_law_are_kinds", "_law_are_kinds", defArgs s_law_are_kinds, defBody s_law_are_kinds, defScope s_law_are_kinds, [], []⟩
abbrev s_law : Stmt := top 27
theorem sc_law : FnScope ["_law_script", "_law_k", "_law_pot_here", "_law_lot", "_law_tie", "_law_word", "_law_one", "_law_two", "_law_three", "_law_four", "_law_five"] ["_law_script"] (defScope s_law) :=
  ⟨rfl, rfl, rfl, by decide +kernel, rfl, by decide +kernel, by decide +kernel⟩
def d_law : He.DefD := ⟨("law", none), "law", "law", defArgs s_law, defBody s_law, defScope s_law, [], []⟩
def fn : List He.DefD := [d_Parted_init, d_Shut_init, d_Thin_init, d_Barred_init, d_NoIns_init, d_law_pot, d_law_take, d_law_names, d_law_kinds, d_law_of_nothing, d_law_of_text, d_law_are_kinds, d_law]
def fa : List He.Fa := [.glo "_law_pot", .glo "_law_take", .glo "_law_names", .glo "_law_kinds", .glo "_law_of_nothing", .glo "_law_of_text", .glo "_law_are_kinds", .glo "law", .free "abs", .free "divmod", .free "enumerate", .free "isinstance", .free "len", .free "list", .free "max", .free "min", .free "range", .glo "Barred", .glo "NoEars", .glo "NoFixed", .glo "NoIns", .glo "NoLot", .glo "NoNumber", .glo "NoNumbers", .glo "NoPoint", .glo "NoPointing", .glo "NoText", .glo "NoWeb", .glo "NotOver", .glo "Parted", .glo "Shut", .glo "Thin", .glo "TooMuch", .glo "Unlike", .glo "PointError", .exc "NoEars", .exc "NoFixed", .exc "NoLot", .exc "NoNumber", .exc "NoNumbers", .exc "NoPoint", .exc "NoPointing", .exc "NoText", .exc "NoWeb", .exc "NotOver", .exc "TooMuch", .exc "Unlike", .free "ValueError"]
def xf : List Xf := [.is "Barred", .kit "Barred" "Barred" true, .kit "Barred" "NoEars" false, .kit "Barred" "NoFixed" false, .kit "Barred" "NoIns" false, .kit "Barred" "NoLot" false, .kit "Barred" "NoNumber" false, .kit "Barred" "NoNumbers" false, .kit "Barred" "NoPoint" false, .kit "Barred" "NoPointing" false, .kit "Barred" "NoText" false, .kit "Barred" "NoWeb" false, .kit "Barred" "NotOver" false, .kit "Barred" "Parted" false, .kit "Barred" "PointError" true, .kit "Barred" "Shut" false, .kit "Barred" "Thin" false, .kit "Barred" "TooMuch" false, .kit "Barred" "Unlike" false, .kitB "Barred" "ValueError" true, .is "NoEars", .kit "NoEars" "Barred" false, .kit "NoEars" "NoEars" true, .kit "NoEars" "NoFixed" false, .kit "NoEars" "NoIns" false, .kit "NoEars" "NoLot" false, .kit "NoEars" "NoNumber" false, .kit "NoEars" "NoNumbers" false, .kit "NoEars" "NoPoint" false, .kit "NoEars" "NoPointing" false, .kit "NoEars" "NoText" false, .kit "NoEars" "NoWeb" false, .kit "NoEars" "NotOver" false, .kit "NoEars" "Parted" false, .kit "NoEars" "PointError" true, .kit "NoEars" "Shut" false, .kit "NoEars" "Thin" false, .kit "NoEars" "TooMuch" false, .kit "NoEars" "Unlike" false, .kitB "NoEars" "ValueError" true, .is "NoFixed", .kit "NoFixed" "Barred" false, .kit "NoFixed" "NoEars" false, .kit "NoFixed" "NoFixed" true, .kit "NoFixed" "NoIns" false, .kit "NoFixed" "NoLot" false, .kit "NoFixed" "NoNumber" false, .kit "NoFixed" "NoNumbers" false, .kit "NoFixed" "NoPoint" false, .kit "NoFixed" "NoPointing" false, .kit "NoFixed" "NoText" false, .kit "NoFixed" "NoWeb" false, .kit "NoFixed" "NotOver" false, .kit "NoFixed" "Parted" false, .kit "NoFixed" "PointError" true, .kit "NoFixed" "Shut" false, .kit "NoFixed" "Thin" false, .kit "NoFixed" "TooMuch" false, .kit "NoFixed" "Unlike" false, .kitB "NoFixed" "ValueError" true, .is "NoIns", .kit "NoIns" "Barred" false, .kit "NoIns" "NoEars" false, .kit "NoIns" "NoFixed" false, .kit "NoIns" "NoIns" true, .kit "NoIns" "NoLot" false, .kit "NoIns" "NoNumber" false, .kit "NoIns" "NoNumbers" false, .kit "NoIns" "NoPoint" false, .kit "NoIns" "NoPointing" false, .kit "NoIns" "NoText" false, .kit "NoIns" "NoWeb" false, .kit "NoIns" "NotOver" false, .kit "NoIns" "Parted" false, .kit "NoIns" "PointError" true, .kit "NoIns" "Shut" false, .kit "NoIns" "Thin" false, .kit "NoIns" "TooMuch" false, .kit "NoIns" "Unlike" false, .kitB "NoIns" "ValueError" true, .is "NoLot", .kit "NoLot" "Barred" false, .kit "NoLot" "NoEars" false, .kit "NoLot" "NoFixed" false, .kit "NoLot" "NoIns" false, .kit "NoLot" "NoLot" true, .kit "NoLot" "NoNumber" false, .kit "NoLot" "NoNumbers" false, .kit "NoLot" "NoPoint" false, .kit "NoLot" "NoPointing" false, .kit "NoLot" "NoText" false, .kit "NoLot" "NoWeb" false, .kit "NoLot" "NotOver" false, .kit "NoLot" "Parted" false, .kit "NoLot" "PointError" true, .kit "NoLot" "Shut" false, .kit "NoLot" "Thin" false, .kit "NoLot" "TooMuch" false, .kit "NoLot" "Unlike" false, .kitB "NoLot" "ValueError" true, .is "NoNumber", .kit "NoNumber" "Barred" false, .kit "NoNumber" "NoEars" false, .kit "NoNumber" "NoFixed" false, .kit "NoNumber" "NoIns" false, .kit "NoNumber" "NoLot" false, .kit "NoNumber" "NoNumber" true, .kit "NoNumber" "NoNumbers" false, .kit "NoNumber" "NoPoint" false, .kit "NoNumber" "NoPointing" false, .kit "NoNumber" "NoText" false, .kit "NoNumber" "NoWeb" false, .kit "NoNumber" "NotOver" false, .kit "NoNumber" "Parted" false, .kit "NoNumber" "PointError" true, .kit "NoNumber" "Shut" false, .kit "NoNumber" "Thin" false, .kit "NoNumber" "TooMuch" false, .kit "NoNumber" "Unlike" false, .kitB "NoNumber" "ValueError" true, .is "NoNumbers", .kit "NoNumbers" "Barred" false, .kit "NoNumbers" "NoEars" false, .kit "NoNumbers" "NoFixed" false, .kit "NoNumbers" "NoIns" false, .kit "NoNumbers" "NoLot" false, .kit "NoNumbers" "NoNumber" false, .kit "NoNumbers" "NoNumbers" true, .kit "NoNumbers" "NoPoint" false, .kit "NoNumbers" "NoPointing" false, .kit "NoNumbers" "NoText" false, .kit "NoNumbers" "NoWeb" false, .kit "NoNumbers" "NotOver" false, .kit "NoNumbers" "Parted" false, .kit "NoNumbers" "PointError" true, .kit "NoNumbers" "Shut" false, .kit "NoNumbers" "Thin" false, .kit "NoNumbers" "TooMuch" false, .kit "NoNumbers" "Unlike" false, .kitB "NoNumbers" "ValueError" true, .is "NoPoint", .kit "NoPoint" "Barred" false, .kit "NoPoint" "NoEars" false, .kit "NoPoint" "NoFixed" false, .kit "NoPoint" "NoIns" false, .kit "NoPoint" "NoLot" false, .kit "NoPoint" "NoNumber" false, .kit "NoPoint" "NoNumbers" false, .kit "NoPoint" "NoPoint" true, .kit "NoPoint" "NoPointing" false, .kit "NoPoint" "NoText" false, .kit "NoPoint" "NoWeb" false, .kit "NoPoint" "NotOver" false, .kit "NoPoint" "Parted" false, .kit "NoPoint" "PointError" true, .kit "NoPoint" "Shut" false, .kit "NoPoint" "Thin" false, .kit "NoPoint" "TooMuch" false, .kit "NoPoint" "Unlike" false, .kitB "NoPoint" "ValueError" true, .is "NoPointing", .kit "NoPointing" "Barred" false, .kit "NoPointing" "NoEars" false, .kit "NoPointing" "NoFixed" false, .kit "NoPointing" "NoIns" false, .kit "NoPointing" "NoLot" false, .kit "NoPointing" "NoNumber" false, .kit "NoPointing" "NoNumbers" false, .kit "NoPointing" "NoPoint" false, .kit "NoPointing" "NoPointing" true, .kit "NoPointing" "NoText" false, .kit "NoPointing" "NoWeb" false, .kit "NoPointing" "NotOver" false, .kit "NoPointing" "Parted" false, .kit "NoPointing" "PointError" true, .kit "NoPointing" "Shut" false, .kit "NoPointing" "Thin" false, .kit "NoPointing" "TooMuch" false, .kit "NoPointing" "Unlike" false, .kitB "NoPointing" "ValueError" true, .is "NoText", .kit "NoText" "Barred" false, .kit "NoText" "NoEars" false, .kit "NoText" "NoFixed" false, .kit "NoText" "NoIns" false, .kit "NoText" "NoLot" false, .kit "NoText" "NoNumber" false, .kit "NoText" "NoNumbers" false, .kit "NoText" "NoPoint" false, .kit "NoText" "NoPointing" false, .kit "NoText" "NoText" true, .kit "NoText" "NoWeb" false, .kit "NoText" "NotOver" false, .kit "NoText" "Parted" false, .kit "NoText" "PointError" true, .kit "NoText" "Shut" false, .kit "NoText" "Thin" false, .kit "NoText" "TooMuch" false, .kit "NoText" "Unlike" false, .kitB "NoText" "ValueError" true, .is "NoWeb", .kit "NoWeb" "Barred" false, .kit "NoWeb" "NoEars" false, .kit "NoWeb" "NoFixed" false, .kit "NoWeb" "NoIns" false, .kit "NoWeb" "NoLot" false, .kit "NoWeb" "NoNumber" false, .kit "NoWeb" "NoNumbers" false, .kit "NoWeb" "NoPoint" false, .kit "NoWeb" "NoPointing" false, .kit "NoWeb" "NoText" false, .kit "NoWeb" "NoWeb" true, .kit "NoWeb" "NotOver" false, .kit "NoWeb" "Parted" false, .kit "NoWeb" "PointError" true, .kit "NoWeb" "Shut" false, .kit "NoWeb" "Thin" false, .kit "NoWeb" "TooMuch" false, .kit "NoWeb" "Unlike" false, .kitB "NoWeb" "ValueError" true, .is "NotOver", .kit "NotOver" "Barred" false, .kit "NotOver" "NoEars" false, .kit "NotOver" "NoFixed" false, .kit "NotOver" "NoIns" false, .kit "NotOver" "NoLot" false, .kit "NotOver" "NoNumber" false, .kit "NotOver" "NoNumbers" false, .kit "NotOver" "NoPoint" false, .kit "NotOver" "NoPointing" false, .kit "NotOver" "NoText" false, .kit "NotOver" "NoWeb" false, .kit "NotOver" "NotOver" true, .kit "NotOver" "Parted" false, .kit "NotOver" "PointError" true, .kit "NotOver" "Shut" false, .kit "NotOver" "Thin" false, .kit "NotOver" "TooMuch" false, .kit "NotOver" "Unlike" false, .kitB "NotOver" "ValueError" true, .is "Parted", .kit "Parted" "Barred" false, .kit "Parted" "NoEars" false, .kit "Parted" "NoFixed" false, .kit "Parted" "NoIns" false, .kit "Parted" "NoLot" false, .kit "Parted" "NoNumber" false, .kit "Parted" "NoNumbers" false, .kit "Parted" "NoPoint" false, .kit "Parted" "NoPointing" false, .kit "Parted" "NoText" false, .kit "Parted" "NoWeb" false, .kit "Parted" "NotOver" false, .kit "Parted" "Parted" true, .kit "Parted" "PointError" true, .kit "Parted" "Shut" false, .kit "Parted" "Thin" false, .kit "Parted" "TooMuch" false, .kit "Parted" "Unlike" false, .kitB "Parted" "ValueError" true, .is "Shut", .kit "Shut" "Barred" false, .kit "Shut" "NoEars" false, .kit "Shut" "NoFixed" false, .kit "Shut" "NoIns" false, .kit "Shut" "NoLot" false, .kit "Shut" "NoNumber" false, .kit "Shut" "NoNumbers" false, .kit "Shut" "NoPoint" false, .kit "Shut" "NoPointing" false, .kit "Shut" "NoText" false, .kit "Shut" "NoWeb" false, .kit "Shut" "NotOver" false, .kit "Shut" "Parted" false, .kit "Shut" "PointError" true, .kit "Shut" "Shut" true, .kit "Shut" "Thin" false, .kit "Shut" "TooMuch" false, .kit "Shut" "Unlike" false, .kitB "Shut" "ValueError" true, .is "Thin", .kit "Thin" "Barred" false, .kit "Thin" "NoEars" false, .kit "Thin" "NoFixed" false, .kit "Thin" "NoIns" false, .kit "Thin" "NoLot" false, .kit "Thin" "NoNumber" false, .kit "Thin" "NoNumbers" false, .kit "Thin" "NoPoint" false, .kit "Thin" "NoPointing" false, .kit "Thin" "NoText" false, .kit "Thin" "NoWeb" false, .kit "Thin" "NotOver" false, .kit "Thin" "Parted" false, .kit "Thin" "PointError" true, .kit "Thin" "Shut" false, .kit "Thin" "Thin" true, .kit "Thin" "TooMuch" false, .kit "Thin" "Unlike" false, .kitB "Thin" "ValueError" true, .is "TooMuch", .kit "TooMuch" "Barred" false, .kit "TooMuch" "NoEars" false, .kit "TooMuch" "NoFixed" false, .kit "TooMuch" "NoIns" false, .kit "TooMuch" "NoLot" false, .kit "TooMuch" "NoNumber" false, .kit "TooMuch" "NoNumbers" false, .kit "TooMuch" "NoPoint" false, .kit "TooMuch" "NoPointing" false, .kit "TooMuch" "NoText" false, .kit "TooMuch" "NoWeb" false, .kit "TooMuch" "NotOver" false, .kit "TooMuch" "Parted" false, .kit "TooMuch" "PointError" true, .kit "TooMuch" "Shut" false, .kit "TooMuch" "Thin" false, .kit "TooMuch" "TooMuch" true, .kit "TooMuch" "Unlike" false, .kitB "TooMuch" "ValueError" true, .is "Unlike", .kit "Unlike" "Barred" false, .kit "Unlike" "NoEars" false, .kit "Unlike" "NoFixed" false, .kit "Unlike" "NoIns" false, .kit "Unlike" "NoLot" false, .kit "Unlike" "NoNumber" false, .kit "Unlike" "NoNumbers" false, .kit "Unlike" "NoPoint" false, .kit "Unlike" "NoPointing" false, .kit "Unlike" "NoText" false, .kit "Unlike" "NoWeb" false, .kit "Unlike" "NotOver" false, .kit "Unlike" "Parted" false, .kit "Unlike" "PointError" true, .kit "Unlike" "Shut" false, .kit "Unlike" "Thin" false, .kit "Unlike" "TooMuch" false, .kit "Unlike" "Unlike" true, .kitB "Unlike" "ValueError" true, .fld "Barred" "tie", .fld "Barred" "lot", .fld "NoIns" "word", .fld "NoIns" "part", .fld "Parted" "lot", .fld "Shut" "lot", .fld "Thin" "lot", .oex "Barred", .oex "NoIns", .oex "Parted", .oex "Shut", .oex "Thin", .par "PointError"]
abbrev Top (K : PySem.W.Frag) (mg : Str → Option Value) : Prop := TopE fa fn xf K mg
section
variable {K : PySem.W.Frag} {mg : Str → Option Value} (T : Top K mg)
include T
theorem g_law_pot : mg "_law_pot" = some (.ref (He.ga K "_law_pot")) := T.glo _ (T.says.fact 0 (f := .glo "_law_pot") rfl)
theorem g_law_take : mg "_law_take" = some (.ref (He.ga K "_law_take")) := T.glo _ (T.says.fact 1 (f := .glo "_law_take") rfl)
theorem g_law_names : mg "_law_names" = some (.ref (He.ga K "_law_names")) := T.glo _ (T.says.fact 2 (f := .glo "_law_names") rfl)
theorem g_law_kinds : mg "_law_kinds" = some (.ref (He.ga K "_law_kinds")) := T.glo _ (T.says.fact 3 (f := .glo "_law_kinds") rfl)
theorem g_law_of_nothing : mg "_law_of_nothing" = some (.ref (He.ga K "_law_of_nothing")) := T.glo _ (T.says.fact 4 (f := .glo "_law_of_nothing") rfl)
theorem g_law_of_text : mg "_law_of_text" = some (.ref (He.ga K "_law_of_text")) := T.glo _ (T.says.fact 5 (f := .glo "_law_of_text") rfl)
theorem g_law_are_kinds : mg "_law_are_kinds" = some (.ref (He.ga K "_law_are_kinds")) := T.glo _ (T.says.fact 6 (f := .glo "_law_are_kinds") rfl)
theorem g_law : mg "law" = some (.ref (He.ga K "law")) := T.glo _ (T.says.fact 7 (f := .glo "law") rfl)
theorem f_abs : mg "abs" = none := T.free _ (T.says.fact 8 (f := .free "abs") rfl)
theorem f_divmod : mg "divmod" = none := T.free _ (T.says.fact 9 (f := .free "divmod") rfl)
theorem f_enumerate : mg "enumerate" = none := T.free _ (T.says.fact 10 (f := .free "enumerate") rfl)
theorem f_isinstance : mg "isinstance" = none := T.free _ (T.says.fact 11 (f := .free "isinstance") rfl)
theorem f_len : mg "len" = none := T.free _ (T.says.fact 12 (f := .free "len") rfl)
theorem f_list : mg "list" = none := T.free _ (T.says.fact 13 (f := .free "list") rfl)
theorem f_max : mg "max" = none := T.free _ (T.says.fact 14 (f := .free "max") rfl)
theorem f_min : mg "min" = none := T.free _ (T.says.fact 15 (f := .free "min") rfl)
theorem f_range : mg "range" = none := T.free _ (T.says.fact 16 (f := .free "range") rfl)
theorem g_Barred : mg "Barred" = some (.ref (He.ga K "Barred")) := T.glo _ (T.says.fact 17 (f := .glo "Barred") rfl)
theorem g_NoEars : mg "NoEars" = some (.ref (He.ga K "NoEars")) := T.glo _ (T.says.fact 18 (f := .glo "NoEars") rfl)
theorem g_NoFixed : mg "NoFixed" = some (.ref (He.ga K "NoFixed")) := T.glo _ (T.says.fact 19 (f := .glo "NoFixed") rfl)
theorem g_NoIns : mg "NoIns" = some (.ref (He.ga K "NoIns")) := T.glo _ (T.says.fact 20 (f := .glo "NoIns") rfl)
theorem g_NoLot : mg "NoLot" = some (.ref (He.ga K "NoLot")) := T.glo _ (T.says.fact 21 (f := .glo "NoLot") rfl)
theorem g_NoNumber : mg "NoNumber" = some (.ref (He.ga K "NoNumber")) := T.glo _ (T.says.fact 22 (f := .glo "NoNumber") rfl)
theorem g_NoNumbers : mg "NoNumbers" = some (.ref (He.ga K "NoNumbers")) := T.glo _ (T.says.fact 23 (f := .glo "NoNumbers") rfl)
theorem g_NoPoint : mg "NoPoint" = some (.ref (He.ga K "NoPoint")) := T.glo _ (T.says.fact 24 (f := .glo "NoPoint") rfl)
theorem g_NoPointing : mg "NoPointing" = some (.ref (He.ga K "NoPointing")) := T.glo _ (T.says.fact 25 (f := .glo "NoPointing") rfl)
theorem g_NoText : mg "NoText" = some (.ref (He.ga K "NoText")) := T.glo _ (T.says.fact 26 (f := .glo "NoText") rfl)
theorem g_NoWeb : mg "NoWeb" = some (.ref (He.ga K "NoWeb")) := T.glo _ (T.says.fact 27 (f := .glo "NoWeb") rfl)
theorem g_NotOver : mg "NotOver" = some (.ref (He.ga K "NotOver")) := T.glo _ (T.says.fact 28 (f := .glo "NotOver") rfl)
theorem g_Parted : mg "Parted" = some (.ref (He.ga K "Parted")) := T.glo _ (T.says.fact 29 (f := .glo "Parted") rfl)
theorem g_Shut : mg "Shut" = some (.ref (He.ga K "Shut")) := T.glo _ (T.says.fact 30 (f := .glo "Shut") rfl)
theorem g_Thin : mg "Thin" = some (.ref (He.ga K "Thin")) := T.glo _ (T.says.fact 31 (f := .glo "Thin") rfl)
theorem g_TooMuch : mg "TooMuch" = some (.ref (He.ga K "TooMuch")) := T.glo _ (T.says.fact 32 (f := .glo "TooMuch") rfl)
theorem g_Unlike : mg "Unlike" = some (.ref (He.ga K "Unlike")) := T.glo _ (T.says.fact 33 (f := .glo "Unlike") rfl)
theorem g_PointError : mg "PointError" = some (.ref (He.ga K "PointError")) := T.glo _ (T.says.fact 34 (f := .glo "PointError") rfl)
theorem f_ValueError : mg "ValueError" = none := T.free _ (T.says.fact 47 (f := .free "ValueError") rfl)
end
theorem fd_Parted_init {K : PySem.W.Frag} {mg : Str → Option Value} (T : Top K mg) : ∃ fd, FunD K "__init__" "Parted.__init__" (defArgs s_Parted_init) (defBody s_Parted_init) (defScope s_Parted_init) [] [] (He.fAd K ("Parted", some "__init__")) fd := T.says.def_ 0 (d := d_Parted_init) rfl
theorem bi_Parted_init : BindOf "__init__" "Parted.__init__" (defArgs s_Parted_init) (defBody s_Parted_init) (defScope s_Parted_init) ["self", "lot"] :=
  fun _ _ _ _ _ _ us hl => match us, hl with | [_, _], _ => rfl
theorem fd_Shut_init {K : PySem.W.Frag} {mg : Str → Option Value} (T : Top K mg) : ∃ fd, FunD K "__init__" "Shut.__init__" (defArgs s_Shut_init) (defBody s_Shut_init) (defScope s_Shut_init) [] [] (He.fAd K ("Shut", some "__init__")) fd := T.says.def_ 1 (d := d_Shut_init) rfl
theorem bi_Shut_init : BindOf "__init__" "Shut.__init__" (defArgs s_Shut_init) (defBody s_Shut_init) (defScope s_Shut_init) ["self", "lot"] :=
  fun _ _ _ _ _ _ us hl => match us, hl with | [_, _], _ => rfl
theorem fd_Thin_init {K : PySem.W.Frag} {mg : Str → Option Value} (T : Top K mg) : ∃ fd, FunD K "__init__" "Thin.__init__" (defArgs s_Thin_init) (defBody s_Thin_init) (defScope s_Thin_init) [] [] (He.fAd K ("Thin", some "__init__")) fd := T.says.def_ 2 (d := d_Thin_init) rfl
theorem bi_Thin_init : BindOf "__init__" "Thin.__init__" (defArgs s_Thin_init) (defBody s_Thin_init) (defScope s_Thin_init) ["self", "lot"] :=
  fun _ _ _ _ _ _ us hl => match us, hl with | [_, _], _ => rfl
theorem fd_Barred_init {K : PySem.W.Frag} {mg : Str → Option Value} (T : Top K mg) : ∃ fd, FunD K "__init__" "Barred.__init__" (defArgs s_Barred_init) (defBody s_Barred_init) (defScope s_Barred_init) [] [] (He.fAd K ("Barred", some "__init__")) fd := T.says.def_ 3 (d := d_Barred_init) rfl
theorem bi_Barred_init : BindOf "__init__" "Barred.__init__" (defArgs s_Barred_init) (defBody s_Barred_init) (defScope s_Barred_init) ["self", "tie", "lot"] :=
  fun _ _ _ _ _ _ us hl => match us, hl with | [_, _, _], _ => rfl
theorem fd_NoIns_init {K : PySem.W.Frag} {mg : Str → Option Value} (T : Top K mg) : ∃ fd, FunD K "__init__" "NoIns.__init__" (defArgs s_NoIns_init) (defBody s_NoIns_init) (defScope s_NoIns_init) [] [] (He.fAd K ("NoIns", some "__init__")) fd := T.says.def_ 4 (d := d_NoIns_init) rfl
theorem bi_NoIns_init : BindOf "__init__" "NoIns.__init__" (defArgs s_NoIns_init) (defBody s_NoIns_init) (defScope s_NoIns_init) ["self", "word", "part"] :=
  fun _ _ _ _ _ _ us hl => match us, hl with | [_, _, _], _ => rfl
theorem fd_law_pot {K : PySem.W.Frag} {mg : Str → Option Value} (T : Top K mg) : ∃ fd, FunD K "_law_pot" "_law_pot" (defArgs s_law_pot) (defBody s_law_pot) (defScope s_law_pot) [] [] (He.fAd K ("_law_pot", none)) fd := T.says.def_ 5 (d := d_law_pot) rfl
theorem bi_law_pot : BindOf "_law_pot" "_law_pot" (defArgs s_law_pot) (defBody s_law_pot) (defScope s_law_pot) ["_law_script", "_law_k"] :=
  fun _ _ _ _ _ _ us hl => match us, hl with | [_, _], _ => rfl
theorem fd_law_take {K : PySem.W.Frag} {mg : Str → Option Value} (T : Top K mg) : ∃ fd, FunD K "_law_take" "_law_take" (defArgs s_law_take) (defBody s_law_take) (defScope s_law_take) [] [] (He.fAd K ("_law_take", none)) fd := T.says.def_ 6 (d := d_law_take) rfl
theorem bi_law_take : BindOf "_law_take" "_law_take" (defArgs s_law_take) (defBody s_law_take) (defScope s_law_take) ["_law_pot_here", "_law_many"] :=
  fun _ _ _ _ _ _ us hl => match us, hl with | [_, _], _ => rfl
theorem fd_law_names {K : PySem.W.Frag} {mg : Str → Option Value} (T : Top K mg) : ∃ fd, FunD K "_law_names" "_law_names" (defArgs s_law_names) (defBody s_law_names) (defScope s_law_names) [] [] (He.fAd K ("_law_names", none)) fd := T.says.def_ 7 (d := d_law_names) rfl
theorem bi_law_names : BindOf "_law_names" "_law_names" (defArgs s_law_names) (defBody s_law_names) (defScope s_law_names) ["_law_pot_here", "_law_many"] :=
  fun _ _ _ _ _ _ us hl => match us, hl with | [_, _], _ => rfl
theorem fd_law_kinds {K : PySem.W.Frag} {mg : Str → Option Value} (T : Top K mg) : ∃ fd, FunD K "_law_kinds" "_law_kinds" (defArgs s_law_kinds) (defBody s_law_kinds) (defScope s_law_kinds) [] [] (He.fAd K ("_law_kinds", none)) fd := T.says.def_ 8 (d := d_law_kinds) rfl
theorem bi_law_kinds : BindOf "_law_kinds" "_law_kinds" (defArgs s_law_kinds) (defBody s_law_kinds) (defScope s_law_kinds) ["_law_e"] :=
  fun _ _ _ _ _ _ us hl => match us, hl with | [_], _ => rfl
theorem fd_law_of_nothing {K : PySem.W.Frag} {mg : Str → Option Value} (T : Top K mg) : ∃ fd, FunD K "_law_of_nothing" "_law_of_nothing" (defArgs s_law_of_nothing) (defBody s_law_of_nothing) (defScope s_law_of_nothing) [] [] (He.fAd K ("_law_of_nothing", none)) fd := T.says.def_ 9 (d := d_law_of_nothing) rfl
theorem bi_law_of_nothing : BindOf "_law_of_nothing" "_law_of_nothing" (defArgs s_law_of_nothing) (defBody s_law_of_nothing) (defScope s_law_of_nothing) [] :=
  fun _ _ _ _ _ _ us hl => match us, hl with | [], _ => rfl
theorem fd_law_of_text {K : PySem.W.Frag} {mg : Str → Option Value} (T : Top K mg) : ∃ fd, FunD K "_law_of_text" "_law_of_text" (defArgs s_law_of_text) (defBody s_law_of_text) (defScope s_law_of_text) [] [] (He.fAd K ("_law_of_text", none)) fd := T.says.def_ 10 (d := d_law_of_text) rfl
theorem bi_law_of_text : BindOf "_law_of_text" "_law_of_text" (defArgs s_law_of_text) (defBody s_law_of_text) (defScope s_law_of_text) ["_law_text"] :=
  fun _ _ _ _ _ _ us hl => match us, hl with | [_], _ => rfl
theorem fd_law_are_kinds {K : PySem.W.Frag} {mg : Str → Option Value} (T : Top K mg) : ∃ fd, FunD K "_law_are_kinds" "_law_are_kinds" (defArgs s_law_are_kinds) (defBody s_law_are_kinds) (defScope s_law_are_kinds) [] [] (He.fAd K ("_law_are_kinds", none)) fd := T.says.def_ 11 (d := d_law_are_kinds) rfl
theorem bi_law_are_kinds : BindOf "_law_are_kinds" "_law_are_kinds" (defArgs s_law_are_kinds) (defBody s_law_are_kinds) (defScope s_law_are_kinds) ["_law_some", "_law_first"] :=
  fun _ _ _ _ _ _ us hl => match us, hl with | [_, _], _ => rfl
theorem fd_law {K : PySem.W.Frag} {mg : Str → Option Value} (T : Top K mg) : ∃ fd, FunD K "law" "law" (defArgs s_law) (defBody s_law) (defScope s_law) [] [] (He.fAd K ("law", none)) fd := T.says.def_ 12 (d := d_law) rfl
theorem bi_law : BindOf "law" "law" (defArgs s_law) (defBody s_law) (defScope s_law) ["_law_script"] :=
  fun _ _ _ _ _ _ us hl => match us, hl with | [_], _ => rfl
end PW


namespace PW.Hd
open PySem PySem.W PySem.Calls PyProof.Rows
def loose0 : List PySem.Str := ["PointError", "NoWeb", "NoText", "NoNumbers", "NoLot", "NoPoint", "NoPointing", "NoEars", "NoFixed", "NoNumber", "Unlike", "NotOver", "TooMuch", "Parted", "Shut", "Thin", "Barred", "NoIns", "_law_pot", "_law_take", "_law_names", "_law_kinds", "_law_of_nothing", "_law_of_text", "_law_are_kinds"]
def loose : List PySem.Str := loose0
abbrev R : PySem.W.OpenRow := PySem.W.OpenLaw.row PySem.Challenge.rw_pointways_k17_refusals_made
abbrev hk : PySem.W.Hook := hookE 5 fa fn xf
def ob (s : PySem.W.SharedT) : He.AlD × Bool := obsE 5 fa fn xf (HandSHeadRun.getT s)
theorem ob_eq (s : PySem.W.SharedT) : ob s = hk.obs s.abs := obsE_eq (HandSHeadRun.getT_eq s)
theorem run (w : World) : HandSHeadRun.RunEq R (PySem.W.view R.prog [27]) hk ob 9000 loose w := by
  intro os
  kernel_rfl
end PW.Hd

namespace PW
open PySem PySem.Spec PyProof.Rows L2
/-! ### heaps: what is kept -/
/-- all but p is as it was -/
def Kp (p : Addr) (H H' : Hp) : Prop := ∀ b o, b ≠ p → H b = some o → H' b = some o
theorem Kp.refl (p : Addr) (H : Hp) : Kp p H H := fun _ _ _ h => h
theorem Kp.trans {p : Addr} {H H1 H2 : Hp} (a : Kp p H H1) (b : Kp p H1 H2) : Kp p H H2 := fun c o n h => b c o n (a c o n h)
theorem Kp.same {p : Addr} {H H' : Hp} (e : Same H H') : Kp p H H' := fun b o _ h => e b o h
theorem Kp.free {p : Addr} {H H' : Hp} (e : Kp p H H') {l : Addr} (hl : l ≠ p) (h : H' l = none) : H l = none := by
  cases q : H l with
  | none => rfl
  | some o =>
    rw [e l o hl q] at h
    cases h
theorem Kp.write (p : Addr) (H : Hp) (o : HO) : Kp p H (upd H p o) := fun b u n h => by
  rw [upd_ne n]
  exact h
theorem same_new {H : Hp} {p : Addr} {o : HO} (h : H p = none) : Same H (upd H p o) := fun b x e => by
  rw [upd_ne (ne_of_none e h)]
  exact e
theorem Kp.new {p q : Addr} {H H1 : Hp} {o : HO} (e : Kp p H H1) (h : H1 q = none) : Kp p H (upd H1 q o) := e.trans (Kp.same (same_new h))
/-- writing into what is new since H -/
theorem _root_.L2.Same.into {H H1 : Hp} {q : Addr} {o : HO} (e : Same H H1) (h : H q = none) : Same H (upd H1 q o) := fun b x z => by
  rw [upd_ne (ne_of_none z h)]
  exact e b x z
theorem _root_.L2.Same.next {H H1 : Hp} {q : Addr} {o : HO} (e : Same H H1) (h : H1 q = none) : Same H (upd H1 q o) := e.into (e.free h)
theorem Kp.into {p q : Addr} {H H1 : Hp} {o : HO} (e : Kp p H H1) (h : H q = none) : Kp p H (upd H1 q o) := fun b x n z => by
  rw [upd_ne (ne_of_none z h)]
  exact e b x n z
/-! ### the pot of draws -/
def Pot (H : Hp) (p : Addr) : Prop := ∃ x y : Int, 0 ≤ x ∧ 0 ≤ y ∧ H p = some (.lst [.int x, .int y])
theorem Pot.same {H H' : Hp} {p : Addr} (h : Pot H p) (e : Same H H') : Pot H' p := by
  obtain ⟨x, y, hx, hy, z⟩ := h
  exact ⟨x, y, hx, hy, e _ _ z⟩
theorem Pot.ne {H : Hp} {p q : Addr} (h : Pot H p) (e : H q = none) : q ≠ p := by
  obtain ⟨x, y, hx, hy, z⟩ := h
  exact (ne_of_none z e).symm
theorem Pot.into {H : Hp} {p q : Addr} {o : HO} (h : Pot H p) (n : q ≠ p) : Pot (upd H q o) p := by
  obtain ⟨x, y, hx, hy, z⟩ := h
  exact ⟨x, y, hx, hy, by rw [upd_ne n.symm]; exact z⟩
end PW

namespace PW
open PySem PySem.Spec PyProof.Rows L2
/-! ### promises kept where nothing is being shown (repr asks for it) -/
structure FnG (P : Program) (w : World) (K : PySem.W.Frag) (mg : Str → Option Value) (base : Heap) (cx : CXT) (k : Nat) (f : Addr) (fd : FuncData) (ps : List Str) (sp : Sp) : Prop where
  lens : ∀ vs H Q E, sp vs H Q E → vs.length = ps.length
  goes : ∀ (A : Around) (out : List Env) (t : Shared) (H : Hp) (ar : Args) (us : List Value) (vs : List V) (Q : VK) (E : XK), A.guards = some [] → Room k A → Env0 P w K mg base A out t H → BindsTo t fd ar (ps.zip us) → Vals vs us → sp vs H Q E →
    codeAny (model P w) A (.call (.ref f) ar) (CR cx out P w H t Q E) t
section
variable {P : Program} {w : World} {K : PySem.W.Frag} {mg : Str → Option Value} {base : Heap}
abbrev BodyG (cx : CXT) (P : Program) (w : World) (K : PySem.W.Frag) (mg : Str → Option Value) (base : Heap) (N : List Str) (qual : Str) (sc : Scope) (bd : List Stmt) (f : Addr) (k : Nat) (sp : Sp) : Prop :=
  ∀ (cdv : Value) (A : Around) (out : List Env) (t : Shared) (H : Hp) (vs : List V) (Q : VK) (E : XK), A.guards = some [] → Room k (A.deeper (envOfC qual sc t.heap.objs.size f cdv)) → sp vs H Q E →
      ∃ r, PSs (cxOf cx P w K mg base N qual sc f cdv A out t H E) bd r ∧ r { nx := fun _ G => Q .non G, rt := Q } (start N vs) H
theorem fnG_of {cx : CXT} {x qual : Str} {pa : Arguments} {bd : List Stmt} {sc : Scope} {f : Addr} {fd : FuncData} {N ps : List Str} {k : Nat} {sp : Sp} (F : FunD K x qual pa bd sc [] [] f fd) (S : FnScope N ps sc)
    (ln : ∀ vs H Q E, sp vs H Q E → vs.length = ps.length) (hbd : BodyG cx P w K mg base N qual sc bd f k sp) : FnG P w K mg base cx (k + 1) f fd ps sp := by
  obtain ⟨c1, c2, v1, v2, v3, v4, v5, cdv, v6, c3, rfl, at_, isc, _, _⟩ := F.ex
  refine ⟨ln, fun A out t H ar us vs Q E gd rm ev bi rl pr => ?_⟩
  have len1 := ln _ _ _ _ pr
  have inK : K.In t.heap := ev.mod.kin.keeps fun b o z => (ev.bs b o z).1
  have inL : t.heap.NoLimit := ev.mod.nolimit.keeps fun b o z => (ev.bs b o z).1
  have kinds : ∀ y ∈ ps.zip us, sc.names.lookup y.1 = some .local ∨ (sc.names.lookup y.1 = some .cell ∧ ((cellsFrom (t.heap.objs.size + 1) sc.names []).lookup y.1).isSome = true) := fun ⟨n, v⟩ hy =>
    (S.par n (List.of_mem_zip hy).1).imp id fun z => ⟨z, PySem.W.cellsFrom_some _ _ _ (.inl z)⟩
  refine codeAny_call_function rm.depth (inK _ _ at_) rfl S.co S.gen rfl (PySem.W.codeRec_of inK isc) (bi _ _ _ _ (wpAny_newFunctionEnv_cells S.kind kinds fun en he t1 z => ?_))
  subst he
  refine ⟨inL.keeps z.toInCall.keep, codeAny_func ?_⟩
  obtain ⟨r, hr1, hr2⟩ := hbd cdv A out t H vs Q E gd (rm.deeper _) pr
  have I : Inv (cxOf cx P w K mg base N qual sc f cdv A out t H E) [] (start N vs) H t1 := inv_start S rm.hd ev len1 rl z
  refine wpAny_mono (hr1.run [] t1 (start N vs) H _ I hr2) (fun fl t2 got => ?_) fun _ _ got => got
  have ends : ∀ {τ : L2.St} {G : Hp} {v : V} {u : Value}, Inv (cxOf cx P w K mg base N qual sc f cdv A out t H E) [] τ G t2 → RelV v u → Q v G → CE out P w H t Q u t2 := fun {τ G v u} J rv qv => ⟨v, G, J.os, J.bare, J.base, J.hok, rv, qv⟩
  cases fl with
  | ret u =>
    obtain ⟨v, τ, G, J, rv, qv⟩ := got
    exact ends J rv qv
  | next =>
    obtain ⟨τ, G, J, qv⟩ := got
    exact ends (v := V.non) (u := Value.none) J rfl qv
  | brk => exact False.elim got.choose_spec.choose_spec.2
  | cont => exact False.elim got.choose_spec.choose_spec.2
theorem fnG_nox {x qual : Str} {pa : Arguments} {bd : List Stmt} {sc : Scope} {f : Addr} {fd : FuncData} {N ps : List Str} {k : Nat} {sp : Sp} (F : FunD K x qual pa bd sc [] [] f fd) (S : FnScope N ps sc)
    (ln : ∀ vs H Q E, sp vs H Q E → vs.length = ps.length) (hbd : ∀ (cdv : Value) (A : Around) (out : List Env) (t : Shared) (H : Hp) (vs : List V) (Q : VK) (E : XK), A.guards = some [] → Room k (A.deeper (envOfC qual sc t.heap.objs.size f cdv)) → sp vs H Q E →
      ∃ r, PSs (cxOf C8.CX0 P w K mg base N qual sc f cdv A out t H E).nox bd r ∧ r { nx := fun _ G => Q .non G, rt := Q } (start N vs) H) : FnG P w K mg base C8.CX0 (k + 1) f fd ps sp := by
  refine fnG_of F S ln fun cdv A out t H vs Q E gd rm pr => ?_
  obtain ⟨r, a, b⟩ := hbd cdv A out t H vs Q E gd rm pr
  exact ⟨r, a.nox, b⟩
/-- a def of the module that may be called by its name where nothing is being shown -/
structure CalG (P : Program) (w : World) (K : PySem.W.Frag) (mg : Str → Option Value) (base : Heap) (k : Nat) (x : Str) (sp : Sp) : Prop where
  ex : ∃ (f : Addr) (fd : FuncData) (ps : List Str), FnG P w K mg base C8.CX0 k f fd ps sp ∧ mg x = some (.ref f) ∧ PySem.W.keepIn K (.ref f) = true ∧ Binds K fd ps []
theorem calG_of {x : Str} {pa : Arguments} {bd : List Stmt} {sc : Scope} {f : Addr} {N ps : List Str} {k : Nat} {sp : Sp} (F : ∃ fd, FunD K x x pa bd sc [] [] f fd) (hm : mg x = some (.ref f)) (S : FnScope N ps sc)
    (hb : BindOf x x pa bd sc ps) (ln : ∀ vs H Q E, sp vs H Q E → vs.length = ps.length) (hbd : ∀ (cdv : Value) (A : Around) (out : List Env) (t : Shared) (H : Hp) (vs : List V) (Q : VK) (E : XK), A.guards = some [] → Room k (A.deeper (envOfC x sc t.heap.objs.size f cdv)) → sp vs H Q E →
      ∃ r, PSs (cxOf C8.CX0 P w K mg base N x sc f cdv A out t H E).nox bd r ∧ r { nx := fun _ G => Q .non G, rt := Q } (start N vs) H) : CalG P w K mg base (k + 1) x sp := by
  obtain ⟨fd, F⟩ := F
  exact ⟨f, fd, ps, fnG_nox F S ln hbd, hm, F.kp, F.bindsN hb⟩
end
section
variable {X : Cx} {k j : Nat} {x : Str} {sp : Sp} {p pos : Pos} {e : Expr} {es : List Expr} {t : TA}
theorem pe_cG (c : CalG X.prog X.w X.K X.mg X.base k x sp) (gd : X.A.guards = some []) (hr : Room j X.A) (hk : k ≤ j) (hg : Gl X x) (ha : PA X (e :: es) t)
    (hpl : (backTo pos (starEach es X.env)).any (·.1) = false := by rfl) (he : starEach (e :: es) X.env = (false, eval e X.env) :: starEach es X.env := by rfl) (hdb : (x == ("__debug__" : Str)) = false := by decide) :
    PE X (.Call (.Name x p) (e :: es) [] pos) (tCall sp [] C8.E0 t) := by
  obtain ⟨f, fd, ps, F, hm, kp, b⟩ := c.ex
  refine ⟨fun pins s σ H Q I h => wpAny_Call_Name_kw (ld_glob I hg hm ?_ hdb)⟩
  refine PySem.W.callWith_K (h₀ := X.base) I.ok.mod.kin kp (thn (ha.run pos pins s σ H _ I h) fun us s1 ⟨vs, H1, I1, r, q⟩ => ⟨I1.kIn, ?_⟩) he hpl
  have q' : sp vs H1 Q C8.E0 := by
    have z : sp (vs ++ []) H1 Q C8.E0 := q
    rw [List.append_nil] at z
    exact z
  have hl : us.length = ps.length := by rw [← r.length]; exact F.lens _ _ _ _ q'
  have bb := b s1 us I1.kIn (by rw [List.append_nil]; exact hl)
  rw [List.append_nil] at bb
  refine wpAny_call (codeAny_mono (F.goes X.A X.stack s1 H1 ⟨us, []⟩ us vs Q C8.E0 gd (hr.mono hk) I1.env0 bb r q') fun fr s' hq => ?_)
  cases fr with
  | error er => exact (C8.pass0 (X := X) (E := C8.E0)) pins σ H1 s1 er s' I1 hq
  | ok fl =>
    cases fl with
    | ret u => exact I1.after hq
    | next => exact False.elim hq
    | brk => exact False.elim hq
    | cont => exact False.elim hq
/-! ### repr -/
def rRepr (K : PySem.W.Frag) : List V → Hp → VK → Prop := fun xs H Q => (∃ (a : Addr) (d : PyData), xs = [.ref a] ∧ Dp K H (.ref a) d ∧ d.showable = true ∧ d.hasDict = false ∧ d.depth ≤ 64 ∧ d.shown.length ≤ sizeLine ∧ Q (.str d.shown) H) ∨ (xs = [.non] ∧ Q (.str "None") H)
theorem reprK {K : PySem.W.Frag} (gd : X.A.guards = some []) (hu : X.A.units + 65 < cLine) (h : X.K = K := by rfl) : CallR X (.builtin "repr") (rRepr K) := by
  subst h
  intro pins t σ H xs us Q I r q
  rcases q with ⟨a, d, rfl, hd, h1, h2, h3, h4, q⟩ | ⟨rfl, q⟩
  · obtain ⟨u, rfl, ru⟩ := vals1 r
    obtain ⟨as, rd⟩ := Dp.reads I d _ u hd ru
    cases ru
    refine PySem.repr_of_reads' rd h1 (PyData.noDict_hsm h2) gd (by omega) (fun _ _ z => z) (fun h' u tk k => ?_) h4
    exact ⟨.str _, H, I.kept (t' := tk) k, ⟨_, rfl⟩, q⟩
  · obtain ⟨u, rfl, ru⟩ := vals1 r
    cases ru
    exact PySem.P.repr_of_none ⟨.str _, H, I.tok _, ⟨_, rfl⟩, q⟩
end
/-! ### data that can be shown -/
structure Shw (W n : Nat) (d : PyData) : Prop where
  lay : d.canLay0 = true
  shw : d.showable = true
  sml : d.intsShort 13 = true
  wt : d.weight ≤ W
  dp : d.depth ≤ n
theorem Shw.str {W n : Nat} {x : Str} (h : PyData.strOk x = true) (hl : x.length ≤ W) : Shw W n (.str x) := ⟨h, by simp [PyData.showable], rfl, hl, Nat.zero_le _⟩
theorem Shw.non {W n : Nat} : Shw W n .none := ⟨rfl, by simp [PyData.showable], rfl, Nat.zero_le _, Nat.zero_le _⟩
theorem shw_all {W n : Nat} : ∀ {ds : List PyData}, (∀ d ∈ ds, Shw W n d) → PyData.canLayAll0 ds = true ∧ PyData.showableAll ds = true ∧ PyData.intsShortAll 13 ds = true ∧ PyData.weightAll ds ≤ ds.length * (W + 1) ∧ PyData.depthAll ds ≤ n
  | [], _ => ⟨rfl, by simp [PyData.showableAll], rfl, Nat.zero_le _, Nat.zero_le _⟩
  | d :: r, h => by
    obtain ⟨h1, h2, h3, h4, h5⟩ := shw_all (ds := r) fun z hz => h z (List.mem_cons_of_mem _ hz)
    have g := h d List.mem_cons_self
    refine ⟨?_, ?_, ?_, ?_, ?_⟩
    · show (d.canLay0 && PyData.canLayAll0 r) = true
      rw [g.lay, h1]
      rfl
    · rw [PyData.showableAll, g.shw, h2]
      rfl
    · rw [PyData.intsShortAll, g.sml, h3]
      rfl
    · show d.weight + 1 + PyData.weightAll r ≤ (r.length + 1) * (W + 1)
      rw [Nat.add_mul, Nat.one_mul]
      have := g.wt
      omega
    · show max d.depth (PyData.depthAll r) ≤ n
      exact Nat.max_le.mpr ⟨g.dp, h5⟩
theorem Shw.list {W n L : Nat} {ds : List PyData} (h : ∀ d ∈ ds, Shw W n d) (hl : ds.length ≤ L) : Shw (L * (W + 1)) (n + 1) (.list ds) := by
  obtain ⟨h1, h2, h3, h4, h5⟩ := shw_all h
  exact ⟨h1, by rw [PyData.showable]; exact h2, by rw [PyData.intsShort]; exact h3, Nat.le_trans h4 (Nat.mul_le_mul_right _ hl), Nat.succ_le_succ h5⟩
theorem Shw.tuple {W n L : Nat} {ds : List PyData} (h : ∀ d ∈ ds, Shw W n d) (hl : ds.length ≤ L) : Shw (L * (W + 1)) (n + 1) (.tuple ds) := by
  obtain ⟨h1, h2, h3, h4, h5⟩ := shw_all h
  exact ⟨h1, by rw [PyData.showable]; exact h2, by rw [PyData.intsShort]; exact h3, Nat.le_trans h4 (Nat.mul_le_mul_right _ hl), Nat.succ_le_succ h5⟩
/-- what repr asks -/
theorem Shw.nod {W n : Nat} {d : PyData} (h : Shw W n d) : d.hasDict = false := PyData.hasDict_of_canLay d h.lay
theorem Shw.deep {W n : Nat} {d : PyData} (h : Shw W n d) (hn : n ≤ 64 := by decide) : d.depth ≤ 64 := Nat.le_trans h.dp hn
theorem Shw.fit {W n : Nat} {d : PyData} (h : Shw W n d) (hW : W ≤ 2 ^ 20 := by decide) : d.shown.length ≤ sizeLine := PyData.shown_fits (by decide) (by decide) (PyData.leavesShort_of_canLay0 13 d h.lay h.sml) (Nat.le_trans h.wt hW)
end PW
namespace PW
open PySem PySem.Spec PyProof.Rows L2
/-- the law's call at the heap behind the top, its promise kept where nothing is being shown -/
theorem law_callG {P : Program} {w : World} {K : PySem.W.Frag} {mg mb : Str → Option Value} {cx : CXT} {k : Nat} {fa a : Addr} {fd : FuncData} {x : Str} {sp : Sp} {t : Shared} {vs : List Value} {ns : List Int}
    (inK : K.In t.heap) (nsM : t.heap.Ns mainGlobals mg) (nsB : t.heap.Ns builtinsNs mb) (boot : ∀ x : Str, x ≠ "__name__" → mb x = bootBuiltins x) (lim : t.heap.NoLimit) (gens : t.gens = #[])
    (here : t.heap.get? a = some { cls := .type "list", data := .seq vs.toArray }) (are : IntsAre vs ns) (small : ns.length ≤ sizeLine) (rm : Room k callerA)
    (F : ∀ base : Heap, K.In base → base.Ns mainGlobals mg → FnG P w K mg base cx k fa fd [x] sp) (bi : ∀ (s : Shared) (u : Value), BindsTo s fd ⟨[u], []⟩ [(x, u)])
    (pr : ∀ H : Hp, Only H → SqL K H a (ns.map V.int) → sp [.ref a] H (fun v _ => v = .bl true) fun _ _ _ => False)
    (never : ∀ H e s', cx [] H t (fun _ _ _ => False) e s' → False) :
    codeAny (model P w) callerA (.call (.ref fa) ⟨[.ref a], []⟩) (fun r s' => r = .ok (.ret (.bool true)) ∧ OldK t.heap s'.heap ∧ s'.os = t.os ∧ AllBare s'.gens) t := by
  have rel := vals_ints are
  have lens := are.length
  have main : ∀ H : Hp, Only H → SqL K H a (ns.map V.int) → HOk P w H t.heap → (∀ b, H b ≠ none → b = a) → (H a ≠ none → K.lookup a = none) →
      codeAny (model P w) callerA (.call (.ref fa) ⟨[.ref a], []⟩) (fun r s' => r = .ok (.ret (.bool true)) ∧ OldK t.heap s'.heap ∧ s'.os = t.os ∧ AllBare s'.gens) t := fun H only sq hok one old => by
    have low : ∀ {b : Addr} {o : Obj}, t.heap.get? b = some o → H b = none → (hidT t.heap H).get? b = some o := fun z n => hidT_get z n
    have free : ∀ {b : Addr} {o : Obj} {es : Array DictEntry} {ep : Nat}, t.heap.get? b = some o → o.data = .dict es ep → H b = none := fun {b o es ep} z dd => by
      refine Classical.byContradiction fun nn => ?_
      have eb := one b nn
      rw [eb, here] at z
      have z2 := Option.some.inj z
      rw [← z2] at dd
      cases dd
    have nsL : ∀ {b : Addr} {m : Str → Option Value}, t.heap.Ns b m → (hidT t.heap H).Ns b m := fun {b m} z => by
      obtain ⟨o, es, ep, e, d, r⟩ := z
      exact ⟨o, es, ep, low e (free e d), d, r⟩
    have lowK : K.In (hidT t.heap H) := fun b o z => low (inK b o z) (by
      refine Classical.byContradiction fun nn => ?_
      have eb := one b nn
      rw [eb] at nn z
      rw [old nn] at z
      cases z)
    have md : Mod K mg (hidT t.heap H) := ⟨lowK, nsL nsM, ⟨mb, nsL nsB, boot⟩, by
      obtain ⟨mc, z1, z2⟩ := lim
      exact ⟨mc, nsL z1, z2⟩⟩
    have ev : Env0 P w K mg (hidT t.heap H) callerA [] t H := ⟨rfl, md, fun b o z => of_hidT z, Nat.le_of_eq (hidT_size _ _), trivial, fun b hb => absurd (show b ∈ ([] : List Addr) from hb) (by simp), hok, .of_eq gens⟩
    refine codeAny_mono ((F _ lowK (nsL nsM)).goes callerA [] t H ⟨[.ref a], []⟩ [.ref a] [.ref a] _ _ rfl rm ev (bi t (.ref a)) (.cons rfl .nil) (pr H only sq)) fun r s' got => ?_
    cases r with
    | error e => exact (never H e s' got).elim
    | ok fl =>
      cases fl with
      | next | brk | cont => exact False.elim got
      | ret u =>
        obtain ⟨v, G, os, bare, un, hok2, rv, qv⟩ := got
        have ev2 : v = .bl true := qv
        subst ev2
        obtain rfl : u = Value.bool true := rv
        refine ⟨rfl, OldK.of_keep fun b o z => ?_, os, bare⟩
        rcases only b with n | ⟨ob, xs, n⟩
        · exact un.keep b o z n (fun y => absurd (show b ∈ ([] : List Addr) from y) (by simp)) (by simp)
        · have n2 := un.frzs b ob _ n
          have z1 := (hok b _ n).1
          have z2 := (hok2 b _ n2).1
          have e1 : o = ob := Option.some.inj (z.symm.trans z1)
          rw [e1]
          exact z2
  cases hk : K.lookup a with
  | some o =>
    have z := inK a o hk
    rw [here] at z
    have eo := (Option.some.inj z).symm
    subst eo
    refine main (fun _ => none) (fun _ => .inl rfl) (.inr ⟨_, vs.toArray, _, hk, rfl, rfl, rfl, by rw [List.size_toArray, lens]; exact small, by simpa using rel⟩) (fun b u z => nomatch (show (none : Option HO) = some u from z)) (fun b z => absurd rfl z) fun z => absurd rfl z
  | none =>
    refine main (fun b => if b = a then some (.frz { cls := .type "list", data := .seq vs.toArray } (.lst (ns.map V.int))) else none) (fun b => ?_) (.inl (.inr ⟨{ cls := .type "list", data := .seq vs.toArray }, if_pos rfl⟩)) (fun b u z => ?_) (fun b z => ?_) fun _ => hk
    · by_cases eb : b = a
      · exact .inr ⟨_, _, if_pos eb⟩
      · exact .inl (if_neg eb)
    · by_cases eb : b = a
      · have z2 := Option.some.inj ((if_pos eb).symm.trans z)
        subst z2
        subst eb
        exact ⟨here, by rw [List.length_map]; exact small, vs, _, rel, here⟩
      · exact nomatch ((if_neg eb).symm.trans z)
    · exact Classical.byContradiction fun eb => z (if_neg eb)
theorem walk_ofG {l : PySem.W.OpenLaw} {n k : Nat} {q : Program} {loose : List Str} {XP : (Str → Option Value) → Heap → Prop} {YP : World → Heap → Prop} {d : DefRec} {cx : CXT} {x : Str}
    (hn : l.most = some n) (hn2 : n ≤ sizeLine) (hdf : d.params.defaults = []) (rm : Room k callerA)
    (F : ∀ (w : World) (mg : Str → Option Value) (fa : Addr) (g : Heap), YP w g → g.Ns mainGlobals mg → mg d.name = some (.ref fa) → ∃ (K : PySem.W.Frag) (fd : FuncData) (sp : Sp), K.In g ∧ (∀ (t : Shared) (v : Value), BindsTo t fd ⟨[v], []⟩ [(x, v)]) ∧
      (∀ (H : Hp) (a : Addr) (is : List Int), is.length ≤ n → Only H → SqL K H a (is.map V.int) → sp [.ref a] H (fun v _ => v = .bl true) fun _ _ _ => False) ∧ ∀ base : Heap, K.In base → base.Ns mainGlobals mg → FnG l.prog w K mg base cx k fa fd [x] sp)
    (never : ∀ (H : Hp) (s : Shared) (e : Value) (s' : Shared), cx [] H s (fun _ _ _ => False) e s' → False) : PySem.W.WalkO q loose XP YP l.row.toRowW d [] (fun f vs => PySem.call f vs) := by
  refine Att.attach_call hn hdf fun w s₀ t mg mb fa o pm cd doc a vs ns G Y ho hd hcd hmg hobj hints hlen hg => ?_
  obtain ⟨K, fd, sp, inK, bi, pr, hF⟩ := F w mg fa _ Y G.T.g hmg
  exact law_callG inK G.T.g G.T.b G.T.builtins G.T.nolimit hg hobj hints (Nat.le_trans hlen hn2) rm hF bi (fun H only sq => pr H a ns hlen only sq) fun H e s' => never H t e s'
end PW

namespace PW
open PySem PySem.Spec PyProof.Rows L2
/-! ## data, and what stands for it in the heap -/
/-- a walk along ears: where its parts stand -/
structure WkA where
  dx : Addr
  kv : V
  am : Addr
  au : Addr
inductive D where
  | non | bl (b : Bool) | int (i : Int) | str (s : Str) | ty (n : String)
  | lst (xs : List D) | tup (xs : List D)
  | dK (kvs : List (Key × D)) | dT (kvs : List (List Key × D))
  | ins (c : Str) (fs : List (Str × D))
  | exn (c : Str) (fs : List (Str × D))
  | pot
  | wlk (w : WkA) (ks : List (Str × Str)) (ms : List Str) (us : List Int)
/-- more addresses that a thing of a slot's own has to itself -/
def D.xtra : D → List Addr
  | .wlk w _ _ _ => [w.am, w.au]
  | _ => []
/-- a refusal held as a value: its very object is known -/
abbrev exH (a : Addr) (oe : Obj) : HO := .frz oe (.ext fun h => h.get? a = some oe)
/-- what stands in its dict -/
def ExF (H : Hp) (dd : Option Addr) (fvs : List (Str × V)) : Prop := match dd with
  | none => fvs = []
  | some d => H d = some (.xd fvs)
theorem ExF.mono {H H' : Hp} {dd : Option Addr} {fvs : List (Str × V)} (x : ExF H dd fvs) (e : Same H H') : ExF H' dd fvs := by
  unfold ExF at x ⊢
  split
  · exact x
  · exact e _ _ x
theorem ExF.uniq {H : Hp} {dd : Option Addr} {fvs gvs : List (Str × V)} (x : ExF H dd fvs) (y : ExF H dd gvs) : fvs = gvs := by
  cases dd with
  | none => exact (show fvs = [] from x).trans (show gvs = [] from y).symm
  | some d =>
    have x : H d = some (.xd fvs) := x
    have y : H d = some (.xd gvs) := y
    rw [x] at y
    cases y
    rfl
mutual
inductive Rep (K : PySem.W.Frag) (H : Hp) : V → D → Prop
  | non : Rep K H .non .non
  | bl (b : Bool) : Rep K H (.bl b) (.bl b)
  | int (i : Int) : Rep K H (.int i) (.int i)
  | str (s : Str) : Rep K H (.str s) (.str s)
  | ty (n : String) : Rep K H (.ty n) (.ty n)
  | lst {a : Addr} {vs : List V} {ds : List D} : H a = some (.lst vs) → RepL K H vs ds → Rep K H (.ref a) (.lst ds)
  | tup {a : Addr} {vs : List V} {ds : List D} : H a = some (.tup vs) → RepL K H vs ds → Rep K H (.ref a) (.tup ds)
  | dK {a : Addr} {kvs : List (Key × V)} {es : List (Key × D)} : Rd H a (.dK kvs) → kvs.map (·.1) = es.map (·.1) → RepL K H (kvs.map (·.2)) (es.map (·.2)) → Rep K H (.ref a) (.dK es)
  | dT {a : Addr} {kvs : List (List Key × V)} {es : List (List Key × D)} : Rd H a (.dT kvs) → kvs.map (·.1) = es.map (·.1) → RepL K H (kvs.map (·.2)) (es.map (·.2)) → Rep K H (.ref a) (.dT es)
  | ins {a dx : Addr} {c : Str} {fs : List (Str × V)} {es : List (Str × D)} : H a = some (.ins (He.ga K c) dx fs) → fs.map (·.1) = es.map (·.1) → RepL K H (fs.map (·.2)) (es.map (·.2)) → Rep K H (.ref a) (.ins c es)
  | exn {a : Addr} {oe : Obj} {c : Str} {fvs : List (Str × V)} {es : List (Str × D)} : H a = some (exH a oe) → oe.cls = .ref (He.ga K c) → (∃ fv, oe.data = .fields fv) → ExF H oe.dict fvs → fvs.map (·.1) = es.map (·.1) → RepL K H (fvs.map (·.2)) (es.map (·.2)) → Rep K H (.ref a) (.exn c es)
inductive RepL (K : PySem.W.Frag) (H : Hp) : List V → List D → Prop
  | nil : RepL K H [] []
  | cons {v : V} {vs : List V} {d : D} {ds : List D} : Rep K H v d → RepL K H vs ds → RepL K H (v :: vs) (d :: ds)
end
section
variable {K : PySem.W.Frag} {H H' : Hp}
theorem Rd.same (e : Same H H') {a : Addr} {u : HO} : Rd H a u → Rd H' a u
  | .inl h => .inl (e _ _ h)
  | .inr ⟨o, h⟩ => .inr ⟨o, e _ _ h⟩
mutual
theorem Rep.mono (e : Same H H') : ∀ {v : V} {d : D}, Rep K H v d → Rep K H' v d
  | _, _, .non => .non
  | _, _, .bl b => .bl b
  | _, _, .int i => .int i
  | _, _, .str s => .str s
  | _, _, .ty n => .ty n
  | _, _, .lst h g => .lst (e _ _ h) (RepL.mono e g)
  | _, _, .tup h g => .tup (e _ _ h) (RepL.mono e g)
  | _, _, .dK h k g => .dK (Rd.same e h) k (RepL.mono e g)
  | _, _, .dT h k g => .dT (Rd.same e h) k (RepL.mono e g)
  | _, _, .ins h k g => .ins (e _ _ h) k (RepL.mono e g)
  | _, _, .exn h c f x k g => .exn (e _ _ h) c f (x.mono e) k (RepL.mono e g)
theorem RepL.mono (e : Same H H') : ∀ {vs : List V} {ds : List D}, RepL K H vs ds → RepL K H' vs ds
  | _, _, .nil => .nil
  | _, _, .cons h g => .cons (Rep.mono e h) (RepL.mono e g)
end
theorem RepL.len : ∀ {vs : List V} {ds : List D}, RepL K H vs ds → vs.length = ds.length
  | _, _, .nil => rfl
  | _, _, .cons _ g => congrArg (· + 1) g.len
theorem RepL.get : ∀ {vs : List V} {ds : List D} {i : Nat} {d : D}, RepL K H vs ds → ds[i]? = some d → ∃ v, vs[i]? = some v ∧ Rep K H v d
  | _, _, _, _, .nil, e => by simp at e
  | _, _, 0, _, .cons h _, e => by
    cases e
    exact ⟨_, rfl, h⟩
  | _, _, i + 1, _, .cons _ g, e => g.get (i := i) e
theorem RepL.getV : ∀ {vs : List V} {ds : List D} {i : Nat} {v : V}, RepL K H vs ds → vs[i]? = some v → ∃ d, ds[i]? = some d ∧ Rep K H v d
  | _, _, _, _, .nil, e => by simp at e
  | _, _, 0, _, .cons h _, e => by
    cases e
    exact ⟨_, rfl, h⟩
  | _, _, i + 1, _, .cons _ g, e => g.getV (i := i) e
theorem RepL.app : ∀ {vs ws : List V} {ds es : List D}, RepL K H vs ds → RepL K H ws es → RepL K H (vs ++ ws) (ds ++ es)
  | _, _, _, _, .nil, s => s
  | _, _, _, _, .cons h g, s => .cons h (g.app s)
theorem RepL.one {v : V} {d : D} (h : Rep K H v d) : RepL K H [v] [d] := .cons h .nil
theorem RepL.set {v : V} {d : D} (h : Rep K H v d) : ∀ {vs : List V} {ds : List D} (i : Nat), RepL K H vs ds → RepL K H (vs.set i v) (ds.set i d)
  | _, _, _, .nil => .nil
  | _, _, 0, .cons _ g => .cons h g
  | _, _, i + 1, .cons q g => .cons q (RepL.set h i g)
theorem RepL.take : ∀ {vs : List V} {ds : List D} (n : Nat), RepL K H vs ds → RepL K H (vs.take n) (ds.take n)
  | _, _, 0, _ => .nil
  | _, _, _ + 1, .nil => .nil
  | _, _, n + 1, .cons r t => .cons r (RepL.take n t)
theorem RepL.drop : ∀ {vs : List V} {ds : List D} (n : Nat), RepL K H vs ds → RepL K H (vs.drop n) (ds.drop n)
  | _, _, 0, r => r
  | _, _, _ + 1, .nil => .nil
  | _, _, n + 1, .cons _ t => RepL.drop n t
theorem RepL.rev : ∀ {vs : List V} {ds : List D}, RepL K H vs ds → RepL K H vs.reverse ds.reverse
  | _, _, .nil => .nil
  | _, _, .cons h g => by
    rw [List.reverse_cons, List.reverse_cons]
    exact g.rev.app (.one h)
theorem RepL.erase : ∀ {vs : List V} {ds : List D} (i : Nat), RepL K H vs ds → RepL K H (vs.eraseIdx i) (ds.eraseIdx i)
  | _, _, _, .nil => .nil
  | _, _, 0, .cons _ g => g
  | _, _, i + 1, .cons q g => .cons q (RepL.erase i g)
end
/-! ### what can't change: flat things and tuples of such -/
mutual
def D.imm : D → Bool
  | .tup xs => D.immL xs
  | .lst _ => false
  | .dK _ => false
  | .dT _ => false
  | .ins _ _ => false
  | .exn _ _ => false
  | .pot => false
  | .wlk _ _ _ _ => false
  | .non => true
  | .bl _ => true
  | .int _ => true
  | .str _ => true
  | .ty _ => true
def D.immL : List D → Bool
  | [] => true
  | d :: ds => d.imm && D.immL ds
end
open Classical in
/-- the heap without the bad addresses; tuples stay -/
noncomputable def cut (bad : Addr → Prop) (H : Hp) : Hp := fun a => match H a with
  | some (.tup xs) => some (.tup xs)
  | o => if bad a then none else o
theorem cut_of {bad : Addr → Prop} {H : Hp} {a : Addr} {o : HO} (h : H a = some o) (n : ¬ bad a) : cut bad H a = some o := by
  unfold cut
  rw [h]
  cases o <;> simp [n]
theorem cut_tup {bad : Addr → Prop} {H : Hp} {a : Addr} {xs : List V} (h : H a = some (.tup xs)) : cut bad H a = some (.tup xs) := by
  unfold cut
  rw [h]
theorem cut_inv {bad : Addr → Prop} {H : Hp} {a : Addr} {o : HO} (h : cut bad H a = some o) : H a = some o ∧ (¬ bad a ∨ ∃ xs, o = .tup xs) := by
  unfold cut at h
  cases e : H a with
  | none =>
    rw [e] at h
    simp at h
  | some u =>
    rw [e] at h
    cases u with
    | tup xs =>
      simp at h
      subst h
      exact ⟨rfl, .inr ⟨_, rfl⟩⟩
    | _ =>
      simp at h
      obtain ⟨h1, rfl⟩ := h
      exact ⟨rfl, .inl h1⟩
theorem cut_le {bad : Addr → Prop} {H : Hp} : Same (cut bad H) H := fun _ _ h => (cut_inv h).1
theorem cut_mono {bad bad' : Addr → Prop} {H H' : Hp} (h : ∀ a o, H a = some o → ¬ bad a → H' a = some o ∧ ¬ bad' a) (t : ∀ a xs, H a = some (.tup xs) → bad a → H' a = some (.tup xs)) : Same (cut bad H) (cut bad' H') := fun a o e => by
  obtain ⟨e1, e2⟩ := cut_inv e
  rcases Classical.em (bad a) with b | b
  · rcases e2 with e2 | ⟨xs, rfl⟩
    · exact absurd b e2
    · exact cut_tup (t a xs e1 b)
  · obtain ⟨h1, h2⟩ := h a o e1 b
    exact cut_of h1 h2
section
variable {K : PySem.W.Frag} {H : Hp} {bad : Addr → Prop}
mutual
theorem Rep.imm : ∀ {v : V} {d : D}, Rep K H v d → d.imm = true → Rep K (cut bad H) v d
  | _, _, .non, _ => .non
  | _, _, .bl b, _ => .bl b
  | _, _, .int i, _ => .int i
  | _, _, .str s, _ => .str s
  | _, _, .ty n, _ => .ty n
  | _, _, .tup h g, e => .tup (cut_tup h) (RepL.imm g (by simpa [D.imm] using e))
  | _, _, .lst _ _, e => by simp [D.imm] at e
  | _, _, .dK _ _ _, e => by simp [D.imm] at e
  | _, _, .dT _ _ _, e => by simp [D.imm] at e
  | _, _, .ins _ _ _, e => by simp [D.imm] at e
  | _, _, .exn _ _ _ _ _ _, e => by simp [D.imm] at e
theorem RepL.imm : ∀ {vs : List V} {ds : List D}, RepL K H vs ds → D.immL ds = true → RepL K (cut bad H) vs ds
  | _, _, .nil, _ => .nil
  | _, _, .cons h g, e => by
    simp only [D.immL, Bool.and_eq_true] at e
    exact .cons (Rep.imm h e.1) (RepL.imm g e.2)
end
end
/-! ### a thing in the heap is not within itself -/
mutual
def D.dp : D → Nat
  | .lst xs => D.dpL xs + 1
  | .tup xs => D.dpL xs + 1
  | .dK kvs => D.dpK kvs + 1
  | .dT kvs => D.dpT kvs + 1
  | .ins _ fs => D.dpF fs + 1
  | .exn _ fs => D.dpF fs + 1
  | .pot => 0
  | .wlk _ _ _ _ => 0
  | .non => 0
  | .bl _ => 0
  | .int _ => 0
  | .str _ => 0
  | .ty _ => 0
def D.dpL : List D → Nat
  | [] => 0
  | d :: ds => max d.dp (D.dpL ds)
def D.dpK : List (Key × D) → Nat
  | [] => 0
  | (_, d) :: ds => max d.dp (D.dpK ds)
def D.dpT : List (List Key × D) → Nat
  | [] => 0
  | (_, d) :: ds => max d.dp (D.dpT ds)
def D.dpF : List (Str × D) → Nat
  | [] => 0
  | (_, d) :: ds => max d.dp (D.dpF ds)
end
theorem dpK_eq : ∀ kvs : List (Key × D), D.dpK kvs = D.dpL (kvs.map (·.2))
  | [] => by simp [D.dpK, D.dpL]
  | (_, d) :: ds => by simp [D.dpK, D.dpL, dpK_eq ds]
theorem dpT_eq : ∀ kvs : List (List Key × D), D.dpT kvs = D.dpL (kvs.map (·.2))
  | [] => by simp [D.dpT, D.dpL]
  | (_, d) :: ds => by simp [D.dpT, D.dpL, dpT_eq ds]
theorem dpF_eq : ∀ kvs : List (Str × D), D.dpF kvs = D.dpL (kvs.map (·.2))
  | [] => by simp [D.dpF, D.dpL]
  | (_, d) :: ds => by simp [D.dpF, D.dpL, dpF_eq ds]
theorem dpL_mem : ∀ {ds : List D} {d : D}, d ∈ ds → d.dp ≤ D.dpL ds
  | [], _, h => by cases h
  | e :: ds, d, h => by
    simp only [D.dpL]
    rcases List.mem_cons.mp h with rfl | h
    · omega
    · have := dpL_mem h
      omega
section
variable {K : PySem.W.Frag} {H : Hp}
theorem Rd.dK1 {a : Addr} {k1 k2 : List (Key × V)} (h : Rd H a (.dK k1)) (g : Rd H a (.dK k2)) : k1 = k2 := by
  rcases h with h | ⟨o, h⟩ <;> rcases g with g | ⟨p, g⟩ <;> rw [h] at g <;> cases g <;> rfl
theorem Rd.dT1 {a : Addr} {k1 k2 : List (List Key × V)} (h : Rd H a (.dT k1)) (g : Rd H a (.dT k2)) : k1 = k2 := by
  rcases h with h | ⟨o, h⟩ <;> rcases g with g | ⟨p, g⟩ <;> rw [h] at g <;> cases g <;> rfl
mutual
theorem Rep.dp1 : ∀ {v : V} {d : D}, Rep K H v d → ∀ {e : D}, Rep K H v e → d.dp = e.dp
  | _, _, .non, _, q => by cases q; rfl
  | _, _, .bl b, _, q => by cases q; rfl
  | _, _, .int i, _, q => by cases q; rfl
  | _, _, .str s, _, q => by cases q; rfl
  | _, _, .ty n, _, q => by cases q; rfl
  | _, _, .lst h g, _, q => by
    cases q with
    | lst h' g' =>
      rw [h] at h'
      cases h'
      simp only [D.dp, RepL.dp1 g g']
    | tup h' g' => rw [h] at h'; cases h'
    | dK h' _ g' => rcases h' with h' | ⟨_, h'⟩ <;> rw [h] at h' <;> cases h'
    | dT h' _ g' => rcases h' with h' | ⟨_, h'⟩ <;> rw [h] at h' <;> cases h'
    | ins h' _ g' => rw [h] at h'; cases h'
    | exn h' _ _ _ _ _ => rw [h] at h'; cases h'
  | _, _, .tup h g, _, q => by
    cases q with
    | tup h' g' =>
      rw [h] at h'
      cases h'
      simp only [D.dp, RepL.dp1 g g']
    | lst h' g' => rw [h] at h'; cases h'
    | dK h' _ g' => rcases h' with h' | ⟨_, h'⟩ <;> rw [h] at h' <;> cases h'
    | dT h' _ g' => rcases h' with h' | ⟨_, h'⟩ <;> rw [h] at h' <;> cases h'
    | ins h' _ g' => rw [h] at h'; cases h'
    | exn h' _ _ _ _ _ => rw [h] at h'; cases h'
  | _, _, .dK h k g, _, q => by
    cases q with
    | dK h' k' g' =>
      cases Rd.dK1 h h'
      simp only [D.dp, dpK_eq, RepL.dp1 g g']
    | lst h' g' => rcases h with h | ⟨_, h⟩ <;> rw [h] at h' <;> cases h'
    | tup h' g' => rcases h with h | ⟨_, h⟩ <;> rw [h] at h' <;> cases h'
    | dT h' _ g' => rcases h with h | ⟨_, h⟩ <;> rcases h' with h' | ⟨_, h'⟩ <;> rw [h] at h' <;> cases h'
    | ins h' _ g' => rcases h with h | ⟨_, h⟩ <;> rw [h] at h' <;> cases h'
    | exn h' _ _ _ _ _ => rcases h with h | ⟨_, h⟩ <;> rw [h] at h' <;> cases h'
  | _, _, .dT h k g, _, q => by
    cases q with
    | dT h' k' g' =>
      cases Rd.dT1 h h'
      simp only [D.dp, dpT_eq, RepL.dp1 g g']
    | lst h' g' => rcases h with h | ⟨_, h⟩ <;> rw [h] at h' <;> cases h'
    | tup h' g' => rcases h with h | ⟨_, h⟩ <;> rw [h] at h' <;> cases h'
    | dK h' _ g' => rcases h with h | ⟨_, h⟩ <;> rcases h' with h' | ⟨_, h'⟩ <;> rw [h] at h' <;> cases h'
    | ins h' _ g' => rcases h with h | ⟨_, h⟩ <;> rw [h] at h' <;> cases h'
    | exn h' _ _ _ _ _ => rcases h with h | ⟨_, h⟩ <;> rw [h] at h' <;> cases h'
  | _, _, .ins h k g, _, q => by
    cases q with
    | ins h' k' g' =>
      rw [h] at h'
      injection h' with h'
      injection h' with _ _ h'
      subst h'
      simp only [D.dp, dpF_eq, RepL.dp1 g g']
    | lst h' g' => rw [h] at h'; cases h'
    | tup h' g' => rw [h] at h'; cases h'
    | dK h' _ g' => rcases h' with h' | ⟨_, h'⟩ <;> rw [h] at h' <;> cases h'
    | dT h' _ g' => rcases h' with h' | ⟨_, h'⟩ <;> rw [h] at h' <;> cases h'
    | exn h' _ _ _ _ _ => rw [h] at h'; cases h'
  | _, _, .exn h _ _ x k g, _, q => by
    cases q with
    | exn h' _ _ x' k' g' =>
      rw [h] at h'
      injection h' with h'
      injection h' with h' _
      subst h'
      cases x.uniq x'
      simp only [D.dp, dpF_eq, RepL.dp1 g g']
    | lst h' g' => rw [h] at h'; cases h'
    | tup h' g' => rw [h] at h'; cases h'
    | dK h' _ g' => rcases h' with h' | ⟨_, h'⟩ <;> rw [h] at h' <;> cases h'
    | dT h' _ g' => rcases h' with h' | ⟨_, h'⟩ <;> rw [h] at h' <;> cases h'
    | ins h' _ g' => rw [h] at h'; cases h'
theorem RepL.dp1 : ∀ {vs : List V} {ds : List D}, RepL K H vs ds → ∀ {es : List D}, RepL K H vs es → D.dpL ds = D.dpL es
  | _, _, .nil, _, q => by cases q; rfl
  | _, _, .cons h g, _, q => by
    cases q with
    | cons h' g' => simp only [D.dpL, Rep.dp1 h h', RepL.dp1 g g']
end
mutual
theorem Rep.rm {a : Addr} {n : Nat} (hx : ∀ fvs, H a ≠ some (.xd fvs)) (ha : ∀ e, Rep K H (.ref a) e → e.dp = n) : ∀ {v : V} {d : D}, Rep K H v d → d.dp < n → Rep K (cut (· = a) H) v d
  | _, _, .non, _ => .non
  | _, _, .bl b, _ => .bl b
  | _, _, .int i, _ => .int i
  | _, _, .str s, _ => .str s
  | _, _, .ty n, _ => .ty n
  | _, _, .lst (a := b) (ds := ds) h g, z => .lst (cut_of h fun (e : b = a) => by
      subst e
      have := ha _ (.lst h g)
      omega) (RepL.rm hx ha g (by simp only [D.dp] at z; omega))
  | _, _, .tup h g, z => .tup (cut_tup h) (RepL.rm hx ha g (by simp only [D.dp] at z; omega))
  | _, _, .dK (a := b) h k g, z => by
    have hb : b ≠ a := fun e => by
      subst e
      have := ha _ (.dK h k g)
      omega
    refine .dK ?_ k (RepL.rm hx ha g (by simp only [D.dp, dpK_eq] at z; omega))
    rcases h with h | ⟨o, h⟩
    · exact .inl (cut_of h hb)
    · exact .inr ⟨o, cut_of h hb⟩
  | _, _, .dT (a := b) h k g, z => by
    have hb : b ≠ a := fun e => by
      subst e
      have := ha _ (.dT h k g)
      omega
    refine .dT ?_ k (RepL.rm hx ha g (by simp only [D.dp, dpT_eq] at z; omega))
    rcases h with h | ⟨o, h⟩
    · exact .inl (cut_of h hb)
    · exact .inr ⟨o, cut_of h hb⟩
  | _, _, .ins (a := b) h k g, z => .ins (cut_of h fun (e : b = a) => by
      subst e
      have := ha _ (.ins h k g)
      omega) k (RepL.rm hx ha g (by simp only [D.dp, dpF_eq] at z; omega))
  | _, _, .exn (a := b) (oe := oe) (fvs := fvs) h c f x k g, z => by
    have hb : b ≠ a := fun e => by
      subst e
      have := ha _ (.exn h c f x k g)
      omega
    refine .exn (cut_of h hb) c f ?_ k (RepL.rm hx ha g (by simp only [D.dp, dpF_eq] at z; omega))
    unfold ExF at x ⊢
    split
    · rename_i e
      rw [e] at x
      exact x
    · rename_i dd e
      rw [e] at x
      exact cut_of x fun y => hx fvs (y ▸ x)
theorem RepL.rm {a : Addr} {n : Nat} (hx : ∀ fvs, H a ≠ some (.xd fvs)) (ha : ∀ e, Rep K H (.ref a) e → e.dp = n) : ∀ {vs : List V} {ds : List D}, RepL K H vs ds → D.dpL ds < n → RepL K (cut (· = a) H) vs ds
  | _, _, .nil, _ => .nil
  | _, _, .cons h g, z => .cons (Rep.rm hx ha h (by simp only [D.dpL] at z; omega)) (RepL.rm hx ha g (by simp only [D.dpL] at z; omega))
end
/-- the parts of a list do not hold it -/
theorem Rep.parts {a : Addr} {d : D} (h : Rep K H (.ref a) d) {vs : List V} {ds : List D} (g : RepL K H vs ds) (z : D.dpL ds < d.dp) : RepL K (cut (· = a) H) vs ds :=
  g.rm (n := d.dp) (fun fvs y => by
    cases h with
    | lst h' _ => rw [y] at h'; cases h'
    | tup h' _ => rw [y] at h'; cases h'
    | dK h' _ _ => rcases h' with h' | ⟨_, h'⟩ <;> rw [y] at h' <;> cases h'
    | dT h' _ _ => rcases h' with h' | ⟨_, h'⟩ <;> rw [y] at h' <;> cases h'
    | ins h' _ _ => rw [y] at h'; cases h'
    | exn h' _ _ _ _ _ => rw [y] at h'; cases h') (fun _ q => q.dp1 h) z
end
end PW

namespace PW
open PySem PySem.Spec PyProof.Rows L2
/-! ## a frame: its slots as data -/
/-- a slot: a thing that is only read (r: none of it stood at the def's entry), or a thing of the slot's own -/
structure Exn where
  c : Str
  fs : List (Str × D)
inductive Sl where
  | sh (r : Bool) (d : D) | ow (r : Bool) (d : D) | scr (ns : List Int) | exn (a : Addr) (dd : Option Addr) (x : Exn) | exo (a : Addr) (dd : Option Addr) (x : Exn) | lk (r : Bool) (d : D) | pa (r : Bool) (d : D) | po (d : D)
abbrev DEnv := List (Option Sl)
structure Fr where
  K : PySem.W.Frag
  H0 : Hp
  Hc : Hp
  Hx : Hp
  sc : Addr → List Int → Prop
  pt : Option Addr
  px : Addr → Prop
  hx : Addr → Prop
  hid : Addr → Prop
  lk : Addr → Prop
def Fr.ex (F : Fr) (a : Addr) : Prop := F.pt = some a ∨ F.px a ∨ F.lk a ∨ F.hx a
def Fr.hide (F : Fr) (a : Addr) : Fr := { F with hid := fun b => b = a ∨ F.hid b }
def Fr.hideS (F : Fr) (B : Addr → Prop) : Fr := { F with hid := fun b => B b ∨ F.hid b }
def OwnAt (σ : L2.St) (ρ : DEnv) (i : Nat) (a : Addr) : Prop := ∃ (r : Bool) (d : D), ρ[i]? = some (some (.ow r d)) ∧ (σ[i]? = some (some (.ref a)) ∨ a ∈ d.xtra)
def OwnA (σ : L2.St) (ρ : DEnv) (a : Addr) : Prop := ∃ i, OwnAt σ ρ i a
def Fr.bad (F : Fr) (O : Addr → Prop) (r : Bool) (a : Addr) : Prop := F.hid a ∨ O a ∨ (r = true ∧ F.H0 a ≠ none)
noncomputable abbrev Fr.RH (F : Fr) (O : Addr → Prop) (H : Hp) (r : Bool) : Hp := cut (F.bad O r) H
def RepO (K : PySem.W.Frag) (Hr : Hp) (o : Option HO) : D → Prop
  | .lst ds => ∃ vs, o = some (.lst vs) ∧ RepL K Hr vs ds
  | .dK es => ∃ kvs, o = some (.dK kvs) ∧ kvs.map (·.1) = es.map (·.1) ∧ RepL K Hr (kvs.map (·.2)) (es.map (·.2))
  | .dT es => ∃ kvs, o = some (.dT kvs) ∧ kvs.map (·.1) = es.map (·.1) ∧ RepL K Hr (kvs.map (·.2)) (es.map (·.2))
  | .ins c es => ∃ dx fs, o = some (.ins (He.ga K c) dx fs) ∧ fs.map (·.1) = es.map (·.1) ∧ RepL K Hr (fs.map (·.2)) (es.map (·.2))
  | .pot => ∃ x y : Int, 0 ≤ x ∧ 0 ≤ y ∧ o = some (.lst [.int x, .int y])
  | .wlk w ks _ _ => o = some (.ins (He.ga K "EarWalk") w.dx [("known", w.kv), ("met", .ref w.am), ("used", .ref w.au)]) ∧ Rep K Hr w.kv (.lst (ks.map fun t => .tup [.str t.1, .str t.2]))
  | _ => False
/-- the containers of a walk along ears -/
def XtO (H : Hp) : D → Prop
  | .wlk w _ ms us => H w.am = some (.lst (ms.map V.str)) ∧ H w.au = some (.dK (us.map fun n => ((Sum.inl n : Key), V.bl true)))
  | _ => True
/-- things of a slot's own that stay there -/
def D.isPot : D → Bool
  | .pot => true
  | .ins _ _ => true
  | .wlk _ _ _ _ => true
  | _ => false
def D.isWlk : D → Bool
  | .wlk _ _ _ _ => true
  | _ => false
theorem isWlk_of {d : D} (h : d.isPot = false) : d.isWlk = false := by
  cases d with
  | wlk => cases h
  | _ => rfl
theorem RepO.mono {K : PySem.W.Frag} {H H' : Hp} {o : Option HO} {d : D} (h : RepO K H o d) (e : Same H H') : RepO K H' o d := by
  cases d with
  | lst ds => obtain ⟨vs, h1, h2⟩ := h; exact ⟨vs, h1, h2.mono e⟩
  | dK es => obtain ⟨kvs, h1, h2, h3⟩ := h; exact ⟨kvs, h1, h2, h3.mono e⟩
  | dT es => obtain ⟨kvs, h1, h2, h3⟩ := h; exact ⟨kvs, h1, h2, h3.mono e⟩
  | ins c es => obtain ⟨dx, kvs, h1, h2, h3⟩ := h; exact ⟨dx, kvs, h1, h2, h3.mono e⟩
  | wlk w ks ms us => exact ⟨h.1, h.2.mono e⟩
  | pot => exact h
  | _ => exact h
theorem RepO.there {K : PySem.W.Frag} {H : Hp} {o : Option HO} {d : D} (h : RepO K H o d) : ∃ u, o = some u ∧ ∀ xs, u ≠ .tup xs := by
  cases d with
  | lst ds => obtain ⟨vs, h1, h2⟩ := h; exact ⟨_, h1, fun _ z => by cases z⟩
  | dK es => obtain ⟨kvs, h1, h2, h3⟩ := h; exact ⟨_, h1, fun _ z => by cases z⟩
  | dT es => obtain ⟨kvs, h1, h2, h3⟩ := h; exact ⟨_, h1, fun _ z => by cases z⟩
  | ins c es => obtain ⟨dx, kvs, h1, h2, h3⟩ := h; exact ⟨_, h1, fun _ z => by cases z⟩
  | pot => obtain ⟨x, y, _, _, h1⟩ := h; exact ⟨_, h1, fun _ z => by cases z⟩
  | wlk w ks ms us => exact ⟨_, h.1, fun _ z => by cases z⟩
  | _ => exact h.elim
theorem XtO.there {H : Hp} {d : D} (h : XtO H d) {b : Addr} (hb : b ∈ d.xtra) : ∃ u, H b = some u ∧ ∀ xs, u ≠ .tup xs := by
  cases d with
  | wlk w ks ms us =>
    obtain ⟨h1, h2⟩ := h
    rcases List.mem_cons.mp hb with rfl | hb
    · exact ⟨_, h1, fun _ z => by cases z⟩
    · rw [List.mem_singleton.mp hb]
      exact ⟨_, h2, fun _ z => by cases z⟩
  | _ => cases hb
theorem XtO.same {H H' : Hp} {d : D} (h : XtO H d) (e : ∀ b ∈ d.xtra, ∀ o, H b = some o → H' b = some o) : XtO H' d := by
  cases d with
  | wlk w ks ms us => exact ⟨e _ List.mem_cons_self _ h.1, e _ (List.mem_cons_of_mem _ List.mem_cons_self) _ h.2⟩
  | _ => trivial
/-- the script -/
def ScrAt (F : Fr) (a : Addr) (ns : List Int) : Prop := (Rd F.H0 a (.lst (ns.map V.int)) ∧ F.pt ≠ some a ∧ ¬ F.lk a ∧ ¬ F.px a) ∨ SqL F.K (fun _ => none) a (ns.map V.int)
/-- what stood at the frame's entry, as it stood -/
def PaAt (F : Fr) : Option Bool → V → D → Prop
  | some r, v, d => Rep F.K (cut (fun a => F.ex a ∨ (r = true ∧ F.Hc a ≠ none)) F.H0) v d
  | none, v, d => Rep F.K (cut F.ex F.Hx) v d
def XRep (K : PySem.W.Frag) (Hr : Hp) (dd : Option Addr) (x : Exn) : Prop := match x.fs with
  | [] => dd = none
  | fs => ∃ a fvs, dd = some a ∧ Hr a = some (.xd fvs) ∧ fvs.map (·.1) = fs.map (·.1) ∧ RepL K Hr (fvs.map (·.2)) (fs.map (·.2))
theorem XRep.mono {K : PySem.W.Frag} {H H' : Hp} {dd : Option Addr} {x : Exn} (h : XRep K H dd x) (e : Same H H') : XRep K H' dd x := by
  unfold XRep at h ⊢
  split at h
  · exact h
  · obtain ⟨a, fvs, h1, h2, h3, h4⟩ := h
    exact ⟨a, fvs, h1, e _ _ h2, h3, h4.mono e⟩
/-- a dict that is walked -/
def LkP (K : PySem.W.Frag) (H : Hp) (a : Addr) : D → Prop
  | .dK es => ∃ od kvs, H a = some (.frz od (.dK kvs)) ∧ kvs.map (·.1) = es.map (·.1) ∧ RepL K H (kvs.map (·.2)) (es.map (·.2))
  | .dT es => ∃ od kvs, H a = some (.frz od (.dT kvs)) ∧ kvs.map (·.1) = es.map (·.1) ∧ RepL K H (kvs.map (·.2)) (es.map (·.2))
  | _ => False
theorem LkP.mono {K : PySem.W.Frag} {H H' : Hp} {a : Addr} {d : D} (h : LkP K H a d) (e : Same H H') : LkP K H' a d := by
  cases d with
  | dK es =>
    obtain ⟨od, kvs, h1, h2, h3⟩ := h
    exact ⟨od, kvs, e _ _ h1, h2, h3.mono e⟩
  | dT es =>
    obtain ⟨od, kvs, h1, h2, h3⟩ := h
    exact ⟨od, kvs, e _ _ h1, h2, h3.mono e⟩
  | _ => exact h.elim
theorem LkP.rep {K : PySem.W.Frag} {H : Hp} {a : Addr} {d : D} (h : LkP K H a d) : Rep K H (.ref a) d := by
  cases d with
  | dK es =>
    obtain ⟨od, kvs, h1, h2, h3⟩ := h
    exact .dK (.inr ⟨od, h1⟩) h2 h3
  | dT es =>
    obtain ⟨od, kvs, h1, h2, h3⟩ := h
    exact .dT (.inr ⟨od, h1⟩) h2 h3
  | _ => exact h.elim
/-- slots that hold neither data nor a thing of their own -/
def RawP (K : PySem.W.Frag) (S : Addr → List Int → Prop) (P : Option Bool → V → D → Prop) (Hr : Bool → Hp) (o : Option (Option V)) : Sl → Prop
  | .scr ns => ∃ a, o = some (some (.ref a)) ∧ S a ns
  | .exn a dd x => o = some (some (.ref a)) ∧ XRep K (Hr true) dd x
  | .exo a dd x => o = some (some (.ref a)) ∧ XRep K (Hr false) dd x
  | .lk r d => ∃ a, o = some (some (.ref a)) ∧ LkP K (Hr r) a d
  | .pa r d => ∃ v, o = some (some v) ∧ P (some r) v d
  | .po d => ∃ v, o = some (some v) ∧ P none v d
  | _ => True
theorem RawP.mono {K : PySem.W.Frag} {S : Addr → List Int → Prop} {P : Option Bool → V → D → Prop} {Hr Hr' : Bool → Hp} {o : Option (Option V)} {s : Sl} (h : RawP K S P Hr o s) (e : ∀ r, Same (Hr r) (Hr' r)) : RawP K S P Hr' o s := by
  cases s with
  | exn a dd x => exact ⟨h.1, h.2.mono (e true)⟩
  | exo a dd x => exact ⟨h.1, h.2.mono (e false)⟩
  | lk r d =>
    obtain ⟨a, h1, h2⟩ := h
    exact ⟨a, h1, h2.mono (e r)⟩
  | scr ns => exact h
  | pa r d => exact h
  | po d => exact h
  | _ => trivial
structure Env (F : Fr) (σ : L2.St) (ρ : DEnv) (H : Hp) : Prop where
  len : σ.length = ρ.length
  keep : ∀ a o, F.H0 a = some o → F.pt ≠ some a → ¬ F.px a → H a = some o ∨ (F.lk a ∧ ∃ od, H a = some (.frz od o))
  sh : ∀ (i : Nat) (r : Bool) (d : D), ρ[i]? = some (some (.sh r d)) → ∃ v, σ[i]? = some (some v) ∧ Rep F.K (F.RH (OwnA σ ρ) H r) v d
  ow : ∀ (i : Nat) (r : Bool) (d : D), ρ[i]? = some (some (.ow r d)) → ∃ a, σ[i]? = some (some (.ref a)) ∧ RepO F.K (F.RH (OwnA σ ρ) H r) (H a) d ∧ ¬ F.hid a ∧ (F.H0 a = none ∨ F.pt = some a ∨ (F.px a ∧ d.isPot = true))
  inj : ∀ (i j : Nat) (a : Addr), OwnAt σ ρ i a → OwnAt σ ρ j a → i = j
  pt : ∀ a, F.pt = some a → ∃ r d, ρ[0]? = some (some (.ow r d)) ∧ d.isPot = true ∧ σ[0]? = some (some (.ref a))
  hidIn : ∀ a, F.hid a → (∃ o, H a = some o) ∧ (F.H0 a = none ∨ F.px a ∨ F.hx a)
  xo : ∀ (i : Nat) (r : Bool) (d : D), ρ[i]? = some (some (.ow r d)) → XtO H d
  xt : ∀ (i : Nat) (r : Bool) (d : D) (b : Addr), ρ[i]? = some (some (.ow r d)) → b ∈ d.xtra → ¬ F.hid b ∧ (F.H0 b = none ∨ F.px b ∨ F.pt = some b)
  pxIn : ∀ a, F.px a → ∃ o, H a = some o
  tp : ∀ a xs, F.H0 a = some (.tup xs) → H a = some (.tup xs)
  hc : ∀ a o, F.Hx a = some o → ¬ F.ex a → F.H0 a = some o
  tc : ∀ a xs, F.Hx a = some (.tup xs) → F.H0 a = some (.tup xs)
  sc : ∀ a ns, F.sc a ns → ScrAt F a ns
  raw : ∀ (i : Nat) (s : Sl), ρ[i]? = some (some s) → RawP F.K F.sc (PaAt F) (F.RH (OwnA σ ρ) H) σ[i]? s
/-- what stood and was no slot's own still stands and is none -/
structure Stp (O : Addr → Prop) (H : Hp) (O' : Addr → Prop) (H' : Hp) : Prop where
  kp : ∀ a o, H a = some o → ¬ O a → H' a = some o ∧ ¬ O' a
  dom : ∀ a, H' a = none → H a = none
theorem Stp.refl (O : Addr → Prop) (H : Hp) : Stp O H O H := ⟨fun _ _ h n => ⟨h, n⟩, fun _ h => h⟩
theorem Stp.trans {O O1 O2 : Addr → Prop} {H H1 H2 : Hp} (a : Stp O H O1 H1) (b : Stp O1 H1 O2 H2) : Stp O H O2 H2 := ⟨fun c o h n => by
  obtain ⟨h1, n1⟩ := a.kp c o h n
  exact b.kp c o h1 n1, fun c h => a.dom c (b.dom c h)⟩
theorem Stp.same {O : Addr → Prop} {H H' : Hp} (e : Same H H') : Stp O H O H' := ⟨fun _ _ h n => ⟨e _ _ h, n⟩, fun _ h => e.free h⟩
section
variable {F : Fr} {σ σ' : L2.St} {ρ ρ' : DEnv} {H H' : Hp} {a : Addr} {i : Nat} {r : Bool} {d : D} {v : V}
theorem Env.notup (E : Env F σ ρ H) (h : OwnA σ ρ a) : ∃ u, H a = some u ∧ ∀ xs, u ≠ .tup xs := by
  obtain ⟨i, r, d, h1, h2⟩ := h
  rcases h2 with h2 | h2
  · obtain ⟨b, h3, h4, _⟩ := E.ow i r d h1
    rw [h2] at h3
    cases h3
    exact h4.there
  · exact (E.xo i r d h1).there h2
theorem Env.rh (E : Env F σ ρ H) {O' : Addr → Prop} (s : Stp (OwnA σ ρ) H O' H') : Same (F.RH (OwnA σ ρ) H r) (F.RH O' H' r) := by
  refine cut_mono (fun a o h nb => ?_) fun a xs h b => ?_
  · obtain ⟨h1, h2⟩ := s.kp a o h fun z => nb (.inr (.inl z))
    refine ⟨h1, fun z => ?_⟩
    rcases z with z | z | z
    · exact nb (.inl z)
    · exact h2 z
    · exact nb (.inr (.inr z))
  · refine (s.kp a _ h fun z => ?_).1
    obtain ⟨u, hu, nu⟩ := E.notup z
    rw [h] at hu
    cases hu
    exact nu xs rfl
theorem Env.new (E : Env F σ ρ H) (h : H a = none) : F.H0 a = none ∧ ¬ F.hid a ∧ ¬ OwnA σ ρ a ∧ F.pt ≠ some a := by
  have no : ¬ OwnA σ ρ a := fun z => by
    obtain ⟨u, hu, _⟩ := E.notup z
    rw [h] at hu
    cases hu
  have np : F.pt ≠ some a := fun z => by
    obtain ⟨r, d, h1, _, h2⟩ := E.pt a z
    exact no ⟨0, r, d, h1, .inl h2⟩
  refine ⟨?_, fun z => ?_, no, np⟩
  · cases e : F.H0 a with
    | none => rfl
    | some o =>
      have nx : ¬ F.px a := fun z => by
        obtain ⟨o, ho⟩ := E.pxIn a z
        rw [h] at ho
        cases ho
      rcases E.keep a o e np nx with z | ⟨_, od, z⟩ <;> rw [h] at z <;> cases z
  · obtain ⟨⟨o, ho⟩, _⟩ := E.hidIn a z
    rw [h] at ho
    cases ho
theorem Env.grow (E : Env F σ ρ H) (e : Same H H') : Env F σ ρ H' where
  len := E.len
  keep := fun a o h n nx => by
    rcases E.keep a o h n nx with z | ⟨l, od, z⟩
    · exact .inl (e _ _ z)
    · exact .inr ⟨l, od, e _ _ z⟩
  sh := fun i r d h => by
    obtain ⟨v, h1, h2⟩ := E.sh i r d h
    exact ⟨v, h1, h2.mono (E.rh (.same e))⟩
  ow := fun i r d h => by
    obtain ⟨a, h1, h2, h3⟩ := E.ow i r d h
    obtain ⟨u, hu, _⟩ := h2.there
    refine ⟨a, h1, ?_, h3⟩
    rw [e _ _ hu, ← hu]
    exact h2.mono (E.rh (.same e))
  inj := E.inj
  pt := E.pt
  hidIn := fun a h => by
    obtain ⟨⟨o, ho⟩, h0⟩ := E.hidIn a h
    exact ⟨⟨o, e _ _ ho⟩, h0⟩
  xo := fun i r d h => (E.xo i r d h).same fun b _ o ho => e _ _ ho
  xt := E.xt
  pxIn := fun a h => by
    obtain ⟨o, ho⟩ := E.pxIn a h
    exact ⟨o, e _ _ ho⟩
  tp := fun a xs h => e _ _ (E.tp a xs h)
  hc := E.hc
  tc := E.tc
  sc := E.sc
  raw := fun i s hi => (E.raw i s hi).mono fun r => E.rh (.same e)
theorem Env.hideNew (E : Env F σ ρ H) (hb0 : H a = none) (e : Same H H') (ha : ∃ o, H' a = some o) : Env (F.hide a) σ ρ H' := by
  have up : ∀ r, Same (F.RH (OwnA σ ρ) H r) ((F.hide a).RH (OwnA σ ρ) H' r) := fun r => by
    refine cut_mono (fun b o hb nb => ⟨e _ _ hb, fun z => ?_⟩) fun b xs hb _ => e _ _ hb
    rcases z with (rfl | z) | z | z
    · rw [hb0] at hb
      cases hb
    · exact nb (.inl z)
    · exact nb (.inr (.inl z))
    · exact nb (.inr (.inr z))
  have E' := E.grow e
  refine ⟨E.len, E'.keep, fun i r d h => ?_, fun i r d h => ?_, E.inj, E.pt, fun b hb => ?_, E'.xo, fun i r d b h hb => ?_, E'.pxIn, E'.tp, E.hc, E.tc, E.sc, fun i s hi => (E.raw i s hi).mono up⟩
  · obtain ⟨v, h1, h2⟩ := E.sh i r d h
    exact ⟨v, h1, h2.mono (up r)⟩
  · obtain ⟨b, h1, h2, h3, h4⟩ := E.ow i r d h
    obtain ⟨u, hu, _⟩ := h2.there
    refine ⟨b, h1, ?_, fun z => ?_, h4⟩
    · rw [e _ _ hu, ← hu]
      exact h2.mono (up r)
    · rcases z with rfl | z
      · rw [hu] at hb0
        cases hb0
      · exact h3 z
  · rcases hb with rfl | hb
    · exact ⟨ha, .inl (E.new hb0).1⟩
    · exact E'.hidIn b hb
  · obtain ⟨g1, g2⟩ := E.xt i r d b h hb
    refine ⟨fun z => ?_, g2⟩
    rcases z with rfl | z
    · exact (E.new hb0).2.2.1 ⟨i, r, d, h, .inr hb⟩
    · exact g1 z
theorem Env.unhide (E : Env (F.hide a) σ ρ H) : Env F σ ρ H := by
  have up : ∀ r, Same ((F.hide a).RH (OwnA σ ρ) H r) (F.RH (OwnA σ ρ) H r) := fun r => by
    refine cut_mono (fun b o hb nb => ⟨hb, fun z => ?_⟩) fun b xs hb _ => hb
    rcases z with z | z | z
    · exact nb (.inl (.inr z))
    · exact nb (.inr (.inl z))
    · exact nb (.inr (.inr z))
  refine ⟨E.len, E.keep, fun i r d h => ?_, fun i r d h => ?_, E.inj, E.pt, fun b hb => E.hidIn b (.inr hb), E.xo, fun i r d b h hb => ⟨fun z => (E.xt i r d b h hb).1 (.inr z), (E.xt i r d b h hb).2⟩, E.pxIn, E.tp, E.hc, E.tc, E.sc, fun i s hi => (E.raw i s hi).mono up⟩
  · obtain ⟨v, h1, h2⟩ := E.sh i r d h
    exact ⟨v, h1, h2.mono (up r)⟩
  · obtain ⟨b, h1, h2, h3, h4⟩ := E.ow i r d h
    exact ⟨b, h1, h2.mono (up r), fun z => h3 (.inr z), h4⟩
theorem unhide_rh {O : Addr → Prop} : Same ((F.hide a).RH O H r) (F.RH O H r) := by
  refine cut_mono (fun b o hb nb => ⟨hb, fun z => ?_⟩) fun b xs hb _ => hb
  rcases z with z | z | z
  · exact nb (.inl (.inr z))
  · exact nb (.inr (.inl z))
  · exact nb (.inr (.inr z))
theorem Env.ownHid (E : Env F σ ρ H) (h : OwnA σ ρ a) : ¬ F.hid a := by
  obtain ⟨j, r, d, g1, g2⟩ := h
  rcases g2 with g2 | g2
  · obtain ⟨b, g3, _, g5, _⟩ := E.ow j r d g1
    rw [g2] at g3
    cases g3
    exact g5
  · exact (E.xt j r d a g1 g2).1
theorem PaAt.old (E : Env F σ ρ H) (h : PaAt F none v d) : PaAt F (some false) v d := by
  refine Rep.mono (cut_mono (fun b o hb nb => ⟨E.hc b o hb nb, fun z => ?_⟩) fun b xs hb _ => E.tc b xs hb) h
  rcases z with z | ⟨z, _⟩
  · exact nb z
  · cases z
theorem PaAt.rep (E : Env F σ ρ H) (h : PaAt F (some r) v d) : Rep F.K (F.RH (OwnA σ ρ) H false) v d := by
  refine Rep.mono (cut_mono (fun b o hb nb => ?_) fun b xs hb _ => E.tp b xs hb) h
  have n1 : F.pt ≠ some b := fun z => nb (.inl (.inl z))
  have n2 : ¬ F.px b := fun z => nb (.inl (.inr (.inl z)))
  have n3 : ¬ F.lk b := fun z => nb (.inl (.inr (.inr (.inl z))))
  refine ⟨(E.keep b o hb n1 n2).resolve_right fun z => n3 z.1, fun z => ?_⟩
  rcases z with z | ⟨i, r1, d1, z1, z2⟩ | ⟨z, _⟩
  · rcases (E.hidIn b z).2 with y | y | y
    · rw [hb] at y
      cases y
    · exact n2 y
    · exact nb (.inl (.inr (.inr (.inr y))))
  · rcases z2 with z2 | z2
    · obtain ⟨c, g1, _, _, g4⟩ := E.ow i r1 d1 z1
      rw [z2] at g1
      cases g1
      rcases g4 with y | y | y
      · rw [hb] at y
        cases y
      · exact n1 y
      · exact n2 y.1
    · rcases (E.xt i r1 d1 b z1 z2).2 with y | y | y
      · rw [hb] at y
        cases y
      · exact n2 y
      · exact n1 y
  · cases z
theorem Env.lt (E : Env F σ ρ H) {s : Option Sl} (h : ρ[i]? = some s) : i < σ.length := by
  rw [E.len]
  exact (List.getElem?_eq_some_iff.mp h).1
/-- something that a slot has to itself changes -/
theorem Env.putG {r' : Bool} {d' : D} {c : Addr} {o : HO} (E : Env F σ ρ H) (h : ρ[i]? = some (some (.ow r d))) (hs : σ[i]? = some (some (.ref a))) (hp : d.isPot = true → d'.isPot = true) (hx : d'.xtra = d.xtra) (hc : c = a ∨ c ∈ d.xtra) (ho : RepO F.K (F.RH (OwnA σ ρ) H r') (upd H c o a) d') (hxo : XtO (upd H c o) d') :
    Env F σ (ρ.set i (some (.ow r' d'))) (upd H c o) ∧ Stp (OwnA σ ρ) H (OwnA σ (ρ.set i (some (.ow r' d')))) (upd H c o) := by
  have hi : i < ρ.length := (List.getElem?_eq_some_iff.mp h).1
  have at_i : (ρ.set i (some (.ow r' d')))[i]? = some (some (.ow r' d')) := List.getElem?_set_self hi
  have at_j : ∀ j, j ≠ i → (ρ.set i (some (.ow r' d')))[j]? = ρ[j]? := fun j hj => List.getElem?_set_ne (Ne.symm hj)
  have ownI : ∀ j b, OwnAt σ (ρ.set i (some (.ow r' d'))) j b ↔ OwnAt σ ρ j b := fun j b => by
    by_cases hj : j = i
    · subst hj
      constructor
      · rintro ⟨rj, dj, h1, h2⟩
        rw [at_i] at h1
        cases h1
        exact ⟨r, d, h, by rw [← hx]; exact h2⟩
      · rintro ⟨rj, dj, h1, h2⟩
        rw [h] at h1
        cases h1
        exact ⟨r', d', at_i, by rw [hx]; exact h2⟩
    · unfold OwnAt
      rw [at_j j hj]
  have own : ∀ b, OwnA σ (ρ.set i (some (.ow r' d'))) b ↔ OwnA σ ρ b := fun b => exists_congr fun j => ownI j b
  have oai : OwnAt σ ρ i c := ⟨r, d, h, hc.imp (fun z => by rw [z]; exact hs) id⟩
  have oa : OwnA σ ρ c := ⟨i, oai⟩
  have st : Stp (OwnA σ ρ) H (OwnA σ (ρ.set i (some (.ow r' d')))) (upd H c o) := ⟨fun b u hb nb => by
    have : b ≠ c := fun z => nb (z ▸ oa)
    exact ⟨by rw [upd_ne this]; exact hb, fun z => nb ((own b).mp z)⟩, fun b hb => by
    by_cases hba : b = c
    · subst hba
      rw [upd_same] at hb
      cases hb
    · rw [upd_ne hba] at hb
      exact hb⟩
  have up : ∀ r, Same (F.RH (OwnA σ ρ) H r) (F.RH (OwnA σ (ρ.set i (some (.ow r' d')))) (upd H c o) r) := fun r => E.rh st
  obtain ⟨a', ha', h2, h3, h4⟩ := E.ow i r d h
  rw [hs] at ha'
  cases ha'
  have free : ∀ u, F.H0 c = some u → F.pt ≠ some c → ¬ F.px c → False := fun u hu np nx => by
    rcases hc with rfl | hc
    · rcases h4 with h4 | h4 | h4
      · rw [hu] at h4
        cases h4
      · exact np h4
      · exact nx h4.1
    · rcases (E.xt i r d c h hc).2 with z | z | z
      · rw [hu] at z
        cases z
      · exact nx z
      · exact np z
  have there : ∀ b, (∃ u, H b = some u) → ∃ u, upd H c o b = some u := fun b ⟨u, hu⟩ => by
    by_cases hba : b = c
    · subst hba
      exact ⟨_, upd_same⟩
    · exact ⟨u, by rw [upd_ne hba]; exact hu⟩
  refine ⟨⟨?_, fun b u hb np nx => ?_, fun j rj dj hj => ?_, fun j rj dj hj => ?_, fun j k b hj hk => ?_, fun b hb => ?_, fun b hb => ?_, fun j rj dj hj => ?_, fun j rj dj b hj hb => ?_, fun b hb => there b (E.pxIn b hb), fun b xs hb => ?_, E.hc, E.tc, E.sc, fun j v hj => ?_⟩, st⟩
  · rw [List.length_set]
    exact E.len
  · have : b ≠ c := fun z => by
      subst z
      exact free u hb np nx
    rw [upd_ne this]
    exact E.keep b u hb np nx
  · have hji : j ≠ i := fun z => by
      subst z
      rw [at_i] at hj
      cases hj
    rw [at_j j hji] at hj
    obtain ⟨v, h5, h6⟩ := E.sh j rj dj hj
    exact ⟨v, h5, h6.mono (up rj)⟩
  · by_cases hji : j = i
    · subst hji
      rw [at_i] at hj
      cases hj
      exact ⟨a, hs, ho.mono (up _), h3, h4.imp_right (Or.imp_right fun z => ⟨z.1, hp z.2⟩)⟩
    · rw [at_j j hji] at hj
      obtain ⟨b, h5, h6, h7, h8⟩ := E.ow j rj dj hj
      have : b ≠ c := fun z => by
        subst z
        exact hji (E.inj j i b ⟨_, _, hj, .inl h5⟩ oai)
      refine ⟨b, h5, ?_, h7, h8⟩
      rw [upd_ne this]
      exact h6.mono (up rj)
  · exact E.inj j k b ((ownI j b).mp hj) ((ownI k b).mp hk)
  · obtain ⟨r0, d0, h5, hd0, h6⟩ := E.pt b hb
    by_cases h0 : i = 0
    · subst h0
      rw [h] at h5
      cases h5
      exact ⟨r', d', at_i, hp hd0, h6⟩
    · exact ⟨r0, d0, by rw [at_j 0 (Ne.symm h0)]; exact h5, hd0, h6⟩
  · exact ⟨there b (E.hidIn b hb).1, (E.hidIn b hb).2⟩
  · by_cases hji : j = i
    · subst hji
      rw [at_i] at hj
      cases hj
      exact hxo
    · rw [at_j j hji] at hj
      refine (E.xo j rj dj hj).same fun b hb u hu => ?_
      have : b ≠ c := fun z => by
        subst z
        exact hji (E.inj j i b ⟨_, _, hj, .inr hb⟩ oai)
      rw [upd_ne this]
      exact hu
  · by_cases hji : j = i
    · subst hji
      rw [at_i] at hj
      cases hj
      rw [hx] at hb
      exact E.xt j r d b h hb
    · rw [at_j j hji] at hj
      exact E.xt j rj dj b hj hb
  · have h5 := E.tp b xs hb
    have : b ≠ c := fun z => by
      subst z
      obtain ⟨u, hu, nu⟩ := E.notup oa
      rw [h5] at hu
      cases hu
      exact nu xs rfl
    rw [upd_ne this]
    exact h5
  · by_cases hji : j = i
    · subst hji
      rw [at_i] at hj
      cases hj
      trivial
    · rw [at_j j hji] at hj
      exact (E.raw j v hj).mono up
/-- the content of a slot's own thing changes -/
theorem Env.put {r' : Bool} {d' : D} {o : HO} (E : Env F σ ρ H) (h : ρ[i]? = some (some (.ow r d))) (hs : σ[i]? = some (some (.ref a))) (hp : d.isPot = true → d'.isPot = true) (ho : RepO F.K (F.RH (OwnA σ ρ) H r') (some o) d') (hx : d'.xtra = d.xtra := by rfl) (hxo : ∀ H', XtO H' d' := by intro; trivial) :
    Env F σ (ρ.set i (some (.ow r' d'))) (upd H a o) ∧ Stp (OwnA σ ρ) H (OwnA σ (ρ.set i (some (.ow r' d')))) (upd H a o) :=
  E.putG h hs hp hx (.inl rfl) (by rw [upd_same]; exact ho) (hxo _)
/-- slot i is no pot -/
def noPot (ρ : DEnv) (i : Nat) : Prop := ∀ r d, i = 0 → ρ[i]? = some (some (.ow r d)) → d.isPot = false
theorem ownAt_set {s : Option Sl} {w : Option V} (hs : ∀ r d, s ≠ some (.ow r d)) {j : Nat} {b : Addr} : OwnAt (σ.set i w) (ρ.set i s) j b ↔ j ≠ i ∧ OwnAt σ ρ j b := by
  by_cases hj : j = i
  · subst hj
    constructor
    · rintro ⟨rj, dj, h1, _⟩
      by_cases hl : j < ρ.length
      · rw [List.getElem?_set_self hl] at h1
        exact absurd (Option.some.inj h1) (hs _ _)
      · rw [List.getElem?_eq_none (by simpa using hl)] at h1
        cases h1
    · exact fun z => absurd rfl z.1
  · unfold OwnAt
    rw [List.getElem?_set_ne (Ne.symm hj), List.getElem?_set_ne (Ne.symm hj)]
    exact ⟨fun z => ⟨hj, z⟩, fun z => z.2⟩
theorem own_set {s : Option Sl} {w : Option V} (hs : ∀ r d, s ≠ some (.ow r d)) {b : Addr} (h : OwnA (σ.set i w) (ρ.set i s) b) : OwnA σ ρ b := by
  obtain ⟨j, h⟩ := h
  exact ⟨j, ((ownAt_set hs).mp h).2⟩
theorem Env.setN (E : Env F σ ρ H) (hp : noPot ρ i) {w : Option V} {s : Option Sl} (hs : ∀ r d, s ≠ some (.ow r d)) (hw : ∀ r d, s = some (.sh r d) → ∃ v, w = some v ∧ Rep F.K (F.RH (OwnA σ ρ) H r) v d) (hr : ∀ u, s = some u → RawP F.K F.sc (PaAt F) (F.RH (OwnA σ ρ) H) (some w) u) :
    Env F (σ.set i w) (ρ.set i s) H ∧ Stp (OwnA σ ρ) H (OwnA (σ.set i w) (ρ.set i s)) H := by
  have st : Stp (OwnA σ ρ) H (OwnA (σ.set i w) (ρ.set i s)) H := ⟨fun b o hb nb => ⟨hb, fun z => nb (own_set hs z)⟩, fun _ h => h⟩
  have up : ∀ r, Same (F.RH (OwnA σ ρ) H r) (F.RH (OwnA (σ.set i w) (ρ.set i s)) H r) := fun r => E.rh st
  have at_j : ∀ j, j ≠ i → (ρ.set i s)[j]? = ρ[j]? := fun j hj => List.getElem?_set_ne (Ne.symm hj)
  have as_j : ∀ j, j ≠ i → (σ.set i w)[j]? = σ[j]? := fun j hj => List.getElem?_set_ne (Ne.symm hj)
  have no_i : ∀ {r d}, (ρ.set i s)[i]? ≠ some (some (.ow r d)) := fun {r d} h1 => by
    by_cases hl : i < ρ.length
    · rw [List.getElem?_set_self hl] at h1
      exact hs _ _ (Option.some.inj h1)
    · rw [List.getElem?_eq_none (by simpa using hl)] at h1
      cases h1
  have of_i : ∀ {j : Nat} {r : Bool} {d : D}, (ρ.set i s)[j]? = some (some (.ow r d)) → ρ[j]? = some (some (.ow r d)) := fun {j r d} hj => by
    have hji : j ≠ i := fun z => by
      subst z
      exact no_i hj
    rw [at_j j hji] at hj
    exact hj
  refine ⟨⟨?_, E.keep, fun j rj dj hj => ?_, fun j rj dj hj => ?_, fun j k b hj hk => E.inj j k b ((ownAt_set hs).mp hj).2 ((ownAt_set hs).mp hk).2, fun b hb => ?_, E.hidIn, fun j rj dj hj => E.xo j rj dj (of_i hj), fun j rj dj b hj hb => E.xt j rj dj b (of_i hj) hb, E.pxIn, E.tp, E.hc, E.tc, E.sc, fun j v hj => ?_⟩, st⟩
  · rw [List.length_set, List.length_set]
    exact E.len
  · by_cases hji : j = i
    · subst hji
      by_cases hl : j < ρ.length
      · rw [List.getElem?_set_self hl] at hj
        obtain ⟨v, rfl, h2⟩ := hw rj dj (Option.some.inj hj)
        refine ⟨v, ?_, h2.mono (up rj)⟩
        rw [List.getElem?_set_self (by rw [E.len]; exact hl)]
      · rw [List.getElem?_eq_none (by simpa using hl)] at hj
        cases hj
    · rw [at_j j hji] at hj
      obtain ⟨v, h5, h6⟩ := E.sh j rj dj hj
      exact ⟨v, by rw [as_j j hji]; exact h5, h6.mono (up rj)⟩
  · have hji : j ≠ i := fun z => by
      subst z
      exact no_i hj
    rw [at_j j hji] at hj
    obtain ⟨b, h5, h6, h7, h8⟩ := E.ow j rj dj hj
    exact ⟨b, by rw [as_j j hji]; exact h5, h6.mono (up rj), h7, h8⟩
  · obtain ⟨r0, d0, h5, hd0, h6⟩ := E.pt b hb
    have : (0 : Nat) ≠ i := fun z => by
      subst z
      rw [hp _ _ rfl h5] at hd0
      cases hd0
    exact ⟨r0, d0, by rw [at_j 0 this]; exact h5, hd0, by rw [as_j 0 this]; exact h6⟩
  · by_cases hji : j = i
    · subst hji
      by_cases hl : j < ρ.length
      · rw [List.getElem?_set_self hl] at hj
        rw [List.getElem?_set_self (by rw [E.len]; exact hl)]
        exact (hr v (Option.some.inj hj)).mono up
      · rw [List.getElem?_eq_none (by simpa using hl)] at hj
        cases hj
    · rw [at_j j hji] at hj
      rw [as_j j hji]
      exact (E.raw j v hj).mono up
theorem Env.setSh (E : Env F σ ρ H) (hp : noPot ρ i) (h : Rep F.K (F.RH (OwnA σ ρ) H r) v d) :
    Env F (σ.set i (some v)) (ρ.set i (some (.sh r d))) H ∧ Stp (OwnA σ ρ) H (OwnA (σ.set i (some v)) (ρ.set i (some (.sh r d)))) H :=
  E.setN hp (fun _ _ z => by cases z) (fun r' d' z => by
    cases z
    exact ⟨v, rfl, h⟩) fun v z => by cases z; trivial
theorem Env.setNo (E : Env F σ ρ H) (hp : noPot ρ i) : Env F (σ.set i none) (ρ.set i none) H ∧ Stp (OwnA σ ρ) H (OwnA (σ.set i none) (ρ.set i none)) H :=
  E.setN hp (fun _ _ z => by cases z) (fun r' d' z => by cases z) fun v z => by cases z
/-- new things become a slot's own -/
theorem Env.setOwG {B : Addr → Prop} (E : Env (F.hideS B) σ ρ H) (hB : ∀ b, B b ↔ b = a ∨ b ∈ d.xtra) (hp : noPot ρ i) (hi : i < ρ.length) (h0 : ∀ b, B b → F.H0 b = none) (nh : ∀ b, B b → ¬ F.hid b) (ho : RepO F.K ((F.hideS B).RH (OwnA σ ρ) H r) (H a) d) (hxo : XtO H d) :
    Env F (σ.set i (some (.ref a))) (ρ.set i (some (.ow r d))) H ∧ ∀ O Hs, (∀ b, B b → Hs b = none) → Stp O Hs (OwnA σ ρ) H → Stp O Hs (OwnA (σ.set i (some (.ref a))) (ρ.set i (some (.ow r d)))) H := by
  have at_i : (ρ.set i (some (.ow r d)))[i]? = some (some (.ow r d)) := List.getElem?_set_self hi
  have as_i : (σ.set i (some (.ref a)))[i]? = some (some (.ref a)) := List.getElem?_set_self (by rw [E.len]; exact hi)
  have at_j : ∀ j, j ≠ i → (ρ.set i (some (.ow r d)))[j]? = ρ[j]? := fun j hj => List.getElem?_set_ne (Ne.symm hj)
  have as_j : ∀ j, j ≠ i → (σ.set i (some (.ref a)))[j]? = σ[j]? := fun j hj => List.getElem?_set_ne (Ne.symm hj)
  have Ba : B a := (hB a).mpr (.inl rfl)
  have ownI : ∀ j b, OwnAt (σ.set i (some (.ref a))) (ρ.set i (some (.ow r d))) j b → (j = i ∧ B b) ∨ (j ≠ i ∧ OwnAt σ ρ j b) := fun j b => by
    rintro ⟨rj, dj, h1, h2⟩
    by_cases hj : j = i
    · subst hj
      rw [at_i] at h1
      cases h1
      refine .inl ⟨rfl, (hB b).mpr (h2.imp_left fun z => ?_)⟩
      rw [as_i] at z
      cases z
      rfl
    · rw [at_j j hj] at h1
      rw [as_j j hj] at h2
      exact .inr ⟨hj, rj, dj, h1, h2⟩
  have own : ∀ b, OwnA (σ.set i (some (.ref a))) (ρ.set i (some (.ow r d))) b → B b ∨ OwnA σ ρ b := fun b ⟨j, h⟩ => by
    rcases ownI j b h with ⟨_, h⟩ | ⟨_, h⟩
    · exact .inl h
    · exact .inr ⟨j, h⟩
  have notB : ∀ j b, OwnAt σ ρ j b → ¬ B b := fun j b ⟨rj, dj, h1, h2⟩ hb => by
    rcases h2 with h2 | h2
    · obtain ⟨c, h5, _, h7, _⟩ := E.ow j rj dj h1
      rw [h2] at h5
      cases h5
      exact h7 (.inl hb)
    · exact (E.xt j rj dj b h1 h2).1 (.inl hb)
  have up : ∀ r', Same ((F.hideS B).RH (OwnA σ ρ) H r') (F.RH (OwnA (σ.set i (some (.ref a))) (ρ.set i (some (.ow r d)))) H r') := fun r' => by
    refine cut_mono (fun b o hb nb => ⟨hb, fun z => ?_⟩) fun b xs hb _ => hb
    rcases z with z | z | z
    · exact nb (.inl (.inr z))
    · rcases own b z with z | z
      · exact nb (.inl (.inl z))
      · exact nb (.inr (.inl z))
    · exact nb (.inr (.inr z))
  refine ⟨⟨?_, E.keep, fun j rj dj hj => ?_, fun j rj dj hj => ?_, fun j k b hj hk => ?_, fun b hb => ?_, fun b hb => E.hidIn b (.inr hb), fun j rj dj hj => ?_, fun j rj dj b hj hb => ?_, E.pxIn, E.tp, E.hc, E.tc, E.sc, fun j v hj => ?_⟩, fun O Hs hs st => ⟨fun b o hb nb => ?_, st.dom⟩⟩
  · rw [List.length_set, List.length_set]
    exact E.len
  · have hji : j ≠ i := fun z => by
      subst z
      rw [at_i] at hj
      cases hj
    rw [at_j j hji] at hj
    obtain ⟨v, h5, h6⟩ := E.sh j rj dj hj
    exact ⟨v, by rw [as_j j hji]; exact h5, h6.mono (up rj)⟩
  · by_cases hji : j = i
    · subst hji
      rw [at_i] at hj
      cases hj
      exact ⟨a, as_i, ho.mono (up _), nh a Ba, .inl (h0 a Ba)⟩
    · rw [at_j j hji] at hj
      obtain ⟨b, h5, h6, h7, h8⟩ := E.ow j rj dj hj
      exact ⟨b, by rw [as_j j hji]; exact h5, h6.mono (up rj), fun z => h7 (.inr z), h8⟩
  · rcases ownI j b hj with ⟨h1, h2⟩ | ⟨h1, h2⟩
    · rcases ownI k b hk with ⟨h3, h4⟩ | ⟨h3, h4⟩
      · rw [h1, h3]
      · exact absurd h2 (notB k b h4)
    · rcases ownI k b hk with ⟨h3, h4⟩ | ⟨h3, h4⟩
      · exact absurd h4 (notB j b h2)
      · exact E.inj j k b h2 h4
  · obtain ⟨r0, d0, h5, hd0, h6⟩ := E.pt b hb
    have : (0 : Nat) ≠ i := fun z => by
      subst z
      rw [hp _ _ rfl h5] at hd0
      cases hd0
    exact ⟨r0, d0, by rw [at_j 0 this]; exact h5, hd0, by rw [as_j 0 this]; exact h6⟩
  · by_cases hji : j = i
    · subst hji
      rw [at_i] at hj
      cases hj
      exact hxo
    · rw [at_j j hji] at hj
      exact E.xo j rj dj hj
  · by_cases hji : j = i
    · subst hji
      rw [at_i] at hj
      cases hj
      have Bb := (hB b).mpr (.inr hb)
      exact ⟨nh b Bb, .inl (h0 b Bb)⟩
    · rw [at_j j hji] at hj
      exact ⟨fun z => (E.xt j rj dj b hj hb).1 (.inr z), (E.xt j rj dj b hj hb).2⟩
  · by_cases hji : j = i
    · subst hji
      rw [at_i] at hj
      cases hj
      trivial
    · rw [at_j j hji] at hj
      rw [as_j j hji]
      exact (E.raw j v hj).mono up
  · obtain ⟨h1, h2⟩ := st.kp b o hb nb
    refine ⟨h1, fun z => ?_⟩
    rcases own b z with z | z
    · rw [hs b z] at hb
      cases hb
    · exact h2 z
theorem Env.setOw (E : Env (F.hide a) σ ρ H) (hp : noPot ρ i) (hi : i < ρ.length) (h0 : F.H0 a = none) (nh : ¬ F.hid a) (hd : d.isWlk = false) (ho : RepO F.K ((F.hide a).RH (OwnA σ ρ) H r) (H a) d) :
    Env F (σ.set i (some (.ref a))) (ρ.set i (some (.ow r d))) H ∧ ∀ O Hs, Hs a = none → Stp O Hs (OwnA σ ρ) H → Stp O Hs (OwnA (σ.set i (some (.ref a))) (ρ.set i (some (.ow r d)))) H := by
  obtain ⟨h1, h2⟩ := Env.setOwG (F := F) (B := (· = a)) E (fun b => by
    cases d with
    | wlk => cases hd
    | _ => exact ⟨.inl, fun z => z.resolve_right (by intro q; cases q)⟩) hp hi (fun b hb => by rw [hb]; exact h0) (fun b hb => by rw [hb]; exact nh) ho (by
    cases d with
    | wlk => cases hd
    | _ => trivial)
  exact ⟨h1, fun O Hs hs st => h2 O Hs (fun b hb => by rw [hb]; exact hs) st⟩
theorem RepO.rep {K : PySem.W.Frag} {Hr Hr' : Hp} (h : RepO K Hr (H a) d) (hd : d.isPot = false) (e : Same Hr Hr') (ha : ∀ o, H a = some o → Hr' a = some o) : Rep K Hr' (.ref a) d := by
  cases d with
  | lst ds =>
    obtain ⟨vs, h1, h2⟩ := h
    exact .lst (ha _ h1) (h2.mono e)
  | dK es =>
    obtain ⟨kvs, h1, h2, h3⟩ := h
    exact .dK (.inl (ha _ h1)) h2 (h3.mono e)
  | dT es =>
    obtain ⟨kvs, h1, h2, h3⟩ := h
    exact .dT (.inl (ha _ h1)) h2 (h3.mono e)
  | ins c es => cases hd
  | pot => cases hd
  | wlk => cases hd
  | _ => exact h.elim
/-- a slot's own thing is handed on: from now on it is only read -/
theorem Env.freeze (E : Env F σ ρ H) (h : ρ[i]? = some (some (.ow r d))) (hd : d.isPot = false) (hs : σ[i]? = some (some v)) :
    Env F σ (ρ.set i (some (.sh r d))) H ∧ Stp (OwnA σ ρ) H (OwnA σ (ρ.set i (some (.sh r d)))) H ∧ Rep F.K (F.RH (OwnA σ (ρ.set i (some (.sh r d)))) H r) v d := by
  obtain ⟨a, ha, h2, h3, h4⟩ := E.ow i r d h
  rw [hs] at ha
  cases ha
  have hi : i < ρ.length := (List.getElem?_eq_some_iff.mp h).1
  have np : F.pt ≠ some a := fun z => by
    obtain ⟨r0, d0, h5, hd0, h6⟩ := E.pt a z
    have := E.inj 0 i a ⟨_, _, h5, .inl h6⟩ ⟨_, _, h, .inl hs⟩
    subst this
    rw [h] at h5
    cases h5
    rw [hd] at hd0
    cases hd0
  have h0 : F.H0 a = none := by
    rcases h4 with h4 | h4 | h4
    · exact h4
    · exact absurd h4 np
    · rw [hd] at h4
      exact absurd h4.2 Bool.false_ne_true
  have at_i : (ρ.set i (some (.sh r d)))[i]? = some (some (.sh r d)) := List.getElem?_set_self hi
  have at_j : ∀ j, j ≠ i → (ρ.set i (some (.sh r d)))[j]? = ρ[j]? := fun j hj => List.getElem?_set_ne (Ne.symm hj)
  have ownI : ∀ j b, OwnAt σ (ρ.set i (some (.sh r d))) j b → j ≠ i ∧ OwnAt σ ρ j b := fun j b => by
    rintro ⟨rj, dj, h5, h6⟩
    have hj : j ≠ i := fun z => by
      subst z
      rw [at_i] at h5
      cases h5
    rw [at_j j hj] at h5
    exact ⟨hj, rj, dj, h5, h6⟩
  have own : ∀ b, OwnA σ (ρ.set i (some (.sh r d))) b → OwnA σ ρ b ∧ b ≠ a := fun b ⟨j, h5⟩ => by
    obtain ⟨hj, h5⟩ := ownI j b h5
    refine ⟨⟨j, h5⟩, fun z => ?_⟩
    subst z
    exact hj (E.inj j i b h5 ⟨_, _, h, .inl hs⟩)
  have st : Stp (OwnA σ ρ) H (OwnA σ (ρ.set i (some (.sh r d)))) H := ⟨fun b o hb nb => ⟨hb, fun z => nb (own b z).1⟩, fun _ h => h⟩
  have up : ∀ r', Same (F.RH (OwnA σ ρ) H r') (F.RH (OwnA σ (ρ.set i (some (.sh r d)))) H r') := fun r' => E.rh st
  have rep : Rep F.K (F.RH (OwnA σ (ρ.set i (some (.sh r d)))) H r) (.ref a) d := by
    refine h2.rep hd (up r) fun o ho => cut_of ho fun z => ?_
    rcases z with z | z | ⟨_, z⟩
    · exact h3 z
    · exact (own a z).2 rfl
    · exact z h0
  have of_i : ∀ {j : Nat} {r1 : Bool} {d1 : D}, (ρ.set i (some (.sh r d)))[j]? = some (some (.ow r1 d1)) → ρ[j]? = some (some (.ow r1 d1)) := fun {j r1 d1} hj => by
    have hji : j ≠ i := fun z => by
      subst z
      rw [at_i] at hj
      cases hj
    rw [at_j j hji] at hj
    exact hj
  refine ⟨⟨?_, E.keep, fun j rj dj hj => ?_, fun j rj dj hj => ?_, fun j k b hj hk => E.inj j k b (ownI j b hj).2 (ownI k b hk).2, fun b hb => ?_, E.hidIn, fun j rj dj hj => E.xo j rj dj (of_i hj), fun j rj dj b hj hb => E.xt j rj dj b (of_i hj) hb, E.pxIn, E.tp, E.hc, E.tc, E.sc, fun j v hj => ?_⟩, st, rep⟩
  · rw [List.length_set]
    exact E.len
  · by_cases hji : j = i
    · subst hji
      rw [at_i] at hj
      cases hj
      exact ⟨_, hs, rep⟩
    · rw [at_j j hji] at hj
      obtain ⟨v, h5, h6⟩ := E.sh j rj dj hj
      exact ⟨v, h5, h6.mono (up rj)⟩
  · have hji : j ≠ i := fun z => by
      subst z
      rw [at_i] at hj
      cases hj
    rw [at_j j hji] at hj
    obtain ⟨b, h5, h6, h7, h8⟩ := E.ow j rj dj hj
    exact ⟨b, h5, h6.mono (up rj), h7, h8⟩
  · obtain ⟨r0, d0, h5, hd0, h6⟩ := E.pt b hb
    have : (0 : Nat) ≠ i := fun z => by
      subst z
      rw [h] at h5
      cases h5
      rw [hd] at hd0
      cases hd0
    exact ⟨r0, d0, by rw [at_j 0 this]; exact h5, hd0, h6⟩
  · by_cases hji : j = i
    · subst hji
      rw [at_i] at hj
      cases hj
      trivial
    · rw [at_j j hji] at hj
      exact (E.raw j v hj).mono up
end
/-! ### values -/
inductive DV where
  | v (r : Bool) (d : D) | al (i : Nat) | fr (r : Bool) (d : D)
def RepV (F : Fr) (Hs : Hp) (σ : L2.St) (ρ : DEnv) (H : Hp) (v : V) : DV → Prop
  | .v r d => Rep F.K (F.RH (OwnA σ ρ) H r) v d
  | .al i => σ[i]? = some (some v)
  | .fr r d => ∃ a, v = .ref a ∧ Hs a = none ∧ ¬ F.hid a ∧ F.H0 a = none ∧ d.isPot = false ∧ Env (F.hide a) σ ρ H ∧ RepO F.K ((F.hide a).RH (OwnA σ ρ) H r) (H a) d
def DV.tmp : DV → DV
  | .fr r d => .v r d
  | x => x
def owRd (r : Bool) (d : D) : Option (Bool × D) := match d.isWlk with
  | true => none
  | false => some (r, d)
theorem owRd_of {r r' : Bool} {d d' : D} (h : owRd r d = some (r', d')) : r = r' ∧ d = d' ∧ d.isWlk = false := by
  unfold owRd at h
  split at h
  · cases h
  · rename_i z
    cases h
    exact ⟨rfl, rfl, z⟩
def rd (ρ : DEnv) : DV → Option (Bool × D)
  | .v r d => some (r, d)
  | .fr r d => some (r, d)
  | .al i => match ρ[i]? with
    | some (some (.sh r d)) => some (r, d)
    | some (some (.ow r d)) => owRd r d
    | _ => none
def st (ρ : DEnv) : DV → Option (Bool × D × DEnv)
  | .v r d => some (r || d.imm, d, ρ)
  | .fr r d => some (r, d, ρ)
  | .al i => match ρ[i]? with
    | some (some (.sh r d)) => some (r || d.imm, d, ρ)
    | some (some (.ow r d)) => if d.isPot = true then none else some (r, d, ρ.set i (some (.sh r d)))
    | _ => none
/-- the thing itself by the heap, its parts by Hr -/
def TopD (K : PySem.W.Frag) (H Hr : Hp) (v : V) : D → Prop
  | .lst ds => ∃ a vs, v = .ref a ∧ H a = some (.lst vs) ∧ RepL K Hr vs ds
  | .tup ds => ∃ a vs, v = .ref a ∧ H a = some (.tup vs) ∧ RepL K Hr vs ds
  | .dK es => ∃ a kvs, v = .ref a ∧ Rd H a (.dK kvs) ∧ kvs.map (·.1) = es.map (·.1) ∧ RepL K Hr (kvs.map (·.2)) (es.map (·.2))
  | .dT es => ∃ a kvs, v = .ref a ∧ Rd H a (.dT kvs) ∧ kvs.map (·.1) = es.map (·.1) ∧ RepL K Hr (kvs.map (·.2)) (es.map (·.2))
  | .ins c es => ∃ a dx fs, v = .ref a ∧ H a = some (.ins (He.ga K c) dx fs) ∧ fs.map (·.1) = es.map (·.1) ∧ RepL K Hr (fs.map (·.2)) (es.map (·.2))
  | .exn c es => ∃ a oe fvs, v = .ref a ∧ H a = some (exH a oe) ∧ oe.cls = .ref (He.ga K c) ∧ (∃ fv, oe.data = .fields fv) ∧ ExF H oe.dict fvs ∧ fvs.map (·.1) = es.map (·.1) ∧ RepL K Hr (fvs.map (·.2)) (es.map (·.2))
  | .pot => ∃ p, v = .ref p ∧ Pot H p
  | .wlk _ _ _ _ => False
  | .non => v = .non
  | .bl b => v = .bl b
  | .int i => v = .int i
  | .str s => v = .str s
  | .ty n => v = .ty n
theorem Rep.top {K : PySem.W.Frag} {H Hr : Hp} {v : V} {d : D} (h : Rep K Hr v d) (e : Same Hr H) : TopD K H Hr v d := by
  cases h with
  | non => rfl
  | bl b => rfl
  | int i => rfl
  | str s => rfl
  | ty n => rfl
  | lst h g => exact ⟨_, _, rfl, e _ _ h, g⟩
  | tup h g => exact ⟨_, _, rfl, e _ _ h, g⟩
  | dK h k g => exact ⟨_, _, rfl, Rd.same e h, k, g⟩
  | dT h k g => exact ⟨_, _, rfl, Rd.same e h, k, g⟩
  | ins h k g => exact ⟨_, _, _, rfl, e _ _ h, k, g⟩
  | exn h c f x k g => exact ⟨_, _, _, rfl, e _ _ h, c, f, x.mono e, k, g⟩
theorem TopD.rep {K : PySem.W.Frag} {H Hr : Hp} {v : V} {d : D} (h : TopD K H Hr v d) (e : Same Hr H) (hd : d ≠ .pot) : Rep K H v d := by
  cases d with
  | non => cases h; exact .non
  | bl b => cases h; exact .bl b
  | int i => cases h; exact .int i
  | str s => cases h; exact .str s
  | ty n => cases h; exact .ty n
  | lst ds => obtain ⟨a, vs, rfl, h, g⟩ := h; exact .lst h (g.mono e)
  | tup ds => obtain ⟨a, vs, rfl, h, g⟩ := h; exact .tup h (g.mono e)
  | dK es => obtain ⟨a, vs, rfl, h, k, g⟩ := h; exact .dK h k (g.mono e)
  | dT es => obtain ⟨a, vs, rfl, h, k, g⟩ := h; exact .dT h k (g.mono e)
  | ins c es => obtain ⟨a, dx, vs, rfl, h, k, g⟩ := h; exact .ins h k (g.mono e)
  | exn c es => obtain ⟨a, oe, vs, rfl, h, c, f, x, k, g⟩ := h; exact .exn h c f x k (g.mono e)
  | wlk => exact h.elim
  | pot => exact absurd rfl hd
theorem RepO.top {K : PySem.W.Frag} {H Hr : Hp} {a : Addr} {d : D} (h : RepO K Hr (H a) d) (hw : d.isWlk = false) : TopD K H Hr (.ref a) d := by
  cases d with
  | lst ds => obtain ⟨vs, h1, h2⟩ := h; exact ⟨a, vs, rfl, h1, h2⟩
  | dK es => obtain ⟨kvs, h1, h2, h3⟩ := h; exact ⟨a, kvs, rfl, .inl h1, h2, h3⟩
  | dT es => obtain ⟨kvs, h1, h2, h3⟩ := h; exact ⟨a, kvs, rfl, .inl h1, h2, h3⟩
  | ins c es => obtain ⟨dx, kvs, h1, h2, h3⟩ := h; exact ⟨a, dx, kvs, rfl, h1, h2, h3⟩
  | pot => obtain ⟨x, y, h1, h2, h3⟩ := h; exact ⟨a, rfl, x, y, h1, h2, h3⟩
  | wlk => cases hw
  | _ => exact h.elim
theorem TopD.mono {K : PySem.W.Frag} {H Hr Hr' : Hp} {v : V} {d : D} (h : TopD K H Hr v d) (e : Same Hr Hr') : TopD K H Hr' v d := by
  cases d with
  | lst ds => obtain ⟨a, vs, h0, h, g⟩ := h; exact ⟨a, vs, h0, h, g.mono e⟩
  | tup ds => obtain ⟨a, vs, h0, h, g⟩ := h; exact ⟨a, vs, h0, h, g.mono e⟩
  | dK es => obtain ⟨a, vs, h0, h, k, g⟩ := h; exact ⟨a, vs, h0, h, k, g.mono e⟩
  | dT es => obtain ⟨a, vs, h0, h, k, g⟩ := h; exact ⟨a, vs, h0, h, k, g.mono e⟩
  | ins c es => obtain ⟨a, dx, vs, h0, h, k, g⟩ := h; exact ⟨a, dx, vs, h0, h, k, g.mono e⟩
  | exn c es => obtain ⟨a, oe, vs, h0, h, c, f, x, k, g⟩ := h; exact ⟨a, oe, vs, h0, h, c, f, x, k, g.mono e⟩
  | _ => exact h
section
variable {F : Fr} {Hs : Hp} {σ : L2.St} {ρ ρ' : DEnv} {H H' : Hp} {i : Nat} {r : Bool} {d : D} {v : V} {dv : DV}
theorem RepV.fr_rep (h : RepV F Hs σ ρ H v (.fr r d)) : Rep F.K (F.RH (OwnA σ ρ) H r) v d := by
  obtain ⟨a, rfl, h1, h2, h3, h4, h5, h6⟩ := h
  refine h6.rep h4 unhide_rh fun o ho => cut_of ho fun z => ?_
  rcases z with z | z | ⟨_, z⟩
  · exact h2 z
  · obtain ⟨j, r, d, g1, g2⟩ := z
    rcases g2 with g2 | g2
    · obtain ⟨b, g3, _, g5, _⟩ := h5.ow j r d g1
      rw [g2] at g3
      cases g3
      exact g5 (.inl rfl)
    · exact (h5.xt j r d a g1 g2).1 (.inl rfl)
  · exact z h3
theorem RepV.stp (E : Env F σ ρ H) (h : RepV F Hs σ ρ H v dv) (s : Stp (OwnA σ ρ) H (OwnA σ ρ') H') {Hs' : Hp} : RepV F Hs' σ ρ' H' v dv.tmp := by
  cases dv with
  | v r d => exact Rep.mono (E.rh s) h
  | al i => exact h
  | fr r d => exact Rep.mono (E.rh s) h.fr_rep
theorem rh_le {O : Addr → Prop} : Same (F.RH O H r) H := cut_le
theorem RepV.top (E : Env F σ ρ H) (h : RepV F Hs σ ρ H v dv) (e : rd ρ dv = some (r, d)) : TopD F.K H (F.RH (OwnA σ ρ) H r) v d := by
  cases dv with
  | v r d =>
    cases e
    exact Rep.top h rh_le
  | fr r d =>
    cases e
    exact Rep.top h.fr_rep rh_le
  | al i =>
    simp only [rd] at e
    split at e
    · rename_i r' d' hi
      cases e
      obtain ⟨w, h1, h2⟩ := E.sh i _ _ hi
      rw [show σ[i]? = some (some v) from h] at h1
      cases h1
      exact h2.top rh_le
    · rename_i r' d' hi
      obtain ⟨rfl, rfl, hw⟩ := owRd_of e
      obtain ⟨a, h1, h2, _⟩ := E.ow i _ _ hi
      rw [show σ[i]? = some (some v) from h] at h1
      cases h1
      exact h2.top hw
    · cases e
theorem Rep.up (h : Rep F.K (F.RH (OwnA σ ρ) H r) v d) : Rep F.K (F.RH (OwnA σ ρ) H (r || d.imm)) v d := by
  by_cases e : d.imm = true
  · exact (h.mono rh_le).imm e
  · rw [Bool.eq_false_iff.mpr e, Bool.or_false]
    exact h
theorem RepV.st (E : Env F σ ρ H) (h : RepV F Hs σ ρ H v dv) (e : st ρ dv = some (r, d, ρ')) : Env F σ ρ' H ∧ Stp (OwnA σ ρ) H (OwnA σ ρ') H ∧ Rep F.K (F.RH (OwnA σ ρ') H r) v d := by
  cases dv with
  | v r d =>
    cases e
    exact ⟨E, .refl _ _, Rep.up h⟩
  | fr r d =>
    cases e
    exact ⟨E, .refl _ _, h.fr_rep⟩
  | al i =>
    simp only [PW.st] at e
    split at e
    · rename_i r' d' hi
      cases e
      obtain ⟨w, h1, h2⟩ := E.sh i _ _ hi
      rw [show σ[i]? = some (some v) from h] at h1
      cases h1
      exact ⟨E, .refl _ _, h2.up⟩
    · rename_i r' d' hi
      split at e
      · cases e
      · rename_i np
        cases e
        exact E.freeze hi (Bool.eq_false_iff.mpr np) h
    · cases e
end
end PW

namespace PW
open PySem PySem.Spec PyProof.Rows L2
/-! ## readings by data -/
abbrev XC := Exn → DEnv → Prop
abbrev DW := XC → DEnv → (DV → DEnv → Prop) → Prop
abbrev DTW := XC → DEnv → (Bool → DEnv → Prop) → Prop
abbrev DAW := XC → DEnv → (List DV → DEnv → Prop) → Prop
abbrev DR2W := Bool × D → Bool × D → (DV → Prop) → Prop
abbrev DR1W := List (Bool × D) → (DV → Prop) → Prop
structure DEnds where
  nx : DEnv → Prop
  rt : D → DEnv → Prop
  bk : DEnv → Prop
  ct : DEnv → Prop
abbrev DSW := XC → DEnds → DEnv → Prop
abbrev Items := List (Bool × D)
abbrev DIW := XC → DEnv → (Items → DEnv → Prop) → Prop
abbrev DGW := Bool × D → DEnv → (DEnv → Prop) → Prop
abbrev WXT := Value → Option Addr → L2.St → Hp → Prop
def XLink (F : Fr) (W : WXT) (X : XC) (σ : L2.St) (ρ : DEnv) (H : Hp) : Prop :=
  ∀ x ρ' σ' dd H', X x ρ' → Env F σ' ρ' H' → Stp (OwnA σ ρ) H (OwnA σ' ρ') H' → XRep F.K (F.RH (OwnA σ' ρ') H' true) dd x → W (.ref (He.ga F.K x.c)) dd σ' H'
theorem XLink.stp {F : Fr} {W : WXT} {X : XC} {σ σ' : L2.St} {ρ ρ' : DEnv} {H H' : Hp} (h : XLink F W X σ ρ H) (s : Stp (OwnA σ ρ) H (OwnA σ' ρ') H') : XLink F W X σ' ρ' H' :=
  fun x ρ'' σ'' dd H'' a b c => h x ρ'' σ'' dd H'' a b (s.trans c)
def noX : XC := fun _ _ => False
theorem XLink.no {F : Fr} {W : WXT} {σ : L2.St} {ρ : DEnv} {H : Hp} : XLink F W noX σ ρ H := fun _ _ _ _ _ a => a.elim
class DE (K : PySem.W.Frag) (W : WXT) (t : TE) (w : outParam DW) : Prop where
  ok : ∀ {F : Fr} {σ : L2.St} {H : Hp} {ρ : DEnv} {X : XC} {R : DV → DEnv → Prop} {Q : VK}, F.K = K → Env F σ ρ H → XLink F W X σ ρ H → w X ρ R →
    (∀ dv ρ' v H', R dv ρ' → Env F σ ρ' H' → Stp (OwnA σ ρ) H (OwnA σ ρ') H' → RepV F H σ ρ' H' v dv → Q v H') → t σ H Q
class DT (K : PySem.W.Frag) (W : WXT) (t : TT) (w : outParam DTW) : Prop where
  ok : ∀ {F : Fr} {σ : L2.St} {H : Hp} {ρ : DEnv} {X : XC} {R : Bool → DEnv → Prop} {Q : Bool → Hp → Prop}, F.K = K → Env F σ ρ H → XLink F W X σ ρ H → w X ρ R →
    (∀ b ρ' H', R b ρ' → Env F σ ρ' H' → Stp (OwnA σ ρ) H (OwnA σ ρ') H' → Q b H') → t σ H Q
class DA (K : PySem.W.Frag) (W : WXT) (t : TA) (w : outParam DAW) : Prop where
  ok : ∀ {F : Fr} {σ : L2.St} {H : Hp} {ρ : DEnv} {X : XC} {R : List DV → DEnv → Prop} {Q : List V → Hp → Prop}, F.K = K → Env F σ ρ H → XLink F W X σ ρ H → w X ρ R →
    (∀ dvs ρ' vs H', R dvs ρ' → Env F σ ρ' H' → Stp (OwnA σ ρ) H (OwnA σ ρ') H' → Paired (fun v dv => RepV F H σ ρ' H' v dv) vs dvs → Q vs H') → t σ H Q
class DR2 (K : PySem.W.Frag) (r : R2) (w : outParam DR2W) : Prop where
  ok : ∀ {F : Fr} {σ : L2.St} {H : Hp} {ρ : DEnv} {p q : Bool × D} {x y : V} {R : DV → Prop} {Q : VK}, F.K = K → Env F σ ρ H → TopD K H (F.RH (OwnA σ ρ) H p.1) x p.2 → TopD K H (F.RH (OwnA σ ρ) H q.1) y q.2 → w p q R →
    (∀ dv v H', R dv → Same H H' → RepV F H σ ρ H' v dv → Q v H') → r x y H Q
/-- things as they are read -/
def Tops (K : PySem.W.Frag) (F : Fr) (O : Addr → Prop) (H : Hp) : List V → List (Bool × D) → Prop := Paired fun v p => TopD K H (F.RH O H p.1) v p.2
class DR1 (K : PySem.W.Frag) (r : List V → Hp → VK → Prop) (w : outParam DR1W) : Prop where
  ok : ∀ {F : Fr} {σ : L2.St} {H : Hp} {ρ : DEnv} {ps : List (Bool × D)} {xs : List V} {R : DV → Prop} {Q : VK}, F.K = K → Env F σ ρ H → Tops K F (OwnA σ ρ) H xs ps → w ps R →
    (∀ dv v H', R dv → Same H H' → RepV F H σ ρ H' v dv → Q v H') → r xs H Q
class DS (K : PySem.W.Frag) (W : WXT) (t : TS) (w : outParam DSW) : Prop where
  ok : ∀ {F : Fr} {σ : L2.St} {H : Hp} {ρ : DEnv} {X : XC} {E : DEnds} {Dn : Ends}, F.K = K → Env F σ ρ H → XLink F W X σ ρ H → w X E ρ →
    (∀ ρ' σ' H', E.nx ρ' → Env F σ' ρ' H' → Stp (OwnA σ ρ) H (OwnA σ' ρ') H' → Dn.nx σ' H') →
    (∀ ρ' σ' H', E.bk ρ' → Env F σ' ρ' H' → Stp (OwnA σ ρ) H (OwnA σ' ρ') H' → Dn.bk σ' H') →
    (∀ ρ' σ' H', E.ct ρ' → Env F σ' ρ' H' → Stp (OwnA σ ρ) H (OwnA σ' ρ') H' → Dn.ct σ' H') →
    (∀ d ρ' σ' v H', E.rt d ρ' → Env F σ' ρ' H' → Stp (OwnA σ ρ) H (OwnA σ' ρ') H' → Rep F.K (F.RH (OwnA σ' ρ') H' true) v d → Dn.rt v H') → t Dn σ H
/-! ### where a reading waits -/
@[irreducible] def ifC (b : Bool) (p q : Prop) : Prop := if b = true then p else q
theorem ifC_t (p q : Prop) : ifC true p q = p := by
  unfold ifC
  exact if_pos rfl
theorem ifC_f (p q : Prop) : ifC false p q = q := by
  unfold ifC
  exact if_neg Bool.false_ne_true
theorem ifC.t {p q : Prop} (h : ifC true p q) : p := (ifC_t p q).mp h
theorem ifC.f {p q : Prop} (h : ifC false p q) : q := (ifC_f p q).mp h
theorem ifC_of {b : Bool} {p q : Prop} (h1 : b = true → p) (h2 : b = false → q) : ifC b p q := by
  cases b with
  | true => exact (ifC_t p q).mpr (h1 rfl)
  | false => exact (ifC_f p q).mpr (h2 rfl)
theorem ifC_then {b : Bool} {p q : Prop} (e : b = true) (h : p) : ifC b p q := ifC_of (fun _ => h) fun z => by rw [e] at z; cases z
theorem ifC_else {b : Bool} {p q : Prop} (e : b = false) (h : q) : ifC b p q := ifC_of (fun z => by rw [e] at z; cases z) fun _ => h
/-! ### names, constants, operators -/
def flatD : V → Option D
  | .non => some .non
  | .bl b => some (.bl b)
  | .int i => some (.int i)
  | .str s => some (.str s)
  | .ty n => some (.ty n)
  | _ => none
theorem flatD_rep {K : PySem.W.Frag} {H : Hp} {v : V} {d : D} (h : flatD v = some d) : Rep K H v d := by
  cases v with
  | non => cases h; exact .non
  | bl b => cases h; exact .bl b
  | int b => cases h; exact .int b
  | str b => cases h; exact .str b
  | ty b => cases h; exact .ty b
  | _ => cases h
theorem flatD_top {K : PySem.W.Frag} {H Hr : Hp} {v : V} {d : D} (h : flatD v = some d) : TopD K H Hr v d := by
  cases v with
  | non => cases h; rfl
  | bl b => cases h; rfl
  | int b => cases h; rfl
  | str b => cases h; rfl
  | ty b => cases h; rfl
  | _ => cases h
def dVar (i : Nat) : DW := fun _ ρ R => match ρ[i]? with
  | some (some (.sh r d)) => R (.v r d) ρ
  | some (some (.ow _ _)) => R (.al i) ρ
  | some (some (.lk r d)) => R (.v r d) ρ
  | some (some (.pa _ d)) => R (.v false d) ρ
  | some (some (.po d)) => R (.v false d) ρ
  | _ => False
def dC (v : V) : DW := fun _ ρ R => match flatD v with
  | some d => R (.v true d) ρ
  | none => False
section
variable {K : PySem.W.Frag} {W : WXT}
instance {i : Nat} : DE K W (tVar i) (dVar i) where
  ok := fun {F σ H ρ X R Q} hK E L h q => by
    unfold dVar at h
    split at h
    · rename_i r d hi
      obtain ⟨v, h1, h2⟩ := E.sh i r d hi
      exact ⟨v, h1, q _ ρ v H h E (.refl _ _) h2⟩
    · rename_i r d hi
      obtain ⟨a, h1, _⟩ := E.ow i r d hi
      exact ⟨.ref a, h1, q _ ρ _ H h E (.refl _ _) h1⟩
    · rename_i r d hi
      obtain ⟨a, h1, h2⟩ := E.raw i _ hi
      exact ⟨.ref a, h1, q _ ρ _ H h E (.refl _ _) h2.rep⟩
    · rename_i r d hi
      obtain ⟨v, h1, h2⟩ := E.raw i _ hi
      exact ⟨v, h1, q _ ρ _ H h E (.refl _ _) (PaAt.rep E h2)⟩
    · rename_i d hi
      obtain ⟨v, h1, h2⟩ := E.raw i _ hi
      exact ⟨v, h1, q _ ρ _ H h E (.refl _ _) (PaAt.rep E (PaAt.old E h2))⟩
    · exact h.elim
instance {v : V} : DE K W (tC v) (dC v) where
  ok := fun {F σ H ρ X R Q} hK E L h q => by
    unfold dC at h
    split at h
    · rename_i d hd
      exact q _ ρ v H h E (.refl _ _) (flatD_rep (K := F.K) hd)
    · exact h.elim
def dOp (w : DR2W) (wa wb : DW) : DW := fun X ρ R => wa X ρ fun x ρ1 => wb X ρ1 fun y ρ2 => match rd ρ2 x, rd ρ2 y with
  | some p, some q => w p q fun z => R z ρ2
  | _, _ => False
theorem rd_tmp {ρ : DEnv} {x : DV} : rd ρ x.tmp = rd ρ x := by
  cases x <;> rfl
/-- a fresh thing of a later step is fresh for the whole -/
theorem RepV.early {F : Fr} {H1 H : Hp} {σ : L2.St} {ρ : DEnv} {H' : Hp} {v : V} {dv : DV} {O O1 : Addr → Prop} (h : RepV F H1 σ ρ H' v dv) (s : Stp O H O1 H1) : RepV F H σ ρ H' v dv := by
  cases dv with
  | v r d => exact h
  | al i => exact h
  | fr r d =>
    obtain ⟨a, h1, h2, h3⟩ := h
    exact ⟨a, h1, s.dom a h2, h3⟩
instance {r : R2} {w : DR2W} {ta tb : TE} {wa wb : DW} [A : DE K W ta wa] [B : DE K W tb wb] [C : DR2 K r w] : DE K W (tOp r ta tb) (dOp w wa wb) where
  ok := fun {F σ H ρ X R Q} hK E L h q => by
    refine A.ok hK E L h fun x ρ1 v H1 h1 E1 s1 r1 => ?_
    refine B.ok hK E1 (L.stp s1) h1 fun y ρ2 u H2 h2 E2 s2 r2 => ?_
    have r1' : RepV F H σ ρ2 H2 v x.tmp := r1.stp E1 s2
    split at h2
    · rename_i p q' hp hq
      subst hK
      refine C.ok rfl E2 (r1'.top E2 (by rw [rd_tmp]; exact hp)) (r2.top E2 hq) h2 fun dv z H3 h3 s3 r3 => ?_
      exact q dv ρ2 z H3 h3 (E2.grow s3) ((s1.trans s2).trans (.same s3)) (r3.early (s1.trans s2))
    · exact h2.elim
/-- two flat things -/
def dI0 (g : Int → Int → V) : DR2W := fun p q R => match p.2, q.2 with
  | .int i, .int j => match flatD (g i j) with
    | some d => R (.v true d)
    | none => False
  | _, _ => False
instance {g : Int → Int → V} : DR2 K (rI0 g) (dI0 g) where
  ok := fun {F σ H ρ p q x y R Q} hK E hx hy h k => by
    unfold dI0 at h
    split at h
    · rename_i i j hp hq
      rw [hp] at hx
      rw [hq] at hy
      split at h
      · rename_i d hd
        exact ⟨i, j, hx, hy, k _ _ H h (.refl _) (flatD_rep (K := F.K) hd)⟩
      · exact h.elim
    · exact h.elim
def dIc (C : Int → Int → Prop) (g : Int → Int → V) : DR2W := fun p q R => match p.2, q.2 with
  | .int i, .int j => C i j ∧ match flatD (g i j) with
    | some d => R (.v true d)
    | none => False
  | _, _ => False
instance {C : Int → Int → Prop} {g : Int → Int → V} : DR2 K (rI C g) (dIc C g) where
  ok := fun {F σ H ρ p q x y R Q} hK E hx hy h k => by
    unfold dIc at h
    split at h
    · rename_i i j hp hq
      rw [hp] at hx
      rw [hq] at hy
      obtain ⟨hc, h⟩ := h
      split at h
      · rename_i d hd
        exact ⟨i, j, hx, hy, hc, k _ _ H h (.refl _) (flatD_rep (K := F.K) hd)⟩
      · exact h.elim
    · exact h.elim
end
end PW

namespace PW
open PySem PySem.Spec PyProof.Rows L2
section
variable {K : PySem.W.Frag} {W : WXT}
/-! ### tests -/
def dB (w : DW) : DTW := fun X ρ R => w X ρ fun x ρ1 => match rd ρ1 x with
  | some (_, .bl c) => R c ρ1
  | _ => False
theorem rd_bl {F : Fr} {Hs : Hp} {σ : L2.St} {ρ : DEnv} {H : Hp} {v : V} {dv : DV} {r : Bool} {c : Bool} (E : Env F σ ρ H) (h : RepV F Hs σ ρ H v dv) (e : rd ρ dv = some (r, .bl c)) : v = .bl c := h.top E e
instance {t : TE} {w : DW} [A : DE K W t w] : DT K W (tB t) (dB w) where
  ok := fun {F σ H ρ X R Q} hK E L h q => by
    refine A.ok hK E L h fun x ρ1 v H1 h1 E1 s1 r1 => ?_
    split at h1
    · rename_i r c e
      exact ⟨c, rd_bl E1 r1 e, q c ρ1 H1 h1 E1 s1⟩
    · exact h1.elim
instance {t : TE} {w : DW} [A : DE K W t w] : DT K W (tTest t) (dB w) where
  ok := fun {F σ H ρ X R Q} hK E L h q => by
    refine A.ok hK E L h fun x ρ1 v H1 h1 E1 s1 r1 => ?_
    split at h1
    · rename_i r c e
      exact ⟨c, rd_bl E1 r1 e, q c ρ1 H1 h1 E1 s1⟩
    · exact h1.elim
def dAnd (w u : DTW) : DTW := fun X ρ R => w X ρ fun c ρ1 => ifC c (u X ρ1 R) (R false ρ1)
def dOr (w u : DTW) : DTW := fun X ρ R => w X ρ fun c ρ1 => ifC c (R true ρ1) (u X ρ1 R)
def dNot (w : DTW) : DTW := fun X ρ R => w X ρ fun c ρ1 => R (!c) ρ1
def dYes : DTW := fun _ ρ R => R true ρ
instance {t u : TT} {w y : DTW} [A : DT K W t w] [B : DT K W u y] : DT K W (tAnd t u) (dAnd w y) where
  ok := fun {F σ H ρ X R Q} hK E L h q => by
    refine A.ok hK E L h fun c ρ1 H1 h1 E1 s1 => ?_
    cases c with
    | true => exact B.ok hK E1 (L.stp s1) h1.t fun b ρ2 H2 h2 E2 s2 => q b ρ2 H2 h2 E2 (s1.trans s2)
    | false => exact q false ρ1 H1 h1.f E1 s1
instance {t u : TT} {w y : DTW} [A : DT K W t w] [B : DT K W u y] : DT K W (tOr t u) (dOr w y) where
  ok := fun {F σ H ρ X R Q} hK E L h q => by
    refine A.ok hK E L h fun c ρ1 H1 h1 E1 s1 => ?_
    cases c with
    | false => exact B.ok hK E1 (L.stp s1) h1.f fun b ρ2 H2 h2 E2 s2 => q b ρ2 H2 h2 E2 (s1.trans s2)
    | true => exact q true ρ1 H1 h1.t E1 s1
instance {t : TT} {w : DTW} [A : DT K W t w] : DT K W (tNot t) (dNot w) where
  ok := fun {F σ H ρ X R Q} hK E L h q => A.ok hK E L h fun c ρ1 H1 h1 E1 s1 => q (!c) ρ1 H1 h1 E1 s1
instance : DT K W tYes dYes where
  ok := fun {F σ H ρ X R Q} hK E L h q => q true ρ H h E (.refl _ _)
/-! ### and, or, not, if as values -/
def dAndV (w u : DW) : DW := fun X ρ R => w X ρ fun x ρ1 => match rd ρ1 x with
  | some (_, .bl c) => ifC c (u X ρ1 R) (R (.v true (.bl false)) ρ1)
  | _ => False
def dOrV (w u : DW) : DW := fun X ρ R => w X ρ fun x ρ1 => match rd ρ1 x with
  | some (_, .bl c) => ifC c (R (.v true (.bl true)) ρ1) (u X ρ1 R)
  | _ => False
def dNotV (w : DW) : DW := fun X ρ R => w X ρ fun x ρ1 => match rd ρ1 x with
  | some (_, .bl c) => R (.v true (.bl (!c))) ρ1
  | _ => False
def dIf (c : DTW) (w u : DW) : DW := fun X ρ R => c X ρ fun b ρ1 => ifC b (w X ρ1 R) (u X ρ1 R)
instance {t u : TE} {w y : DW} [A : DE K W t w] [B : DE K W u y] : DE K W (tAndV t u) (dAndV w y) where
  ok := fun {F σ H ρ X R Q} hK E L h q => by
    refine A.ok hK E L h fun x ρ1 v H1 h1 E1 s1 r1 => ?_
    split at h1
    · rename_i r c e
      refine ⟨c, rd_bl E1 r1 e, ?_⟩
      cases c with
      | true => exact B.ok hK E1 (L.stp s1) h1.t fun b ρ2 v2 H2 h2 E2 s2 r2 => q b ρ2 v2 H2 h2 E2 (s1.trans s2) (r2.early s1)
      | false => exact q _ ρ1 _ H1 h1.f E1 s1 (.bl false)
    · exact h1.elim
instance {t u : TE} {w y : DW} [A : DE K W t w] [B : DE K W u y] : DE K W (tOrV t u) (dOrV w y) where
  ok := fun {F σ H ρ X R Q} hK E L h q => by
    refine A.ok hK E L h fun x ρ1 v H1 h1 E1 s1 r1 => ?_
    split at h1
    · rename_i r c e
      refine ⟨c, rd_bl E1 r1 e, ?_⟩
      cases c with
      | false => exact B.ok hK E1 (L.stp s1) h1.f fun b ρ2 v2 H2 h2 E2 s2 r2 => q b ρ2 v2 H2 h2 E2 (s1.trans s2) (r2.early s1)
      | true => exact q _ ρ1 _ H1 h1.t E1 s1 (.bl true)
    · exact h1.elim
instance {t : TE} {w : DW} [A : DE K W t w] : DE K W (tNotV t) (dNotV w) where
  ok := fun {F σ H ρ X R Q} hK E L h q => by
    refine A.ok hK E L h fun x ρ1 v H1 h1 E1 s1 r1 => ?_
    split at h1
    · rename_i r c e
      exact ⟨c, rd_bl E1 r1 e, q _ ρ1 _ H1 h1 E1 s1 (.bl (!c))⟩
    · exact h1.elim
instance {c : TT} {t u : TE} {wc : DTW} {w y : DW} [C : DT K W c wc] [A : DE K W t w] [B : DE K W u y] : DE K W (tIf c t u) (dIf wc w y) where
  ok := fun {F σ H ρ X R Q} hK E L h q => by
    refine C.ok hK E L h fun b ρ1 H1 h1 E1 s1 => ?_
    cases b with
    | true => exact A.ok hK E1 (L.stp s1) h1.t fun b ρ2 v2 H2 h2 E2 s2 r2 => q b ρ2 v2 H2 h2 E2 (s1.trans s2) (r2.early s1)
    | false => exact B.ok hK E1 (L.stp s1) h1.f fun b ρ2 v2 H2 h2 E2 s2 r2 => q b ρ2 v2 H2 h2 E2 (s1.trans s2) (r2.early s1)
def dChain (w w' : DR2W) (wa wb wc : DW) : DW := fun X ρ R => wa X ρ fun x ρ1 => wb X ρ1 fun y ρ2 => match rd ρ2 x, rd ρ2 y with
  | some p, some q => w p q fun z => match z with
    | .v _ (.bl k) => ifC k (wc X ρ2 fun u ρ3 => match rd ρ3 y, rd ρ3 u with
        | some q, some s => w' q s fun z => R z ρ3
        | _, _ => False) (R (.v true (.bl false)) ρ2)
    | _ => False
  | _, _ => False
instance {r r' : R2} {w w' : DR2W} {ta tb tc : TE} {wa wb wc : DW} [A : DE K W ta wa] [B : DE K W tb wb] [C : DE K W tc wc] [S : DR2 K r w] [S' : DR2 K r' w'] : DE K W (tChain r r' ta tb tc) (dChain w w' wa wb wc) where
  ok := fun {F σ H ρ X R Q} hK E L h q => by
    refine A.ok hK E L h fun x ρ1 v H1 h1 E1 s1 r1 => ?_
    refine B.ok hK E1 (L.stp s1) h1 fun y ρ2 u H2 h2 E2 s2 r2 => ?_
    have r1' : RepV F H σ ρ2 H2 v x.tmp := r1.stp E1 s2
    split at h2
    · rename_i p q' hp hq
      subst hK
      refine S.ok rfl E2 (r1'.top E2 (by rw [rd_tmp]; exact hp)) (r2.top E2 hq) h2 fun dv z H3 h3 s3 r3 => ?_
      have E3 := E2.grow s3
      have s3' : Stp (OwnA σ ρ2) H2 (OwnA σ ρ2) H3 := .same s3
      split at h3
      · rename_i rz k
        refine ⟨k, rd_bl E3 r3 (r := rz) rfl, ?_⟩
        cases k with
        | true =>
          refine C.ok rfl E3 (L.stp ((s1.trans s2).trans s3')) h3.t fun u2 ρ4 v4 H4 h4 E4 s4 r4 => ?_
          have r2' : RepV F H σ ρ4 H4 u y.tmp := r2.stp E2 (s3'.trans s4)
          split at h4
          · rename_i q2 s2' hq2 hs2
            refine S'.ok rfl E4 (r2'.top E4 (by rw [rd_tmp]; exact hq2)) (r4.top E4 hs2) h4 fun dv5 z5 H5 h5 s5 r5 => ?_
            exact q dv5 ρ4 z5 H5 h5 (E4.grow s5) ((((s1.trans s2).trans s3').trans s4).trans (.same s5)) (r5.early (((s1.trans s2).trans s3').trans s4))
          · exact h4.elim
        | false => exact q _ ρ2 _ H3 h3.f E3 ((s1.trans s2).trans s3') (.bl false)
      · exact h3.elim
    · exact h2.elim
/-! ### argument lists, lists, tuples, calls of built-ins -/
def dNil : DAW := fun _ ρ R => R [] ρ
def dCons (w : DW) (u : DAW) : DAW := fun X ρ R => w X ρ fun x ρ1 => u X ρ1 fun xs ρ2 => R (x.tmp :: xs) ρ2
instance : DA K W tNil dNil where
  ok := fun {F σ H ρ X R Q} hK E L h q => q [] ρ [] H h E (.refl _ _) .nil
theorem paired_imp {α β : Type} {P Q : α → β → Prop} (h : ∀ a b, P a b → Q a b) : ∀ {xs : List α} {ys : List β}, Paired P xs ys → Paired Q xs ys
  | _, _, .nil => .nil
  | _, _, .cons a b => .cons (h _ _ a) (paired_imp h b)
instance {t : TE} {u : TA} {w : DW} {y : DAW} [A : DE K W t w] [B : DA K W u y] : DA K W (tCons t u) (dCons w y) where
  ok := fun {F σ H ρ X R Q} hK E L h q => by
    refine A.ok hK E L h fun x ρ1 v H1 h1 E1 s1 r1 => ?_
    refine B.ok hK E1 (L.stp s1) h1 fun xs ρ2 vs H2 h2 E2 s2 r2 => ?_
    exact q _ ρ2 _ H2 h2 E2 (s1.trans s2) (.cons (r1.stp E1 s2) (paired_imp (fun _ _ z => z.early s1) r2))
def rds (ρ : DEnv) : List DV → Option (List (Bool × D))
  | [] => some []
  | x :: xs => match rd ρ x, rds ρ xs with
    | some p, some ps => some (p :: ps)
    | _, _ => none
theorem tops_of {F : Fr} {Hs : Hp} {σ : L2.St} {ρ : DEnv} {H : Hp} (E : Env F σ ρ H) : ∀ {vs : List V} {dvs : List DV} {ps : List (Bool × D)}, Paired (fun v dv => RepV F Hs σ ρ H v dv) vs dvs → rds ρ dvs = some ps → Tops F.K F (OwnA σ ρ) H vs ps
  | _, _, _, .nil, e => by
    cases e
    exact .nil
  | _, _, _, .cons (b := x) h g, e => by
    simp only [rds] at e
    split at e
    · rename_i p ps hp hps
      cases e
      exact .cons (h.top E hp) (tops_of E g hps)
    · cases e
def dCB (w : DR1W) (u : DAW) : DW := fun X ρ R => u X ρ fun xs ρ1 => match rds ρ1 xs with
  | some ps => w ps fun z => R z ρ1
  | none => False
instance {r : List V → Hp → VK → Prop} {w : DR1W} {t : TA} {u : DAW} [A : DA K W t u] [C : DR1 K r w] : DE K W (tCB r t) (dCB w u) where
  ok := fun {F σ H ρ X R Q} hK E L h q => by
    refine A.ok hK E L h fun xs ρ1 vs H1 h1 E1 s1 r1 => ?_
    split at h1
    · rename_i ps hps
      subst hK
      refine C.ok rfl E1 (tops_of E1 r1 hps) h1 fun dv v H2 h2 s2 r2 => ?_
      exact q dv ρ1 v H2 h2 (E1.grow s2) (s1.trans (.same s2)) (r2.early s1)
    · exact h1.elim
/-- things as they are stored: each is handed on -/
def sts (ρ : DEnv) : List DV → Option (Bool × List D × DEnv)
  | [] => some (true, [], ρ)
  | x :: xs => match st ρ x with
    | some (r, d, ρ1) => match sts ρ1 xs with
      | some (r', ds, ρ2) => some (r && r', d :: ds, ρ2)
      | none => none
    | none => none
theorem Rep.weak {F : Fr} {O : Addr → Prop} {H : Hp} {v : V} {d : D} {r r' : Bool} (h : Rep F.K (F.RH O H r) v d) (e : r' = true → r = true) : Rep F.K (F.RH O H r') v d :=
  h.mono (cut_mono (fun a o h1 h2 => ⟨h1, fun z => h2 (by
    rcases z with z | z | ⟨z1, z2⟩
    · exact .inl z
    · exact .inr (.inl z)
    · exact .inr (.inr ⟨e z1, z2⟩))⟩) fun _ _ h _ => h)
theorem RepL.weak {F : Fr} {O : Addr → Prop} {H : Hp} {v : List V} {d : List D} {r r' : Bool} (h : RepL F.K (F.RH O H r) v d) (e : r' = true → r = true) : RepL F.K (F.RH O H r') v d :=
  h.mono (cut_mono (fun a o h1 h2 => ⟨h1, fun z => h2 (by
    rcases z with z | z | ⟨z1, z2⟩
    · exact .inl z
    · exact .inr (.inl z)
    · exact .inr (.inr ⟨e z1, z2⟩))⟩) fun _ _ h _ => h)
theorem RepV.stp0 {F : Fr} {Hs : Hp} {σ : L2.St} {ρ ρ' : DEnv} {H : Hp} {v : V} {dv : DV} (E : Env F σ ρ H) (h : RepV F Hs σ ρ H v dv) (s : Stp (OwnA σ ρ) H (OwnA σ ρ') H) (hd : dv.tmp = dv) : RepV F Hs σ ρ' H v dv := by
  rw [← hd]
  exact h.stp E s
theorem sts_rep {F : Fr} {Hs : Hp} {σ : L2.St} {H : Hp} : ∀ {vs : List V} {dvs : List DV} {ρ : DEnv} {r : Bool} {ds : List D} {ρ' : DEnv}, Env F σ ρ H → Paired (fun v dv => RepV F Hs σ ρ H v dv ∧ dv.tmp = dv) vs dvs → sts ρ dvs = some (r, ds, ρ') →
    Env F σ ρ' H ∧ Stp (OwnA σ ρ) H (OwnA σ ρ') H ∧ RepL F.K (F.RH (OwnA σ ρ') H r) vs ds
  | _, _, ρ, _, _, _, E, .nil, e => by
    cases e
    exact ⟨E, .refl _ _, .nil⟩
  | _, _, ρ, _, _, _, E, .cons (b := x) h g, e => by
    simp only [sts] at e
    split at e
    · rename_i r d ρ1 h1
      split at e
      · rename_i r' ds ρ2 h2
        cases e
        obtain ⟨E1, s1, p1⟩ := h.1.st E h1
        obtain ⟨E2, s2, p2⟩ := sts_rep E1 (paired_imp (fun v dv z => ⟨RepV.stp0 E z.1 s1 z.2, z.2⟩) g) h2
        refine ⟨E2, s1.trans s2, .cons ((p1.mono (E1.rh s2)).weak fun z => ?_) (p2.weak fun z => ?_)⟩
        · rw [Bool.and_eq_true] at z
          exact z.1
        · rw [Bool.and_eq_true] at z
          exact z.2
      · cases e
    · cases e
theorem dCons_tmp {F : Fr} {Hs : Hp} {σ : L2.St} {ρ : DEnv} {H : Hp} : ∀ {vs : List V} {dvs : List DV}, Paired (fun v dv => RepV F Hs σ ρ H v dv) vs dvs → Paired (fun v dv => RepV F Hs σ ρ H v dv ∧ dv.tmp = dv) vs (dvs.map DV.tmp)
  | _, _, .nil => .nil
  | _, _, .cons (b := x) h g => by
    refine .cons ⟨?_, ?_⟩ (dCons_tmp g)
    · cases x with
      | v r d => exact h
      | al i => exact h
      | fr r d => exact h.fr_rep
    · cases x <;> rfl
/-- a new list of some things -/
def dLst (u : DAW) : DW := fun X ρ R => u X ρ fun xs ρ1 => match sts ρ1 (xs.map DV.tmp) with
  | some (r, ds, ρ2) => ds.length ≤ sizeLine ∧ R (.fr r (.lst ds)) ρ2
  | none => False
def dTup (u : DAW) : DW := fun X ρ R => u X ρ fun xs ρ1 => match sts ρ1 (xs.map DV.tmp) with
  | some (r, ds, ρ2) => ds.length ≤ sizeLine ∧ R (.v r (.tup ds)) ρ2
  | none => False
theorem fresh_of {F : Fr} {σ : L2.St} {ρ : DEnv} {H : Hp} {a : Addr} {o : HO} {r : Bool} {d : D} (E : Env F σ ρ H) (h : H a = none) (hd : d.isPot = false) (ho : RepO F.K (F.RH (OwnA σ ρ) H r) (some o) d) : RepV F H σ ρ (upd H a o) (.ref a) (.fr r d) := by
  obtain ⟨h0, nh, no, _⟩ := E.new h
  have E' : Env (F.hide a) σ ρ (upd H a o) := E.hideNew h (same_new h) ⟨_, upd_same⟩
  refine ⟨a, rfl, h, nh, h0, hd, E', ?_⟩
  rw [upd_same]
  refine ho.mono (cut_mono (fun b u hb nb => ?_) fun b xs hb _ => ?_)
  · have hba : b ≠ a := ne_of_none hb h
    refine ⟨by rw [upd_ne hba]; exact hb, fun z => ?_⟩
    rcases z with (z | z) | z | z
    · exact hba z
    · exact nb (.inl z)
    · exact nb (.inr (.inl z))
    · exact nb (.inr (.inr z))
  · rw [upd_ne (ne_of_none hb h)]
    exact hb
instance {t : TA} {u : DAW} [A : DA K W t u] : DE K W (tLst t) (dLst u) where
  ok := fun {F σ H ρ X R Q} hK E L h q => by
    refine A.ok hK E L h fun xs ρ1 vs H1 h1 E1 s1 r1 => ?_
    split at h1
    · rename_i r ds ρ2 e
      obtain ⟨E2, s2, p2⟩ := sts_rep E1 (dCons_tmp r1) e
      refine ⟨by rw [p2.len]; exact h1.1, fun a ha => ?_⟩
      exact q _ ρ2 _ _ h1.2 (E2.grow (same_new ha)) ((s1.trans s2).trans (.same (same_new ha))) (RepV.early (fresh_of E2 ha rfl ⟨vs, rfl, p2⟩) (s1.trans s2))
    · exact h1.elim
instance {t : TA} {u : DAW} [A : DA K W t u] : DE K W (tTup t) (dTup u) where
  ok := fun {F σ H ρ X R Q} hK E L h q => by
    refine A.ok hK E L h fun xs ρ1 vs H1 h1 E1 s1 r1 => ?_
    split at h1
    · rename_i r ds ρ2 e
      obtain ⟨E2, s2, p2⟩ := sts_rep E1 (dCons_tmp r1) e
      refine ⟨by rw [p2.len]; exact h1.1, fun a ha => ?_⟩
      have s3 := same_new (o := .tup vs) ha
      exact q _ ρ2 _ _ h1.2 (E2.grow s3) ((s1.trans s2).trans (.same s3)) (Rep.tup (cut_tup upd_same) (p2.mono (E2.rh (.same s3))))
    · exact h1.elim
end
end PW

namespace PW
open PySem PySem.Spec PyProof.Rows L2
/-! ### operators that look at what they are given -/
section
variable {X : Cx} {K : PySem.W.Frag}
def rAddG (K : PySem.W.Frag) : R2 := fun x y H Q => (∃ i j, x = .int i ∧ y = .int j ∧ Q (.int (i + j)) H) ∨ (∃ i k, x = .int i ∧ y = .bl k ∧ Q (.int (i + b2i k)) H) ∨
  (∃ i j, x = .str i ∧ y = .str j ∧ i.length + j.length ≤ sizeLine ∧ Q (.str (i ++ j)) H) ∨ rCat x y H Q ∨ rCatT K x y H Q
theorem gAdd (h : X.K = K := by rfl) : OpR X (binaryOp .Add) (rAddG K) := by
  subst h
  intro pins s σ H x y v u Q I rx ry h
  rcases h with h | h | h | h | h
  · exact op_add pins s σ H x y v u Q I rx ry h
  · exact op_add_ib pins s σ H x y v u Q I rx ry h
  · exact op_add_str pins s σ H x y v u Q I rx ry h
  · exact op_cat pins s σ H x y v u Q I rx ry h
  · exact op_catT pins s σ H x y v u Q I rx ry h
def rMulG : R2 := fun x y H Q => rI CMul (fun i j => .int (i * j)) x y H Q ∨ rRep x y H Q
theorem gMul : OpR X (binaryOp .Mult) rMulG := by
  intro pins s σ H x y v u Q I rx ry h
  rcases h with h | h
  · exact op_mul pins s σ H x y v u Q I rx ry h
  · exact op_rep pins s σ H x y v u Q I rx ry h
def rEqG (K : PySem.W.Frag) : R2 := fun x y H Q => rEq x y H Q ∨ rEqD K x y H Q
def rNeG (K : PySem.W.Frag) : R2 := fun x y H Q => rNe x y H Q ∨ rNeD K x y H Q
theorem gEq (hu : X.A.units + 64 < cLine) (h : X.K = K := by rfl) : OpR X (compareOp .Eq) (rEqG K) := by
  subst h
  intro pins s σ H x y v u Q I rx ry h
  rcases h with h | h
  · exact op_eq pins s σ H x y v u Q I rx ry h
  · exact op_eqD hu pins s σ H x y v u Q I rx ry h
theorem gNe (hu : X.A.units + 64 < cLine) (h : X.K = K := by rfl) : OpR X (compareOp .NotEq) (rNeG K) := by
  subst h
  intro pins s σ H x y v u Q I rx ry h
  rcases h with h | h
  · exact op_ne pins s σ H x y v u Q I rx ry h
  · exact op_neD hu pins s σ H x y v u Q I rx ry h
def rInS (n : Bool) : R2 := fun x y H Q => ∃ i j, x = .str i ∧ y = .str j ∧ Q (.bl (if n then !(!(Builtin.Str.occurrences j i 0 j.length 1).isEmpty) else !(Builtin.Str.occurrences j i 0 j.length 1).isEmpty)) H
def rInSg (n : Bool) : R2 := fun x y H Q => ∃ (c : Nat) (z : Str), x = .str ⟨#[c]⟩ ∧ y = .str z ∧ Q (.bl (if n then !decide (c ∈ z.cps.toList) else decide (c ∈ z.cps.toList))) H
def rInG (K : PySem.W.Frag) : R2 := fun x y H Q => rIn K false x y H Q ∨ rInSg false x y H Q ∨ rInS false x y H Q ∨ rInD K x y H Q
def rNotInG (K : PySem.W.Frag) : R2 := fun x y H Q => rIn K true x y H Q ∨ rInSg true x y H Q ∨ rInS true x y H Q ∨ rNotInD K x y H Q
theorem gIn (hu : X.A.units + 65 < cLine) (h : X.K = K := by rfl) : OpR X (compareOp .In) (rInG K) := by
  subst h
  intro pins s σ H x y v u Q I rx ry h
  rcases h with h | h | h | h
  · exact op_in_seq pins s σ H x y v u Q I rx ry h
  · exact op_in_sign pins s σ H x y v u Q I rx ry h
  · exact op_in_str pins s σ H x y v u Q I rx ry h
  · exact op_inD hu pins s σ H x y v u Q I rx ry h
theorem gNotIn (hu : X.A.units + 65 < cLine) (h : X.K = K := by rfl) : OpR X (compareOp .NotIn) (rNotInG K) := by
  subst h
  intro pins s σ H x y v u Q I rx ry h
  rcases h with h | h | h | h
  · exact op_notIn_seq pins s σ H x y v u Q I rx ry h
  · exact op_notIn_sign pins s σ H x y v u Q I rx ry h
  · exact op_notIn_str pins s σ H x y v u Q I rx ry h
  · exact op_notInD hu pins s σ H x y v u Q I rx ry h
def rIsG : R2 := fun x y H Q => y = .non ∧ Q (.bl (decide (x = .non))) H
def rNotG : R2 := fun x y H Q => y = .non ∧ Q (.bl (!decide (x = .non))) H
theorem gIs : OpR X (compareOp .Is) rIsG := op_isN
theorem gNot : OpR X (compareOp .IsNot) rNotG := op_notN
def rIxG (K : PySem.W.Frag) : R2 := fun x y H Q => rIxL K x y H Q ∨ rIxT K x y H Q ∨ rIxS x y H Q
theorem gIx (h : X.K = K := by rfl) : IxR X (rIxG K) := by
  subst h
  exact ix_seq
def rLenG (K : PySem.W.Frag) : List V → Hp → VK → Prop := fun xs H Q => (∃ x n, xs = [x] ∧ LenV K x H n ∧ Q (.int n) H) ∨ ∃ a kvs, xs = [V.ref a] ∧ Rd H a (.dK kvs) ∧ Q (.int kvs.length) H
theorem gLen (h : X.K = K := by rfl) : CallR X (.builtin "len") (rLenG K) := by
  subst h
  intro pins s σ H xs us Q I r h
  rcases h with h | h
  · exact call_len pins s σ H xs us Q I r h
  · obtain ⟨a, kvs, rfl, ha, q⟩ := h
    obtain ⟨u, rfl, ru⟩ := vals1 r
    cases ru
    exact d_len I ha fun t s' I' => ⟨.int kvs.length, H, I', ⟨t, rfl⟩, q⟩
def rMax2 : List V → Hp → VK → Prop := fun xs H Q => ∃ i j, xs = [.int i, .int j] ∧ Q (.int (if j > i then j else i)) H
def rMin2 : List V → Hp → VK → Prop := fun xs H Q => ∃ i j, xs = [.int i, .int j] ∧ Q (.int (if j < i then j else i)) H
def rInt1 : List V → Hp → VK → Prop := fun xs H Q => (∃ i, xs = [.int i] ∧ Q (.int i) H) ∨ ∃ k, xs = [.bl k] ∧ Q (.int (if k then 1 else 0)) H
theorem gMax2 (hc : X.calm = true) : CallR X (.builtin "max") rMax2 := call_max2 hc
theorem gMin2 (hc : X.calm = true) : CallR X (.builtin "min") rMin2 := call_min2 hc
theorem gInt1 : CallR X (.type "int") rInt1 := call_int1
def rListG (K : PySem.W.Frag) : List V → Hp → VK → Prop := fun xs H Q => rListK K xs H Q ∨ ∃ a kvs, xs = [V.ref a] ∧ Rd H a (.dK kvs) ∧ ∀ p, H p = none → Q (.ref p) (upd H p (.lst (kvs.map fun kv => kV kv.1)))
theorem gList (hc : X.calm = true) (h : X.K = K := by rfl) : CallR X (.type "list") (rListG K) := by
  intro pins s σ H xs us Q I r z
  rcases z with z | z
  · exact listK h pins s σ H xs us Q I r z
  · exact call_listD hc pins s σ H xs us Q I r z
end
/-! ### the same by data -/
def D.pim : D → Bool
  | .lst xs => D.immL xs
  | .tup xs => D.immL xs
  | .dK kvs => D.immL (kvs.map (·.2))
  | .dT kvs => D.immL (kvs.map (·.2))
  | _ => false
/-- whether the parts of a thing are none that stood at the entry -/
def reg (p : Bool × D) : Bool := p.1 || p.2.pim
section
variable {K : PySem.W.Frag} {F : Fr} {O : Addr → Prop} {H : Hp} {r : Bool} {v : V}
theorem RepL.up {vs : List V} {ds : List D} (h : RepL F.K (F.RH O H r) vs ds) {b : Bool} (hb : b = true → D.immL ds = true) : RepL F.K (F.RH O H (r || b)) vs ds := by
  cases b with
  | true => exact (h.mono cut_le).imm (hb rfl)
  | false =>
    rw [Bool.or_false]
    exact h
theorem TopD.lst {p : Bool × D} {ds : List D} (h : TopD F.K H (F.RH O H p.1) v p.2) (e : p.2 = .lst ds) : ∃ a vs, v = .ref a ∧ H a = some (.lst vs) ∧ RepL F.K (F.RH O H (reg p)) vs ds := by
  obtain ⟨r, d⟩ := p
  cases e
  obtain ⟨a, vs, h1, h2, h3⟩ := h
  exact ⟨a, vs, h1, h2, h3.up fun z => z⟩
theorem TopD.tup {p : Bool × D} {ds : List D} (h : TopD F.K H (F.RH O H p.1) v p.2) (e : p.2 = .tup ds) : ∃ a vs, v = .ref a ∧ H a = some (.tup vs) ∧ RepL F.K (F.RH O H (reg p)) vs ds := by
  obtain ⟨r, d⟩ := p
  cases e
  obtain ⟨a, vs, h1, h2, h3⟩ := h
  exact ⟨a, vs, h1, h2, h3.up fun z => z⟩
end
def dAddG : DR2W := fun p q R => match p.2, q.2 with
  | .int i, .int j => R (.v true (.int (i + j)))
  | .int i, .bl k => R (.v true (.int (i + b2i k)))
  | .str i, .str j => i.length + j.length ≤ sizeLine ∧ R (.v true (.str (i ++ j)))
  | .lst xs, .lst ys => xs.length + ys.length ≤ sizeLine ∧ R (.fr (reg p && reg q) (.lst (xs ++ ys)))
  | .tup xs, .tup ys => xs ≠ [] ∧ xs.length + ys.length ≤ sizeLine ∧ R (.v (reg p && reg q) (.tup (xs ++ ys)))
  | _, _ => False
theorem RepL.both {F : Fr} {O : Addr → Prop} {H : Hp} {vs ws : List V} {ds es : List D} {r r' : Bool} (h : RepL F.K (F.RH O H r) vs ds) (g : RepL F.K (F.RH O H r') ws es) : RepL F.K (F.RH O H (r && r')) (vs ++ ws) (ds ++ es) :=
  (h.weak fun z => by rw [Bool.and_eq_true] at z; exact z.1).app (g.weak fun z => by rw [Bool.and_eq_true] at z; exact z.2)
instance {K : PySem.W.Frag} : DR2 K (rAddG K) dAddG where
  ok := fun {F σ H ρ p q x y R Q} hK E hx hy h k => by
    subst hK
    unfold dAddG at h
    split at h
    · rename_i i j hp hq
      rw [hp] at hx
      rw [hq] at hy
      exact .inl ⟨i, j, hx, hy, k _ _ H h (.refl _) (.int _)⟩
    · rename_i i j hp hq
      rw [hp] at hx
      rw [hq] at hy
      exact .inr (.inl ⟨i, j, hx, hy, k _ _ H h (.refl _) (.int _)⟩)
    · rename_i i j hp hq
      rw [hp] at hx
      rw [hq] at hy
      exact .inr (.inr (.inl ⟨i, j, hx, hy, h.1, k _ _ H h.2 (.refl _) (.str _)⟩))
    · rename_i i j hp hq
      obtain ⟨a, vs, rfl, h1, h2⟩ := hx.lst hp
      obtain ⟨b, ws, rfl, h3, h4⟩ := hy.lst hq
      refine .inr (.inr (.inr (.inl ⟨a, b, vs, ws, rfl, rfl, h1, h3, by rw [h2.len, h4.len]; exact h.1, fun c hc => ?_⟩)))
      exact k _ _ _ h.2 (same_new hc) (fresh_of E hc rfl ⟨_, rfl, h2.both h4⟩)
    · rename_i i j hp hq
      obtain ⟨a, vs, rfl, h1, h2⟩ := hx.tup hp
      obtain ⟨b, ws, rfl, h3, h4⟩ := hy.tup hq
      refine .inr (.inr (.inr (.inr ⟨a, b, vs, ws, rfl, rfl, SqT.of h1, SqT.of h3, fun z => h.1 ?_, by rw [h2.len, h4.len]; exact h.2.1, fun z => ?_, fun z c hc => ?_⟩)))
      · subst z
        cases h2
        rfl
      · subst z
        cases h4
        refine k _ _ H h.2.2 (.refl _) ?_
        have := h2.weak (r' := reg p && reg q) fun z => by rw [Bool.and_eq_true] at z; exact z.1
        rw [List.append_nil]
        exact .tup (cut_tup h1) this
      · have s3 := same_new (o := .tup (vs ++ ws)) hc
        exact k _ _ _ h.2.2 s3 (.tup (cut_tup upd_same) ((h2.both h4).mono (E.rh (.same s3))))
    · exact h.elim
def dMulG : DR2W := fun p q R => match p.2, q.2 with
  | .int i, .int j => CMul i j ∧ R (.v true (.int (i * j)))
  | .lst xs, .int k => -(2 ^ 63) ≤ k ∧ k < 2 ^ 63 ∧ xs.length * k.toNat ≤ sizeLine ∧ R (.fr (reg p) (.lst (List.replicate k.toNat xs).flatten))
  | _, _ => False
theorem RepL.rep {K : PySem.W.Frag} {H : Hp} {vs : List V} {ds : List D} (h : RepL K H vs ds) : ∀ n : Nat, RepL K H (List.replicate n vs).flatten (List.replicate n ds).flatten
  | 0 => .nil
  | n + 1 => by
    rw [List.replicate_succ, List.replicate_succ, List.flatten_cons, List.flatten_cons]
    exact h.app (h.rep n)
instance {K : PySem.W.Frag} : DR2 K rMulG dMulG where
  ok := fun {F σ H ρ p q x y R Q} hK E hx hy h k => by
    subst hK
    unfold dMulG at h
    split at h
    · rename_i i j hp hq
      rw [hp] at hx
      rw [hq] at hy
      exact .inl ⟨i, j, hx, hy, h.1, k _ _ H h.2 (.refl _) (.int _)⟩
    · rename_i i j hp hq
      rw [hq] at hy
      obtain ⟨a, vs, rfl, h1, h2⟩ := hx.lst hp
      refine .inr ⟨a, j, vs, rfl, hy, h1, h.1, h.2.1, by rw [h2.len]; exact h.2.2.1, fun c hc => ?_⟩
      exact k _ _ _ h.2.2.2 (same_new hc) (fresh_of E hc rfl ⟨_, rfl, h2.rep _⟩)
    · exact h.elim
/-! ### == and in -/
def D.flat : D → Bool
  | .non => true
  | .bl _ => true
  | .int _ => true
  | .str _ => true
  | _ => false
def toV : D → V
  | .bl b => .bl b
  | .int i => .int i
  | .str s => .str s
  | _ => .non
theorem flat_v {K : PySem.W.Frag} {H Hr : Hp} {v : V} {d : D} (h : TopD K H Hr v d) (f : d.flat = true) : v = toV d := by
  cases d with
  | non => exact h
  | bl b => exact h
  | int i => exact h
  | str s => exact h
  | _ => cases f
theorem flat_r {K : PySem.W.Frag} {H : Hp} {v : V} {d : D} (h : Rep K H v d) (f : d.flat = true) : v = toV d := flat_v (h.top (fun _ _ z => z)) f
theorem flat_all {K : PySem.W.Frag} {H : Hp} : ∀ {vs : List V} {ds : List D}, RepL K H vs ds → ds.all D.flat = true → vs = ds.map toV
  | _, _, .nil, _ => rfl
  | _, _, .cons h g, f => by
    rw [List.all_cons, Bool.and_eq_true] at f
    rw [List.map_cons, ← flat_all g f.2, flat_r h f.1]
theorem flat_toV {d : D} (f : d.flat = true) : flatV (toV d) = true := by
  cases d with
  | non => rfl
  | bl b => rfl
  | int i => rfl
  | str s => rfl
  | _ => cases f
theorem flat_toVs {ds : List D} (f : ds.all D.flat = true) : (ds.map toV).all flatV = true := by
  rw [List.all_map]
  exact List.all_eq_true.mpr fun d hd => flat_toV (List.all_eq_true.mp f d hd)
mutual
def D.py : D → PyData
  | .bl b => .bool b
  | .int i => .int i
  | .str s => .str s
  | .lst xs => .list (D.pyL xs)
  | .tup xs => .tuple (D.pyL xs)
  | .non => .none
  | .ty _ => .none
  | .dK _ => .none
  | .dT _ => .none
  | .ins _ _ => .none
  | .exn _ _ => .none
  | .pot => .none
  | .wlk _ _ _ _ => .none
def D.pyL : List D → List PyData
  | [] => []
  | d :: ds => d.py :: D.pyL ds
end
theorem pyL_eq : ∀ ds : List D, D.pyL ds = ds.map D.py
  | [] => rfl
  | d :: ds => by rw [D.pyL, List.map_cons, pyL_eq ds]
/-! only lists, tuples and flat things -/
mutual
def D.pl : D → Bool
  | .bl _ => true
  | .int _ => true
  | .str _ => true
  | .lst xs => D.plL xs
  | .tup xs => D.plL xs
  | .non => true
  | .ty _ => false
  | .dK _ => false
  | .dT _ => false
  | .ins _ _ => false
  | .exn _ _ => false
  | .pot => false
  | .wlk _ _ _ _ => false
def D.plL : List D → Bool
  | [] => true
  | d :: ds => d.pl && D.plL ds
end
section
variable {K : PySem.W.Frag} {H : Hp}
mutual
theorem Rep.dp : ∀ {v : V} {d : D}, Rep K H v d → d.pl = true → Dp K H v d.py
  | _, _, .non, _ => .non
  | _, _, .bl b, _ => .bl b
  | _, _, .int i, _ => .int i
  | _, _, .str s, _ => .str s
  | _, _, .ty n, e => by simp [D.pl] at e
  | _, _, .lst h g, e => by
    rw [D.py]
    exact .lst (SqL.of h) (RepL.dp g (by rw [D.pl] at e; exact e))
  | _, _, .tup h g, e => by
    rw [D.py]
    exact .tup (SqT.of h) (RepL.dp g (by rw [D.pl] at e; exact e))
  | _, _, .dK _ _ _, e => by simp [D.pl] at e
  | _, _, .dT _ _ _, e => by simp [D.pl] at e
  | _, _, .ins _ _ _, e => by simp [D.pl] at e
  | _, _, .exn _ _ _ _ _ _, e => by simp [D.pl] at e
theorem RepL.dp : ∀ {vs : List V} {ds : List D}, RepL K H vs ds → D.plL ds = true → DpAll K H vs (D.pyL ds)
  | _, _, .nil, _ => by
    rw [D.pyL]
    exact .nil
  | _, _, .cons h g, e => by
    rw [D.pyL]
    rw [D.plL, Bool.and_eq_true] at e
    exact .cons (Rep.dp h e.1) (RepL.dp g e.2)
end
end
/-- data that == may be asked of -/
def D.okD (d : D) : Prop := d.pl = true ∧ SeqAt.shaped d.py = true
def negB (neg b : Bool) : Bool := match neg with
  | true => !b
  | false => b
@[irreducible] def eqC (d e : D) (k : Bool → Prop) : Prop :=
  (d.flat = true ∧ e.flat = true ∧ scal (toV d) (toV e) = true ∧ k (decide (toV d = toV e))) ∨ (d.okD ∧ e.okD ∧ k (PyData.eqv d.py e.py))
def dEqG (neg : Bool) : DR2W := fun p q R => eqC p.2 q.2 fun b => R (.v true (.bl (negB neg b)))
theorem okD_pot {d : D} (h : d.okD) : d ≠ .pot := fun z => by
  subst z
  have := h.1
  simp [D.pl] at this
instance {K : PySem.W.Frag} : DR2 K (rEqG K) (dEqG false) where
  ok := fun {F σ H ρ p q x y R Q} hK E hx hy h k => by
    subst hK
    unfold dEqG eqC at h
    rcases h with ⟨f1, f2, f3, h⟩ | ⟨f1, f2, h⟩
    · rw [flat_v hx f1, flat_v hy f2]
      exact .inl ⟨f3, k _ _ H h (.refl _) (.bl _)⟩
    · exact .inr ⟨_, _, (hx.rep rh_le (okD_pot f1)).dp f1.1, (hy.rep rh_le (okD_pot f2)).dp f2.1, f1.2, f2.2, k _ _ H h (.refl _) (.bl _)⟩
instance {K : PySem.W.Frag} : DR2 K (rNeG K) (dEqG true) where
  ok := fun {F σ H ρ p q x y R Q} hK E hx hy h k => by
    subst hK
    unfold dEqG eqC at h
    rcases h with ⟨f1, f2, f3, h⟩ | ⟨f1, f2, h⟩
    · rw [flat_v hx f1, flat_v hy f2]
      exact .inl ⟨f3, k _ _ H h (.refl _) (.bl _)⟩
    · exact .inr ⟨_, _, (hx.rep rh_le (okD_pot f1)).dp f1.1, (hy.rep rh_le (okD_pot f2)).dp f2.1, f1.2, f2.2, k _ _ H h (.refl _) (.bl _)⟩
/-- the parts of a list or a tuple -/
def D.seq : D → Option (List D)
  | .lst xs => some xs
  | .tup xs => some xs
  | _ => none
theorem TopD.seq {K : PySem.W.Frag} {H Hr : Hp} {v : V} {d : D} {ds : List D} (h : TopD K H Hr v d) (e : d.seq = some ds) : ∃ a vs, v = .ref a ∧ (SqL K H a vs ∨ SqT K H a vs) ∧ RepL K Hr vs ds := by
  cases d with
  | lst xs =>
    cases e
    obtain ⟨a, vs, h1, h2, h3⟩ := h
    exact ⟨a, vs, h1, .inl (SqL.of h2), h3⟩
  | tup xs =>
    cases e
    obtain ⟨a, vs, h1, h2, h3⟩ := h
    exact ⟨a, vs, h1, .inr (SqT.of h2), h3⟩
  | _ => cases e
def inF (d : D) (ds : List D) : Bool := inV (toV d) (ds.map toV)
@[irreducible] def inC (d e : D) (k : Bool → Prop) : Prop :=
  (∃ ds, e.seq = some ds ∧ d.flat = true ∧ ds.all D.flat = true ∧ k (inF d ds)) ∨
  (∃ c z, d = .str ⟨#[c]⟩ ∧ e = .str z ∧ k (decide (c ∈ z.cps.toList))) ∨
  (∃ i j, d = .str i ∧ e = .str j ∧ k (!(Builtin.Str.occurrences j i 0 j.length 1).isEmpty)) ∨
  (∃ ds, e = .lst ds ∧ d.okD ∧ e.okD ∧ k (ds.any fun z => PyData.eqv z.py d.py))
def dInG (neg : Bool) : DR2W := fun p q R => inC p.2 q.2 fun b => R (.v true (.bl (negB neg b)))
instance {K : PySem.W.Frag} : DR2 K (rInG K) (dInG false) where
  ok := fun {F σ H ρ p q x y R Q} hK E hx hy h k => by
    subst hK
    unfold dInG inC at h
    rcases h with ⟨ds, e, f1, f2, h⟩ | ⟨c, z, e1, e2, h⟩ | ⟨c, z, e1, e2, h⟩ | ⟨ds, e, f1, f2, h⟩
    · obtain ⟨a, vs, rfl, h1, h2⟩ := hy.seq e
      rw [flat_all h2 f2] at h1
      rw [flat_v hx f1]
      exact .inl ⟨a, _, rfl, h1, flat_toV f1, flat_toVs f2, k _ _ H h (.refl _) (.bl _)⟩
    · rw [e1] at hx
      rw [e2] at hy
      exact .inr (.inl ⟨c, z, hx, hy, k _ _ H h (.refl _) (.bl _)⟩)
    · rw [e1] at hx
      rw [e2] at hy
      exact .inr (.inr (.inl ⟨c, z, hx, hy, k _ _ H h (.refl _) (.bl _)⟩))
    · have hy' := (hy.rep rh_le (okD_pot f2)).dp f2.1
      have f3 := f2.2
      rw [e, D.py] at hy' f3
      refine .inr (.inr (.inr ⟨_, _, (hx.rep rh_le (okD_pot f1)).dp f1.1, hy', f1.2, f3, ?_⟩))
      rw [pyL_eq, List.any_map]
      exact k _ _ H h (.refl _) (.bl _)
instance {K : PySem.W.Frag} : DR2 K (rNotInG K) (dInG true) where
  ok := fun {F σ H ρ p q x y R Q} hK E hx hy h k => by
    subst hK
    unfold dInG inC at h
    rcases h with ⟨ds, e, f1, f2, h⟩ | ⟨c, z, e1, e2, h⟩ | ⟨c, z, e1, e2, h⟩ | ⟨ds, e, f1, f2, h⟩
    · obtain ⟨a, vs, rfl, h1, h2⟩ := hy.seq e
      rw [flat_all h2 f2] at h1
      rw [flat_v hx f1]
      exact .inl ⟨a, _, rfl, h1, flat_toV f1, flat_toVs f2, k _ _ H h (.refl _) (.bl _)⟩
    · rw [e1] at hx
      rw [e2] at hy
      exact .inr (.inl ⟨c, z, hx, hy, k _ _ H h (.refl _) (.bl _)⟩)
    · rw [e1] at hx
      rw [e2] at hy
      exact .inr (.inr (.inl ⟨c, z, hx, hy, k _ _ H h (.refl _) (.bl _)⟩))
    · have hy' := (hy.rep rh_le (okD_pot f2)).dp f2.1
      have f3 := f2.2
      rw [e, D.py] at hy' f3
      refine .inr (.inr (.inr ⟨_, _, (hx.rep rh_le (okD_pot f1)).dp f1.1, hy', f1.2, f3, ?_⟩))
      rw [pyL_eq, List.any_map]
      exact k _ _ H h (.refl _) (.bl _)
/-! ### is None -/
def isNon : D → Bool
  | .non => true
  | _ => false
theorem isNon_v {K : PySem.W.Frag} {H Hr : Hp} {v : V} {d : D} (h : TopD K H Hr v d) : decide (v = .non) = isNon d := by
  cases d with
  | non => cases h; rfl
  | bl b => cases h; rfl
  | int i => cases h; rfl
  | str s => cases h; rfl
  | ty n => cases h; rfl
  | lst ds => obtain ⟨a, vs, rfl, _⟩ := h; rfl
  | tup ds => obtain ⟨a, vs, rfl, _⟩ := h; rfl
  | dK ds => obtain ⟨a, vs, rfl, _⟩ := h; rfl
  | dT ds => obtain ⟨a, vs, rfl, _⟩ := h; rfl
  | ins c ds => obtain ⟨a, dx, vs, rfl, _⟩ := h; rfl
  | exn c ds => obtain ⟨a, dx, vs, rfl, _⟩ := h; rfl
  | pot => obtain ⟨p, rfl, _⟩ := h; rfl
  | wlk => exact h.elim
def dIsG (neg : Bool) : DR2W := fun p q R => match q.2 with
  | .non => R (.v true (.bl (if neg then !isNon p.2 else isNon p.2)))
  | _ => False
instance {K : PySem.W.Frag} : DR2 K rIsG (dIsG false) where
  ok := fun {F σ H ρ p q x y R Q} hK E hx hy h k => by
    unfold dIsG at h
    split at h
    · rename_i e
      rw [e] at hy
      refine ⟨hy, ?_⟩
      rw [isNon_v hx]
      exact k _ _ H h (.refl _) (.bl _)
    · exact h.elim
instance {K : PySem.W.Frag} : DR2 K rNotG (dIsG true) where
  ok := fun {F σ H ρ p q x y R Q} hK E hx hy h k => by
    unfold dIsG at h
    split at h
    · rename_i e
      rw [e] at hy
      refine ⟨hy, ?_⟩
      rw [isNon_v hx]
      exact k _ _ H h (.refl _) (.bl _)
    · exact h.elim
/-! ### x[i] -/
def dIxG : DR2W := fun p q R => match p.2, q.2 with
  | .lst xs, .int i => match atI xs i with
    | some d => R (.v p.1 d)
    | none => False
  | .tup xs, .int i => match atI xs i with
    | some d => R (.v p.1 d)
    | none => False
  | .str z, .int i => z.length ≤ sizeLine ∧ match atI z.cps.toList i with
    | some c => R (.v true (.str ⟨#[c]⟩))
    | none => False
  | _, _ => False
theorem RepL.atI {K : PySem.W.Frag} {H : Hp} {vs : List V} {ds : List D} {i : Int} {d : D} (h : RepL K H vs ds) (e : atI ds i = some d) : ∃ v, L2.atI vs i = some v ∧ Rep K H v d := by
  unfold L2.atI at e ⊢
  rw [h.len]
  cases q : ixN ds.length i with
  | none =>
    rw [q] at e
    cases e
  | some j =>
    rw [q] at e
    exact h.get e
instance {K : PySem.W.Frag} : DR2 K (rIxG K) dIxG where
  ok := fun {F σ H ρ p q x y R Q} hK E hx hy h k => by
    subst hK
    unfold dIxG at h
    split at h
    · rename_i xs i hp hq
      rw [hp] at hx
      rw [hq] at hy
      obtain ⟨a, vs, rfl, h1, h2⟩ := hx
      split at h
      · rename_i d hd
        obtain ⟨v, h3, h4⟩ := h2.atI hd
        exact .inl ⟨a, vs, i, v, rfl, hy, SqL.of h1, h3, k _ _ H h (.refl _) h4⟩
      · exact h.elim
    · rename_i xs i hp hq
      rw [hp] at hx
      rw [hq] at hy
      obtain ⟨a, vs, rfl, h1, h2⟩ := hx
      split at h
      · rename_i d hd
        obtain ⟨v, h3, h4⟩ := h2.atI hd
        exact .inr (.inl ⟨a, vs, i, v, rfl, hy, SqT.of h1, h3, k _ _ H h (.refl _) h4⟩)
      · exact h.elim
    · rename_i z i hp hq
      rw [hp] at hx
      rw [hq] at hy
      obtain ⟨hz, h⟩ := h
      split at h
      · rename_i c hc
        exact .inr (.inr ⟨z, i, c, hx, hy, hz, hc, k _ _ H h (.refl _) (.str _)⟩)
      · exact h.elim
    · exact h.elim
end PW

namespace PW
open PySem PySem.Spec PyProof.Rows L2
theorem tops1 {K : PySem.W.Frag} {F : Fr} {O : Addr → Prop} {H : Hp} {xs : List V} {p : Bool × D} (h : Tops K F O H xs [p]) : ∃ v, xs = [v] ∧ TopD K H (F.RH O H p.1) v p.2 := by
  cases h with
  | cons h g =>
    cases g
    exact ⟨_, rfl, h⟩
theorem tops2 {K : PySem.W.Frag} {F : Fr} {O : Addr → Prop} {H : Hp} {xs : List V} {p q : Bool × D} (h : Tops K F O H xs [p, q]) : ∃ v u, xs = [v, u] ∧ TopD K H (F.RH O H p.1) v p.2 ∧ TopD K H (F.RH O H q.1) u q.2 := by
  cases h with
  | cons h g =>
    obtain ⟨u, rfl, h2⟩ := tops1 g
    exact ⟨_, u, rfl, h, h2⟩
/-! ### calls of built-ins -/
def dLenG : DR1W := fun ps R => match ps with
  | [(_, .lst xs)] => R (.v true (.int (xs.length : Nat)))
  | [(_, .tup xs)] => R (.v true (.int (xs.length : Nat)))
  | [(_, .str z)] => z.length ≤ sizeLine ∧ R (.v true (.int (z.length : Nat)))
  | [(_, .dK es)] => R (.v true (.int (es.length : Nat)))
  | _ => False
instance {K : PySem.W.Frag} : DR1 K (rLenG K) dLenG where
  ok := fun {F σ H ρ ps xs R Q} hK E ht h k => by
    unfold dLenG at h
    split at h
    · obtain ⟨v, rfl, a, vs, rfl, h1, h2⟩ := tops1 ht
      exact .inl ⟨_, _, rfl, .inl ⟨vs, SqL.of h1, rfl⟩, by rw [h2.len]; exact k _ _ H h (.refl _) (.int _)⟩
    · obtain ⟨v, rfl, a, vs, rfl, h1, h2⟩ := tops1 ht
      exact .inl ⟨_, _, rfl, .inr ⟨vs, SqT.of h1, rfl⟩, by rw [h2.len]; exact k _ _ H h (.refl _) (.int _)⟩
    · obtain ⟨v, rfl, h1⟩ := tops1 ht
      have h1 : v = .str _ := h1
      subst h1
      exact .inl ⟨_, _, rfl, ⟨h.1, rfl⟩, k _ _ H h.2 (.refl _) (.int _)⟩
    · obtain ⟨v, rfl, a, kvs, rfl, h1, h2, h3⟩ := tops1 ht
      have hl := congrArg List.length h2
      rw [List.length_map, List.length_map] at hl
      exact .inr ⟨a, kvs, rfl, h1, by rw [hl]; exact k _ _ H h (.refl _) (.int _)⟩
    · exact h.elim
def dMax2 : DR1W := fun ps R => match ps with
  | [(_, .int i), (_, .int j)] => R (.v true (.int (if j > i then j else i)))
  | _ => False
def dMin2 : DR1W := fun ps R => match ps with
  | [(_, .int i), (_, .int j)] => R (.v true (.int (if j < i then j else i)))
  | _ => False
def dInt1 : DR1W := fun ps R => match ps with
  | [(_, .int i)] => R (.v true (.int i))
  | [(_, .bl b)] => R (.v true (.int (if b then 1 else 0)))
  | _ => False
instance {K : PySem.W.Frag} : DR1 K rMax2 dMax2 where
  ok := fun {F σ H ρ ps xs R Q} hK E ht h k => by
    unfold dMax2 at h
    split at h
    · obtain ⟨v, u, rfl, h1, h2⟩ := tops2 ht
      cases (show v = .int _ from h1)
      cases (show u = .int _ from h2)
      exact ⟨_, _, rfl, k _ _ H h (.refl _) (.int _)⟩
    · exact h.elim
instance {K : PySem.W.Frag} : DR1 K rMin2 dMin2 where
  ok := fun {F σ H ρ ps xs R Q} hK E ht h k => by
    unfold dMin2 at h
    split at h
    · obtain ⟨v, u, rfl, h1, h2⟩ := tops2 ht
      cases (show v = .int _ from h1)
      cases (show u = .int _ from h2)
      exact ⟨_, _, rfl, k _ _ H h (.refl _) (.int _)⟩
    · exact h.elim
instance {K : PySem.W.Frag} : DR1 K rInt1 dInt1 where
  ok := fun {F σ H ρ ps xs R Q} hK E ht h k => by
    unfold dInt1 at h
    split at h
    · obtain ⟨v, rfl, h1⟩ := tops1 ht
      cases (show v = .int _ from h1)
      exact .inl ⟨_, rfl, k _ _ H h (.refl _) (.int _)⟩
    · obtain ⟨v, rfl, h1⟩ := tops1 ht
      cases (show v = .bl _ from h1)
      exact .inr ⟨_, rfl, k _ _ H h (.refl _) (.int _)⟩
    · exact h.elim
/-! list(x), tuple(x) -/
def keyD : Key → D
  | .inl i => .int i
  | .inr s => .str s
theorem keys_rep {K : PySem.W.Frag} {H : Hp} {α β : Type} : ∀ {kvs : List (Key × α)} {es : List (Key × β)}, kvs.map (·.1) = es.map (·.1) → RepL K H (kvs.map fun kv => kV kv.1) (es.map fun kv => keyD kv.1)
  | [], [], _ => .nil
  | [], _ :: _, h => by cases h
  | _ :: _, [], h => by cases h
  | (k, _) :: kvs, (k', _) :: es, h => by
    simp only [List.map_cons, List.cons.injEq] at h ⊢
    obtain ⟨rfl, h⟩ := h
    refine .cons ?_ (keys_rep h)
    cases k with
    | inl i => exact .int i
    | inr s => exact .str s
def dListG : DR1W := fun ps R => match ps with
  | [(r, .lst xs)] => R (.fr (reg (r, .lst xs)) (.lst xs))
  | [(r, .tup xs)] => R (.fr (reg (r, .tup xs)) (.lst xs))
  | [(_, .dK es)] => R (.fr true (.lst (es.map fun kv => keyD kv.1)))
  | _ => False
instance {K : PySem.W.Frag} : DR1 K (rListG K) dListG where
  ok := fun {F σ H ρ ps xs R Q} hK E ht h k => by
    subst hK
    unfold dListG at h
    split at h
    · obtain ⟨v, rfl, h0⟩ := tops1 ht
      obtain ⟨a, vs, rfl, h1, h2⟩ := h0.lst rfl
      exact .inl ⟨a, vs, rfl, .inl (SqL.of h1), fun c hc => k _ _ _ h (same_new hc) (fresh_of E hc rfl ⟨_, rfl, h2⟩)⟩
    · obtain ⟨v, rfl, h0⟩ := tops1 ht
      obtain ⟨a, vs, rfl, h1, h2⟩ := h0.tup rfl
      exact .inl ⟨a, vs, rfl, .inr (SqT.of h1), fun c hc => k _ _ _ h (same_new hc) (fresh_of E hc rfl ⟨_, rfl, h2⟩)⟩
    · obtain ⟨v, rfl, a, kvs, rfl, h1, h2, h3⟩ := tops1 ht
      exact .inr ⟨a, kvs, rfl, h1, fun c hc => k _ _ _ h (same_new hc) (fresh_of E hc rfl ⟨_, rfl, keys_rep h2⟩)⟩
    · exact h.elim
def dTupG : DR1W := fun ps R => match ps with
  | [(r, .lst xs)] => R (.v (reg (r, .lst xs)) (.tup xs))
  | [(r, .tup xs)] => R (.v (reg (r, .tup xs)) (.tup xs))
  | _ => False
instance {K : PySem.W.Frag} : DR1 K (rTupK K) dTupG where
  ok := fun {F σ H ρ ps xs R Q} hK E ht h k => by
    subst hK
    unfold dTupG at h
    split at h
    · obtain ⟨v, rfl, h0⟩ := tops1 ht
      obtain ⟨a, vs, rfl, h1, h2⟩ := h0.lst rfl
      refine ⟨a, vs, rfl, .inl ⟨SqL.of h1, fun c hc => k _ _ _ h (same_new hc) (.tup (cut_tup upd_same) (h2.mono (E.rh (.same (same_new hc)))))⟩⟩
    · obtain ⟨v, rfl, h0⟩ := tops1 ht
      obtain ⟨a, vs, rfl, h1, h2⟩ := h0.tup rfl
      exact ⟨a, vs, rfl, .inr ⟨SqT.of h1, k _ _ H h (.refl _) (.tup (cut_tup h1) h2)⟩⟩
    · exact h.elim
/-! all, any, sum, max, min of lists -/
def boolsD : List D → Option (List Bool)
  | [] => some []
  | .bl b :: ds => (boolsD ds).map (b :: ·)
  | _ => none
def intsD : List D → Option (List Int)
  | [] => some []
  | .int b :: ds => (intsD ds).map (b :: ·)
  | _ => none
theorem bools_v {K : PySem.W.Frag} {H : Hp} : ∀ {vs : List V} {ds : List D} {bs : List Bool}, RepL K H vs ds → boolsD ds = some bs → vs = bs.map V.bl
  | _, _, _, .nil, e => by cases e; rfl
  | _, _, _, .cons (d := d) h g, e => by
    cases d with
    | bl b =>
      simp only [boolsD, Option.map_eq_some_iff] at e
      obtain ⟨bs, e, rfl⟩ := e
      rw [bools_v g e]
      cases h
      rfl
    | _ => cases e
theorem ints_v {K : PySem.W.Frag} {H : Hp} : ∀ {vs : List V} {ds : List D} {bs : List Int}, RepL K H vs ds → intsD ds = some bs → vs = bs.map V.int
  | _, _, _, .nil, e => by cases e; rfl
  | _, _, _, .cons (d := d) h g, e => by
    cases d with
    | int b =>
      simp only [intsD, Option.map_eq_some_iff] at e
      obtain ⟨bs, e, rfl⟩ := e
      rw [ints_v g e]
      cases h
      rfl
    | _ => cases e
def dAll : DR1W := fun ps R => match ps with
  | [(_, .lst ds)] => ∃ bs, boolsD ds = some bs ∧ R (.v true (.bl (bs.all id)))
  | _ => False
def dAny : DR1W := fun ps R => match ps with
  | [(_, .lst ds)] => ∃ bs, boolsD ds = some bs ∧ R (.v true (.bl (bs.any id)))
  | _ => False
def dSum : DR1W := fun ps R => match ps with
  | [(_, .lst ds)] => ∃ bs, intsD ds = some bs ∧ R (.v true (.int bs.sum))
  | _ => False
def dMaxL : DR1W := fun ps R => match ps with
  | [(_, .lst ds)] => ∃ bs, intsD ds = some bs ∧ 0 < bs.length ∧ ∀ m, m ∈ bs → (∀ y, y ∈ bs → y ≤ m) → R (.v true (.int m))
  | _ => False
def dMinL : DR1W := fun ps R => match ps with
  | [(_, .lst ds)] => ∃ bs, intsD ds = some bs ∧ 0 < bs.length ∧ ∀ m, m ∈ bs → (∀ y, y ∈ bs → m ≤ y) → R (.v true (.int m))
  | _ => False
instance {K : PySem.W.Frag} : DR1 K (rAll K) dAll where
  ok := fun {F σ H ρ ps xs R Q} hK E ht h k => by
    unfold dAll at h
    split at h
    · obtain ⟨bs, hb, h⟩ := h
      obtain ⟨v, rfl, a, vs, rfl, h1, h2⟩ := tops1 ht
      rw [bools_v h2 hb] at h1
      exact ⟨a, bs, rfl, SqL.of h1, k _ _ H h (.refl _) (.bl _)⟩
    · exact h.elim
instance {K : PySem.W.Frag} : DR1 K (rAny K) dAny where
  ok := fun {F σ H ρ ps xs R Q} hK E ht h k => by
    unfold dAny at h
    split at h
    · obtain ⟨bs, hb, h⟩ := h
      obtain ⟨v, rfl, a, vs, rfl, h1, h2⟩ := tops1 ht
      rw [bools_v h2 hb] at h1
      exact ⟨a, bs, rfl, SqL.of h1, k _ _ H h (.refl _) (.bl _)⟩
    · exact h.elim
instance {K : PySem.W.Frag} : DR1 K (rSum K) dSum where
  ok := fun {F σ H ρ ps xs R Q} hK E ht h k => by
    unfold dSum at h
    split at h
    · obtain ⟨bs, hb, h⟩ := h
      obtain ⟨v, rfl, a, vs, rfl, h1, h2⟩ := tops1 ht
      rw [ints_v h2 hb] at h1
      exact ⟨a, bs, rfl, SqL.of h1, k _ _ H h (.refl _) (.int _)⟩
    · exact h.elim
instance {K : PySem.W.Frag} : DR1 K (rMax K) dMaxL where
  ok := fun {F σ H ρ ps xs R Q} hK E ht h k => by
    unfold dMaxL at h
    split at h
    · obtain ⟨bs, hb, hl, h⟩ := h
      obtain ⟨v, rfl, a, vs, rfl, h1, h2⟩ := tops1 ht
      rw [ints_v h2 hb] at h1
      exact ⟨a, bs, rfl, SqL.of h1, hl, fun m g1 g2 => k _ _ H (h m g1 g2) (.refl _) (.int _)⟩
    · exact h.elim
instance {K : PySem.W.Frag} : DR1 K (rMin K) dMinL where
  ok := fun {F σ H ρ ps xs R Q} hK E ht h k => by
    unfold dMinL at h
    split at h
    · obtain ⟨bs, hb, hl, h⟩ := h
      obtain ⟨v, rfl, a, vs, rfl, h1, h2⟩ := tops1 ht
      rw [ints_v h2 hb] at h1
      exact ⟨a, bs, rfl, SqL.of h1, hl, fun m g1 g2 => k _ _ H (h m g1 g2) (.refl _) (.int _)⟩
    · exact h.elim
/-! isinstance -/
def tyN : D → Option String
  | .non => some "NoneType"
  | .bl _ => some "bool"
  | .int _ => some "int"
  | .str _ => some "str"
  | .lst _ => some "list"
  | .tup _ => some "tuple"
  | .dK _ => some "dict"
  | .dT _ => some "dict"
  | _ => none
theorem tyN_ty {K : PySem.W.Frag} {H Hr : Hp} {v : V} {d : D} {n : String} (h : TopD K H Hr v d) (e : tyN d = some n) (nf : ∀ es, d ≠ .dT es) : TyX K H v (.type n) := by
  cases d with
  | non => cases h; cases e; exact .base .non
  | bl b => cases h; cases e; exact .base (.bl _)
  | int i => cases h; cases e; exact .base (.int _)
  | str s => cases h; cases e; exact .base (.str _)
  | lst ds => obtain ⟨a, vs, rfl, h1, _⟩ := h; cases e; exact .base (.lst h1)
  | tup ds => obtain ⟨a, vs, rfl, h1, _⟩ := h; cases e; exact .base (.tup h1)
  | dK ds =>
    obtain ⟨a, vs, rfl, h1, _⟩ := h
    cases e
    rcases h1 with h1 | ⟨o, h1⟩
    · exact .base (.dK h1)
    · exact .fDict h1
  | dT ds => exact absurd rfl (nf ds)
  | _ => cases e
def isiN (a b : String) : Bool := a == b || (a == "bool" && b == "int")
def known (b : String) : Bool := b == "int" || b == "bool" || b == "str" || b == "list" || b == "tuple" || b == "dict"
theorem isiN_ok {d : D} {a b : String} (h : tyN d = some a) (k : known b = true) : kitB a b = some (isiN a b) := by
  have hb : b = "int" ∨ b = "bool" ∨ b = "str" ∨ b = "list" ∨ b = "tuple" ∨ b = "dict" := by
    simpa [known, or_assoc] using k
  have ha : a = "NoneType" ∨ a = "bool" ∨ a = "int" ∨ a = "str" ∨ a = "list" ∨ a = "tuple" ∨ a = "dict" := by
    cases d <;> simp [tyN] at h <;> subst h <;> simp
  rcases ha with rfl | rfl | rfl | rfl | rfl | rfl | rfl <;> rcases hb with rfl | rfl | rfl | rfl | rfl | rfl <;> decide +kernel
def tysD : List D → Option (List String)
  | [] => some []
  | .ty b :: ds => (tysD ds).map (b :: ·)
  | _ => none
def notT : D → Bool
  | _ => true
def dIsi : DR1W := fun ps R => match ps with
  | [(_, d), (_, .ty n)] => ∃ a, tyN d = some a ∧ notT d = true ∧ known n = true ∧ R (.v true (.bl (isiN a n)))
  | _ => False
def dIsiT : DR1W := fun ps R => match ps with
  | [(_, d), (_, .tup ts)] => ∃ a ns, tyN d = some a ∧ notT d = true ∧ tysD ts = some ns ∧ ns.all known = true ∧ R (.v true (.bl (ns.any (isiN a))))
  | _ => False
instance {K : PySem.W.Frag} : DR1 K (rIsiY K) dIsi where
  ok := fun {F σ H ρ ps xs R Q} hK E ht h k => by
    unfold dIsi at h
    split at h
    · rename_i r1 d r2 n
      obtain ⟨a, h1, h2, h3, h⟩ := h
      obtain ⟨v, u, rfl, g1, g2⟩ := tops2 ht
      cases (show u = .ty _ from g2)
      by_cases dt : ∃ es, d = .dT es
      · obtain ⟨es, rfl⟩ := dt
        obtain ⟨b, kvs, rfl, z, _⟩ := g1
        have kk := kit_ty (K := F.K) (isiN_ok h1 h3)
        cases h1
        rcases z with z | ⟨o, z⟩
        · exact .inl ⟨_, _, _, _, _, rfl, .ty _, .base (.dT z), kk, k _ _ H h (.refl _) (.bl _)⟩
        · exact .inr ⟨b, o, kvs, _, _, _, rfl, .ty _, z, kk, k _ _ H h (.refl _) (.bl _)⟩
      · exact .inl ⟨v, _, _, _, _, rfl, .ty _, tyN_ty g1 h1 (fun es z => dt ⟨es, z⟩), kit_ty (isiN_ok h1 h3), k _ _ H h (.refl _) (.bl _)⟩
    · exact h.elim
theorem tys_v {K : PySem.W.Frag} {H : Hp} : ∀ {vs : List V} {ds : List D} {bs : List String}, RepL K H vs ds → tysD ds = some bs → Paired ClsV vs (bs.map Value.type)
  | _, _, _, .nil, e => by cases e; exact .nil
  | _, _, _, .cons (d := d) h g, e => by
    cases d with
    | ty b =>
      simp only [tysD, Option.map_eq_some_iff] at e
      obtain ⟨bs, e, rfl⟩ := e
      cases h
      exact .cons (.ty _) (tys_v g e)
    | _ => cases e
theorem kitAny_of {K : PySem.W.Frag} {d : D} {a : String} (h : tyN d = some a) : ∀ {ns : List String}, ns.all known = true → PySem.W.kitAny K (.type a) (ns.map Value.type) = some (ns.any (isiN a))
  | [], _ => rfl
  | n :: ns, e => by
    rw [List.all_cons, Bool.and_eq_true] at e
    rw [List.map_cons, List.any_cons]
    refine kitAny_cons (b := isiN a n) (kit_ty (isiN_ok h e.1)) (fun z => ?_) fun z => ?_
    · rw [z, Bool.false_or]
      exact kitAny_of h e.2
    · rw [z, Bool.true_or]
instance {K : PySem.W.Frag} : DR1 K (rIsiTY K) dIsiT where
  ok := fun {F σ H ρ ps xs R Q} hK E ht h k => by
    unfold dIsiT at h
    split at h
    · rename_i r1 d r2 ts
      obtain ⟨a, ns, h1, h2, h3, h4, h⟩ := h
      obtain ⟨v, u, rfl, g1, b, cs, rfl, g2, g3⟩ := tops2 ht
      by_cases dt : ∃ es, d = .dT es
      · obtain ⟨es, rfl⟩ := dt
        obtain ⟨a', kvs, rfl, z, _⟩ := g1
        have kk := kitAny_of (K := K) h1 h4
        cases h1
        rcases z with z | ⟨o, z⟩
        · exact .inl ⟨_, b, cs, _, _, _, rfl, g2, tys_v g3 h3, .base (.dT z), kk, k _ _ H h (.refl _) (.bl _)⟩
        · exact .inr ⟨a', o, kvs, b, cs, _, _, rfl, g2, tys_v g3 h3, z, kk, k _ _ H h (.refl _) (.bl _)⟩
      · exact .inl ⟨v, b, cs, _, _, _, rfl, g2, tys_v g3 h3, tyN_ty g1 h1 (fun es z => dt ⟨es, z⟩), kitAny_of h1 h4, k _ _ H h (.refl _) (.bl _)⟩
    · exact h.elim
/-! ### one thing: -x, o.f, slices -/
section
variable {K : PySem.W.Frag} {W : WXT}
def dUn (g : Int → V) (w : DW) : DW := fun X ρ R => w X ρ fun x ρ1 => match rd ρ1 x with
  | some (_, .int i) => match flatD (g i) with
    | some d => R (.v true d) ρ1
    | none => False
  | _ => False
instance {g : Int → V} {t : TE} {w : DW} [A : DE K W t w] : DE K W (tUn (rU g) t) (dUn g w) where
  ok := fun {F σ H ρ X R Q} hK E L h q => by
    refine A.ok hK E L h fun x ρ1 v H1 h1 E1 s1 r1 => ?_
    split at h1
    · rename_i r i e
      have : v = .int i := r1.top E1 e
      split at h1
      · rename_i d hd
        exact ⟨i, this, q _ ρ1 _ H1 h1 E1 s1 (flatD_rep (K := F.K) hd)⟩
      · exact h1.elim
    · exact h1.elim
def lookF (f : Str) : List (Str × D) → Option D := fun fs => fs.lookup f
theorem look_rep {K : PySem.W.Frag} {H : Hp} {f : Str} {d : D} : ∀ {fs : List (Str × V)} {es : List (Str × D)}, fs.map (·.1) = es.map (·.1) → RepL K H (fs.map (·.2)) (es.map (·.2)) → es.lookup f = some d → ∃ v, fs.lookup f = some v ∧ Rep K H v d
  | [], [], _, _, e => by cases e
  | [], _ :: _, h, _, _ => by cases h
  | _ :: _, [], h, _, _ => by cases h
  | (k, v) :: fs, (k', d') :: es, h, g, e => by
    simp only [List.map_cons, List.cons.injEq] at h g
    obtain ⟨rfl, h⟩ := h
    cases g with
    | cons g1 g2 =>
      rw [List.lookup_cons] at e ⊢
      by_cases z : (f == k) = true
      · rw [z] at e ⊢
        cases e
        exact ⟨v, rfl, g1⟩
      · rw [Bool.eq_false_iff.mpr z] at e ⊢
        exact look_rep h g2 e
/-- what an own class gives of itself -/
structure ClsOk (K : PySem.W.Frag) (c f : Str) : Prop where
  cl : Cls K (He.ga K c)
  na : NoAttr K (He.ga K c) f
def dFld (K : PySem.W.Frag) (f : Str) (w : DW) : DW := fun X ρ R => w X ρ fun x ρ1 => match rd ρ1 x with
  | some (r, .ins c fs) => ClsOk K c f ∧ match fs.lookup f with
    | some d => R (.v r d) ρ1
    | none => False
  | _ => False
instance {f : Str} {t : TE} {w : DW} [A : DE K W t w] : DE K W (tFld K t f) (dFld K f w) where
  ok := fun {F σ H ρ X R Q} hK E L h q => by
    subst hK
    refine A.ok rfl E L h fun x ρ1 v H1 h1 E1 s1 r1 => ?_
    split at h1
    · rename_i r c fs e
      obtain ⟨a, dx, fvs, rfl, g1, g2, g3⟩ := r1.top E1 e
      obtain ⟨hc, h1⟩ := h1
      split at h1
      · rename_i d hd
        obtain ⟨u, g4, g5⟩ := look_rep g2 g3 hd
        exact ⟨a, _, dx, fvs, u, rfl, g1, hc.cl, hc.na, g4, q _ ρ1 _ H1 h1 E1 s1 g5⟩
      · exact h1.elim
    · exact h1.elim
end
class DO (K : PySem.W.Frag) (W : WXT) (t : TO) (w : outParam (XC → DEnv → (Option Int → DEnv → Prop) → Prop)) : Prop where
  ok : ∀ {F : Fr} {σ : L2.St} {H : Hp} {ρ : DEnv} {X : XC} {R : Option Int → DEnv → Prop} {Q : Option Int → Hp → Prop}, F.K = K → Env F σ ρ H → XLink F W X σ ρ H → w X ρ R →
    (∀ b ρ' H', R b ρ' → Env F σ ρ' H' → Stp (OwnA σ ρ) H (OwnA σ ρ') H' → Q b H') → t σ H Q
def dNoPart : XC → DEnv → (Option Int → DEnv → Prop) → Prop := fun _ ρ R => R none ρ
def dPart (w : DW) : XC → DEnv → (Option Int → DEnv → Prop) → Prop := fun X ρ R => w X ρ fun x ρ1 => match rd ρ1 x with
  | some (_, .int i) => R (some i) ρ1
  | _ => False
abbrev DSlW := Bool × D → Option Int → Option Int → (DV → Prop) → Prop
class DSl (K : PySem.W.Frag) (r : V → Option Int → Option Int → Hp → VK → Prop) (w : outParam DSlW) : Prop where
  ok : ∀ {F : Fr} {σ : L2.St} {H : Hp} {ρ : DEnv} {p : Bool × D} {x : V} {lo hi : Option Int} {R : DV → Prop} {Q : VK}, F.K = K → Env F σ ρ H → TopD K H (F.RH (OwnA σ ρ) H p.1) x p.2 → w p lo hi R →
    (∀ dv v H', R dv → Same H H' → RepV F H σ ρ H' v dv → Q v H') → r x lo hi H Q
def cutD {α : Type} (xs : List α) (lo hi : Option Int) : List α := (xs.drop (HT.sIx xs.length 0 lo)).take (HT.sIx xs.length xs.length hi - HT.sIx xs.length 0 lo)
section
variable {K : PySem.W.Frag} {W : WXT}
instance : DO K W tNoPart dNoPart where
  ok := fun {F σ H ρ X R Q} hK E L h q => q none ρ H h E (.refl _ _)
instance {t : TE} {w : DW} [A : DE K W t w] : DO K W (tPart t) (dPart w) where
  ok := fun {F σ H ρ X R Q} hK E L h q => by
    refine A.ok hK E L h fun x ρ1 v H1 h1 E1 s1 r1 => ?_
    split at h1
    · rename_i r i e
      have : v = .int i := r1.top E1 e
      exact ⟨i, this, q _ ρ1 H1 h1 E1 s1⟩
    · exact h1.elim
def dSl (w : DSlW) (wo : DW) (wl wh : XC → DEnv → (Option Int → DEnv → Prop) → Prop) : DW := fun X ρ R => wo X ρ fun x ρ1 => wl X ρ1 fun l ρ2 => wh X ρ2 fun u ρ3 => match rd ρ3 x with
  | some p => w p l u fun z => R z ρ3
  | none => False
instance {r : V → Option Int → Option Int → Hp → VK → Prop} {w : DSlW} {t : TE} {tl th : TO} {wo : DW} {wl wh : XC → DEnv → (Option Int → DEnv → Prop) → Prop} [A : DE K W t wo] [B : DO K W tl wl] [C : DO K W th wh] [S : DSl K r w] : DE K W (tSl r t tl th) (dSl w wo wl wh) where
  ok := fun {F σ H ρ X R Q} hK E L h q => by
    refine A.ok hK E L h fun x ρ1 v H1 h1 E1 s1 r1 => ?_
    refine B.ok hK E1 (L.stp s1) h1 fun l ρ2 H2 h2 E2 s2 => ?_
    refine C.ok hK E2 (L.stp (s1.trans s2)) h2 fun u ρ3 H3 h3 E3 s3 => ?_
    have r1' : RepV F H σ ρ3 H3 v x.tmp := r1.stp E1 (s2.trans s3)
    split at h3
    · rename_i p hp
      subst hK
      refine S.ok rfl E3 (r1'.top E3 (by rw [rd_tmp]; exact hp)) h3 fun dv z H4 h4 s4 r4 => ?_
      exact q dv ρ3 z H4 h4 (E3.grow s4) (((s1.trans s2).trans s3).trans (.same s4)) (r4.early ((s1.trans s2).trans s3))
    · exact h3.elim
def dSlL : DSlW := fun p lo hi R => match p.2 with
  | .lst xs => R (.fr (reg p) (.lst (cutD xs lo hi)))
  | _ => False
theorem RepL.cutD {K : PySem.W.Frag} {H : Hp} {vs : List V} {ds : List D} (h : RepL K H vs ds) (lo hi : Option Int) : RepL K H (cutV vs lo hi) (PW.cutD ds lo hi) := by
  unfold cutV PW.cutD
  rw [h.len]
  exact (h.drop _).take _
instance : DSl K (rSlL K) dSlL where
  ok := fun {F σ H ρ p x lo hi R Q} hK E hx h k => by
    subst hK
    unfold dSlL at h
    split at h
    · rename_i xs hp
      obtain ⟨a, vs, rfl, h1, h2⟩ := hx.lst hp
      exact ⟨a, vs, rfl, SqL.of h1, fun c hc => k _ _ _ h (same_new hc) (fresh_of E hc rfl ⟨_, rfl, h2.cutD lo hi⟩)⟩
    · exact h.elim
def dSlS : DSlW := fun p lo hi R => match p.2 with
  | .str z => z.length ≤ sizeLine ∧ R (.v true (.str (cutS z lo hi)))
  | _ => False
instance : DSl K rSlS dSlS where
  ok := fun {F σ H ρ p x lo hi R Q} hK E hx h k => by
    unfold dSlS at h
    split at h
    · rename_i z hp
      rw [hp] at hx
      exact ⟨z, hx, h.1, k _ _ H h.2 (.refl _) (.str _)⟩
    · exact h.elim
def dRev (w : DW) : DW := fun X ρ R => w X ρ fun x ρ1 => match rd ρ1 x with
  | some (r, .lst xs) => R (.fr (reg (r, .lst xs)) (.lst xs.reverse)) ρ1
  | _ => False
instance {t : TE} {w : DW} [A : DE K W t w] : DE K W (tRevL K t) (dRev w) where
  ok := fun {F σ H ρ X R Q} hK E L h q => by
    subst hK
    refine A.ok rfl E L h fun x ρ1 v H1 h1 E1 s1 r1 => ?_
    split at h1
    · rename_i r xs e
      obtain ⟨a, vs, rfl, g1, g2⟩ := (r1.top E1 e).lst (p := (r, .lst xs)) rfl
      refine ⟨a, vs, rfl, SqL.of g1, fun c hc => ?_⟩
      exact q _ ρ1 _ _ h1 (E1.grow (same_new hc)) (s1.trans (.same (same_new hc))) (RepV.early (fresh_of (d := .lst xs.reverse) E1 hc rfl ⟨_, rfl, g2.rev⟩) s1)
    · exact h1.elim
end
end PW

namespace PW
open PySem PySem.Spec PyProof.Rows L2
/-! ### methods of lists -/
abbrev DMW := DV → List DV → DEnv → (DV → DEnv → Prop) → Prop
class DM (K : PySem.W.Frag) (r : V → List V → Hp → VK → Prop) (w : outParam DMW) : Prop where
  ok : ∀ {F : Fr} {Hs : Hp} {σ : L2.St} {H : Hp} {ρ : DEnv} {x : V} {ys : List V} {dx : DV} {dys : List DV} {R : DV → DEnv → Prop} {Q : VK}, F.K = K → Env F σ ρ H → RepV F Hs σ ρ H x dx → Paired (fun v dv => RepV F Hs σ ρ H v dv ∧ dv.tmp = dv) ys dys → w dx dys ρ R →
    (∀ dv ρ' v H', R dv ρ' → Env F σ ρ' H' → Stp (OwnA σ ρ) H (OwnA σ ρ') H' → RepV F H σ ρ' H' v dv → Q v H') → r x ys H Q
def tyD (T : String) : Option (Bool × D) → Prop
  | some (_, .lst _) => T = "list"
  | some (_, .str _) => T = "str"
  | some (_, .dK _) => T = "dict"
  | _ => False
def exactD : DEnv → DV → Bool
  | _, .v _ (.dK _) => false
  | _, _ => true
def dBM (T : String) (wm : DMW) (wo : DW) (u : DAW) : DW := fun X ρ R => wo X ρ fun x ρ1 => T = "list" ∧ tyD T (rd ρ1 x) ∧ u X ρ1 fun ys ρ2 => wm x.tmp (ys.map DV.tmp) ρ2 R
def dBM0 (T : String) (wm : DMW) (wo : DW) : DW := fun X ρ R => wo X ρ fun x ρ1 => T = "list" ∧ tyD T (rd ρ1 x) ∧ wm x.tmp [] ρ1 R
section
variable {K : PySem.W.Frag} {W : WXT}
theorem tyD_v {F : Fr} {Hs : Hp} {σ : L2.St} {ρ : DEnv} {H : Hp} {v : V} {dv : DV} (E : Env F σ ρ H) (h : RepV F Hs σ ρ H v dv) (e : tyD "list" (rd ρ dv)) : tyV F.K "list" v H := by
  unfold tyD at e
  split at e
  · rename_i r ds q
    obtain ⟨a, vs, rfl, h1, _⟩ := h.top E q
    exact .inl ⟨rfl, vs, SqL.of h1⟩
  · exact absurd e (by decide)
  · exact absurd e (by decide)
  · exact e.elim
instance {T : String} {r : V → List V → Hp → VK → Prop} {wm : DMW} {to : TE} {wo : DW} {t : TA} {u : DAW} [A : DE K W to wo] [B : DA K W t u] [C : DM K r wm] : DE K W (tBM K T r to t) (dBM T wm wo u) where
  ok := fun {F σ H ρ X R Q} hK E L h q => by
    subst hK
    refine A.ok rfl E L h fun x ρ1 v H1 h1 E1 s1 r1 => ?_
    obtain ⟨rfl, h1, h2⟩ := h1
    refine ⟨tyD_v E1 r1 h1, ?_⟩
    refine B.ok rfl E1 (L.stp s1) h2 fun ys ρ2 vs H2 h3 E2 s2 r2 => ?_
    exact C.ok rfl E2 (r1.stp E1 s2) (dCons_tmp r2) h3 fun dv ρ3 z H3 h4 E3 s3 r3 => q dv ρ3 z H3 h4 E3 ((s1.trans s2).trans s3) (r3.early (s1.trans s2))
instance {T : String} {r : V → List V → Hp → VK → Prop} {wm : DMW} {to : TE} {wo : DW} [A : DE K W to wo] [C : DM K r wm] : DE K W (tBM0 K T r to) (dBM0 T wm wo) where
  ok := fun {F σ H ρ X R Q} hK E L h q => by
    subst hK
    refine A.ok rfl E L h fun x ρ1 v H1 h1 E1 s1 r1 => ?_
    obtain ⟨rfl, h1, h2⟩ := h1
    refine ⟨tyD_v E1 r1 h1, ?_⟩
    exact C.ok (Hs := H) rfl E1 (r1.stp E1 (.refl _ _)) .nil h2 fun dv ρ3 z H3 h4 E3 s3 r3 => q dv ρ3 z H3 h4 E3 (s1.trans s3) (r3.early s1)
/-- the list of a slot's own, changed -/
def onList (x : DV) (ρ : DEnv) (k : Nat → Bool → List D → Prop) : Prop := match x with
  | .al i => match ρ[i]? with
    | some (some (.ow r (.lst ds))) => k i r ds
    | _ => False
  | _ => False
theorem onList_at {F : Fr} {Hs : Hp} {σ : L2.St} {ρ : DEnv} {H : Hp} {v : V} {dv : DV} {k : Nat → Bool → List D → Prop} (E : Env F σ ρ H) (h : RepV F Hs σ ρ H v dv) (e : onList dv ρ k) :
    ∃ i r ds a vs, k i r ds ∧ ρ[i]? = some (some (.ow r (.lst ds))) ∧ v = .ref a ∧ σ[i]? = some (some (.ref a)) ∧ H a = some (.lst vs) ∧ RepL F.K (F.RH (OwnA σ ρ) H r) vs ds := by
  unfold onList at e
  split at e
  · rename_i i
    split at e
    · rename_i r ds hi
      obtain ⟨a, h1, ⟨vs, h2, h3⟩, _⟩ := E.ow i r _ hi
      rw [show σ[i]? = some (some v) from h] at h1
      cases h1
      exact ⟨i, r, ds, a, vs, e, hi, rfl, h, h2, h3⟩
    · exact e.elim
  · exact e.elim
def dAppend : DMW := fun x ys ρ R => match ys with
  | [y] => match st ρ y with
    | some (r, d, ρ1) => onList x ρ1 fun i r0 ds => ds.length < sizeLine ∧ R (.v true .non) (ρ1.set i (some (.ow (r0 && r) (.lst (ds ++ [d])))))
    | none => False
  | _ => False
theorem paired1 {α β : Type} {P : α → β → Prop} {xs : List α} {b : β} (h : Paired P xs [b]) : ∃ a, xs = [a] ∧ P a b := by
  cases h with
  | cons h g =>
    cases g
    exact ⟨_, rfl, h⟩
theorem paired2 {α β : Type} {P : α → β → Prop} {xs : List α} {b c : β} (h : Paired P xs [b, c]) : ∃ a a', xs = [a, a'] ∧ P a b ∧ P a' c := by
  cases h with
  | cons h g =>
    obtain ⟨a', rfl, h2⟩ := paired1 g
    exact ⟨_, a', rfl, h, h2⟩
theorem RepV.tmp0 {F : Fr} {Hs : Hp} {σ : L2.St} {ρ ρ' : DEnv} {H : Hp} {v : V} {dv : DV} (E : Env F σ ρ H) (h : RepV F Hs σ ρ H v dv) (s : Stp (OwnA σ ρ) H (OwnA σ ρ') H) {k : Nat → Bool → List D → Prop} (e : onList dv ρ' k) : RepV F Hs σ ρ' H v dv := by
  cases dv with
  | al i => exact h
  | _ => exact e.elim
instance : DM K rAppend dAppend where
  ok := fun {F Hs σ H ρ x ys dx dys R Q} hK E hx hy h q => by
    subst hK
    unfold dAppend at h
    split at h
    · rename_i y
      obtain ⟨u, rfl, hu, _⟩ := paired1 hy
      split at h
      · rename_i r d ρ1 e
        obtain ⟨E1, s1, p1⟩ := hu.st E e
        obtain ⟨i, r0, ds, a, vs, ⟨hl, hR⟩, hi, rfl, hs, ha, hv⟩ := onList_at E1 (hx.tmp0 E s1 h) h
        obtain ⟨E2, s2⟩ := E1.put (r' := r0 && r) (d' := .lst (ds ++ [d])) (o := .lst (vs ++ [u])) hi hs (fun z => by cases z) ⟨_, rfl, RepL.both hv (.one p1)⟩
        exact ⟨a, vs, u, rfl, rfl, ha, by rw [hv.len]; exact hl, q _ _ _ _ hR E2 (s1.trans s2) .non⟩
      · exact h.elim
    · exact h.elim
def dExtend : DMW := fun x ys ρ R => match ys with
  | [y] => match rd ρ y with
    | some (r, .lst es) => onList x ρ fun i r0 ds => ds.length + es.length ≤ sizeLine ∧ R (.v true .non) (ρ.set i (some (.ow (r0 && reg (r, .lst es)) (.lst (ds ++ es)))))
    | _ => False
  | _ => False
instance : DM K rExtend dExtend where
  ok := fun {F Hs σ H ρ x ys dx dys R Q} hK E hx hy h q => by
    subst hK
    unfold dExtend at h
    split at h
    · rename_i y
      obtain ⟨u, rfl, hu, _⟩ := paired1 hy
      split at h
      · rename_i r es e
        obtain ⟨b, ws, rfl, g1, g2⟩ := (hu.top E e).lst (p := (r, .lst es)) rfl
        obtain ⟨i, r0, ds, a, vs, ⟨hl, hR⟩, hi, rfl, hs, ha, hv⟩ := onList_at E hx h
        obtain ⟨E2, s2⟩ := E.put (r' := r0 && reg (r, .lst es)) (d' := .lst (ds ++ es)) (o := .lst (vs ++ ws)) hi hs (fun z => by cases z) ⟨_, rfl, RepL.both hv g2⟩
        exact ⟨a, b, vs, ws, rfl, rfl, ha, g1, by rw [hv.len, g2.len]; exact hl, q _ _ _ _ hR E2 s2 .non⟩
      · exact h.elim
    · exact h.elim
def rInsG : V → List V → Hp → VK → Prop := fun x vs H Q => ∃ (l : Addr) (xs : List V) (i : Int) (y : V), x = .ref l ∧ vs = [.int i, y] ∧ H l = some (.lst xs) ∧ xs.length < sizeLine ∧ 0 ≤ i ∧ i < 2 ^ 63 ∧
    Q .non (upd H l (.lst (xs.take i.toNat ++ [y] ++ xs.drop i.toNat)))
theorem gInsert {X : Cx} : MtR X "list.insert" rInsG := mt_insert
def dInsert : DMW := fun x ys ρ R => match ys with
  | [n, y] => match rd ρ n with
    | some (_, .int j) => match st ρ y with
      | some (r, d, ρ1) => onList x ρ1 fun i r0 ds => ds.length < sizeLine ∧ 0 ≤ j ∧ j < 2 ^ 63 ∧ R (.v true .non) (ρ1.set i (some (.ow (r0 && r) (.lst (ds.take j.toNat ++ [d] ++ ds.drop j.toNat)))))
      | none => False
    | _ => False
  | _ => False
instance : DM K rInsG dInsert where
  ok := fun {F Hs σ H ρ x ys dx dys R Q} hK E hx hy h q => by
    subst hK
    unfold dInsert at h
    split at h
    · rename_i n y
      obtain ⟨w, u, rfl, ⟨hw, _⟩, ⟨hu, _⟩⟩ := paired2 hy
      split at h
      · rename_i rn j en
        cases (show w = .int j from hw.top E en)
        split at h
        · rename_i r d ρ1 e
          obtain ⟨E1, s1, p1⟩ := hu.st E e
          obtain ⟨i, r0, ds, a, vs, ⟨hl, j0, j1, hR⟩, hi, rfl, hs, ha, hv⟩ := onList_at E1 (hx.tmp0 E s1 h) h
          have hv1 : RepL F.K (F.RH (OwnA σ ρ1) H (r0 && r)) vs ds := hv.weak fun z => by rw [Bool.and_eq_true] at z; exact z.1
          have hp1 : Rep F.K (F.RH (OwnA σ ρ1) H (r0 && r)) u d := p1.weak fun z => by rw [Bool.and_eq_true] at z; exact z.2
          obtain ⟨E2, s2⟩ := E1.put (r' := r0 && r) (d' := .lst (ds.take j.toNat ++ [d] ++ ds.drop j.toNat)) (o := .lst (vs.take j.toNat ++ [u] ++ vs.drop j.toNat)) hi hs (fun z => by cases z) ⟨_, rfl, ((hv1.take _).app (.one hp1)).app (hv1.drop _)⟩
          exact ⟨a, vs, j, u, rfl, rfl, ha, by rw [hv.len]; exact hl, j0, j1, q _ _ _ _ hR E2 (s1.trans s2) .non⟩
        · exact h.elim
      · exact h.elim
    · exact h.elim
def dPop : DMW := fun x ys ρ R => match ys with
  | [] => onList x ρ fun i r ds => match ds[ds.length - 1]? with
    | some d => R (.v r d) (ρ.set i (some (.ow r (.lst ds.dropLast))))
    | none => False
  | _ => False
theorem RepL.dropLast {K : PySem.W.Frag} {H : Hp} {vs : List V} {ds : List D} (h : RepL K H vs ds) : RepL K H vs.dropLast ds.dropLast := by
  rw [List.dropLast_eq_take, List.dropLast_eq_take, h.len]
  exact h.take _
instance : DM K rPop dPop where
  ok := fun {F Hs σ H ρ x ys dx dys R Q} hK E hx hy h q => by
    subst hK
    unfold dPop at h
    split at h
    · cases hy
      obtain ⟨i, r0, ds, a, vs, h, hi, rfl, hs, ha, hv⟩ := onList_at E hx h
      split at h
      · rename_i d hd
        obtain ⟨u, hu, pu⟩ := hv.get hd
        obtain ⟨E2, s2⟩ := E.put (r' := r0) (d' := .lst ds.dropLast) (o := .lst vs.dropLast) hi hs (fun z => by cases z) ⟨_, rfl, hv.dropLast⟩
        exact ⟨a, vs, u, rfl, rfl, ha, by rw [hv.len]; exact hu, q _ _ _ _ h E2 s2 (pu.mono (E.rh s2))⟩
      · exact h.elim
    · exact h.elim
def dPopAt : DMW := fun x ys ρ R => match ys with
  | [n] => match rd ρ n with
    | some (_, .int j) => onList x ρ fun i r ds => -(2 ^ 63) ≤ j ∧ j < 2 ^ 63 ∧ match seqIndex? j ds.length with
      | some k => match ds[k]? with
        | some d => R (.v r d) (ρ.set i (some (.ow r (.lst (ds.eraseIdx k)))))
        | none => False
      | none => False
    | _ => False
  | _ => False
instance : DM K rPopAt dPopAt where
  ok := fun {F Hs σ H ρ x ys dx dys R Q} hK E hx hy h q => by
    subst hK
    unfold dPopAt at h
    split at h
    · rename_i n
      obtain ⟨w, rfl, hw, _⟩ := paired1 hy
      split at h
      · rename_i rn j en
        cases (show w = .int j from hw.top E en)
        obtain ⟨i, r0, ds, a, vs, ⟨j0, j1, h⟩, hi, rfl, hs, ha, hv⟩ := onList_at E hx h
        split at h
        · rename_i k hk
          split at h
          · rename_i d hd
            obtain ⟨u, hu, pu⟩ := hv.get hd
            obtain ⟨E2, s2⟩ := E.put (r' := r0) (d' := .lst (ds.eraseIdx k)) (o := .lst (vs.eraseIdx k)) hi hs (fun z => by cases z) ⟨_, rfl, hv.erase k⟩
            exact ⟨a, vs, j, k, u, rfl, rfl, ha, j0, j1, by rw [hv.len]; exact hk, hu, q _ _ _ _ h E2 s2 (pu.mono (E.rh s2))⟩
          · exact h.elim
        · exact h.elim
      · exact h.elim
    · exact h.elim
def dClear : DMW := fun x ys ρ R => match ys with
  | [] => onList x ρ fun i r ds => R (.v true .non) (ρ.set i (some (.ow true (.lst []))))
  | _ => False
def dReverse : DMW := fun x ys ρ R => match ys with
  | [] => onList x ρ fun i r ds => R (.v true .non) (ρ.set i (some (.ow r (.lst ds.reverse))))
  | _ => False
instance : DM K rClear dClear where
  ok := fun {F Hs σ H ρ x ys dx dys R Q} hK E hx hy h q => by
    subst hK
    unfold dClear at h
    split at h
    · cases hy
      obtain ⟨i, r0, ds, a, vs, h, hi, rfl, hs, ha, hv⟩ := onList_at E hx h
      obtain ⟨E2, s2⟩ := E.put (r' := true) (d' := .lst []) (o := .lst []) hi hs (fun z => by cases z) ⟨_, rfl, .nil⟩
      exact ⟨a, vs, rfl, rfl, ha, q _ _ _ _ h E2 s2 .non⟩
    · exact h.elim
instance : DM K rReverse dReverse where
  ok := fun {F Hs σ H ρ x ys dx dys R Q} hK E hx hy h q => by
    subst hK
    unfold dReverse at h
    split at h
    · cases hy
      obtain ⟨i, r0, ds, a, vs, h, hi, rfl, hs, ha, hv⟩ := onList_at E hx h
      obtain ⟨E2, s2⟩ := E.put (r' := r0) (d' := .lst ds.reverse) (o := .lst vs.reverse) hi hs (fun z => by cases z) ⟨_, rfl, hv.rev⟩
      exact ⟨a, vs, rfl, rfl, ha, q _ _ _ _ h E2 s2 .non⟩
    · exact h.elim
/-- xs.index(y): the first place -/
def dIndex : DMW := fun x ys ρ R => match ys with
  | [y] => match rd ρ x, rd ρ y with
    | some (_, .lst ds), some (_, d) => ds.all D.flat = true ∧ d.flat = true ∧ ∃ (j : Nat) (z : D), ds[j]? = some z ∧ eqV (toV z) (toV d) = true ∧ (∀ (m : Nat) (z' : D), m < j → ds[m]? = some z' → eqV (toV z') (toV d) = false) ∧ R (.v true (.int (j : Nat))) ρ
    | _, _ => False
  | _ => False
instance : DM K (rIndex K) dIndex where
  ok := fun {F Hs σ H ρ x ys dx dys R Q} hK E hx hy h q => by
    subst hK
    unfold dIndex at h
    split at h
    · rename_i y
      obtain ⟨u, rfl, hu, _⟩ := paired1 hy
      split at h
      · rename_i r ds r' d e e'
        obtain ⟨f1, f2, j, z, h1, h2, h3, hR⟩ := h
        obtain ⟨a, vs, rfl, g1, g2⟩ := hx.top E e
        rw [flat_all g2 f1] at g1
        rw [flat_v (hu.top E e') f2]
        refine ⟨a, _, _, j, toV z, rfl, rfl, SqL.of g1, flat_toV f2, flat_toVs f1, by rw [List.getElem?_map, h1]; rfl, h2, fun m z' hm hz => ?_, q _ ρ _ H hR E (.refl _ _) (.int _)⟩
        rw [List.getElem?_map] at hz
        cases e9 : ds[m]? with
        | none =>
          rw [e9] at hz
          cases hz
        | some z9 =>
          rw [e9] at hz
          cases hz
          exact h3 m z9 hm e9
      · exact h.elim
    · exact h.elim
end
/-! ### dicts -/
def valD {κ : Type} [DecidableEq κ] (es : List (κ × D)) (k : κ) : Option D := (es.find? fun kv => decide (kv.1 = k)).map (·.2)
def putD {κ : Type} [DecidableEq κ] (es : List (κ × D)) (k : κ) (d : D) : List (κ × D) :=
  if (es.any fun kv => decide (kv.1 = k)) = true then es.map (fun kv => if kv.1 = k then (kv.1, d) else kv) else es ++ [(k, d)]
@[irreducible] def valC {κ : Type} [DecidableEq κ] (es : List (κ × D)) (k : κ) : Option D := valD es k
theorem valC_eq {κ : Type} [DecidableEq κ] (es : List (κ × D)) (k : κ) : valC es k = valD es k := by unfold valC; rfl
@[irreducible] def putC {κ : Type} [DecidableEq κ] (es : List (κ × D)) (k : κ) (d : D) : List (κ × D) := putD es k d
theorem putC_eq {κ : Type} [DecidableEq κ] (es : List (κ × D)) (k : κ) (d : D) : putC es k d = putD es k d := by unfold putC; rfl
def dropD {κ : Type} [DecidableEq κ] (es : List (κ × D)) (k : κ) : List (κ × D) := es.filter fun kv => decide (kv.1 ≠ k)
/-- entries stand for entries -/
def KRep {κ : Type} (K : PySem.W.Frag) (H : Hp) (kvs : List (κ × V)) (es : List (κ × D)) : Prop := kvs.map (·.1) = es.map (·.1) ∧ RepL K H (kvs.map (·.2)) (es.map (·.2))
section
variable {κ : Type} {K : PySem.W.Frag} {H : Hp}
theorem KRep.nil : KRep K H ([] : List (κ × V)) [] := ⟨rfl, .nil⟩
theorem KRep.cons {k : κ} {v : V} {d : D} {kvs : List (κ × V)} {es : List (κ × D)} (h : Rep K H v d) (g : KRep K H kvs es) : KRep K H ((k, v) :: kvs) ((k, d) :: es) :=
  ⟨by rw [List.map_cons, List.map_cons, g.1], .cons h g.2⟩
theorem KRep.app {kvs kvs' : List (κ × V)} {es es' : List (κ × D)} (h : KRep K H kvs es) (g : KRep K H kvs' es') : KRep K H (kvs ++ kvs') (es ++ es') :=
  ⟨by rw [List.map_append, List.map_append, h.1, g.1], by rw [List.map_append, List.map_append]; exact h.2.app g.2⟩
theorem KRep.inv {kv : κ × V} {kvs : List (κ × V)} {e : κ × D} {es : List (κ × D)} (h : KRep K H (kv :: kvs) (e :: es)) : kv.1 = e.1 ∧ Rep K H kv.2 e.2 ∧ KRep K H kvs es := by
  obtain ⟨h1, h2⟩ := h
  simp only [List.map_cons, List.cons.injEq] at h1 h2
  cases h2 with
  | cons h2 h3 => exact ⟨h1.1, h2, h1.2, h3⟩
theorem KRep.ind {P : List (κ × V) → List (κ × D) → Prop} (h0 : P [] []) (hc : ∀ k v d kvs es, Rep K H v d → KRep K H kvs es → P kvs es → P ((k, v) :: kvs) ((k, d) :: es)) : ∀ {kvs : List (κ × V)} {es : List (κ × D)}, KRep K H kvs es → P kvs es
  | [], [], _ => h0
  | [], _ :: _, h => by cases h.1
  | _ :: _, [], h => by cases h.1
  | (k, v) :: kvs, (k', d) :: es, h => by
    obtain ⟨h1, h2, h3⟩ := h.inv
    have h1 : k = k' := h1
    subst h1
    exact hc k v d kvs es h2 h3 (KRep.ind h0 hc h3)
theorem KRep.len {kvs : List (κ × V)} {es : List (κ × D)} (h : KRep K H kvs es) : kvs.length = es.length := by
  have := congrArg List.length h.1
  rw [List.length_map, List.length_map] at this
  exact this
theorem KRep.mono {H' : Hp} {kvs : List (κ × V)} {es : List (κ × D)} (h : KRep K H kvs es) (e : Same H H') : KRep K H' kvs es := ⟨h.1, h.2.mono e⟩
variable [DecidableEq κ]
theorem KRep.val {kvs : List (κ × V)} {es : List (κ × D)} (h : KRep K H kvs es) (k : κ) : (valD es k = none → valV kvs k = none) ∧ ∀ d, valD es k = some d → ∃ v, valV kvs k = some v ∧ Rep K H v d := by
  refine h.ind (P := fun kvs es => (valD es k = none → valV kvs k = none) ∧ ∀ d, valD es k = some d → ∃ v, valV kvs k = some v ∧ Rep K H v d) ⟨fun _ => rfl, fun d z => by cases z⟩ fun k' v d kvs es hv _ ih => ?_
  by_cases e : k' = k
  · subst e
    refine ⟨fun z => ?_, fun d' z => ?_⟩
    · simp [valD] at z
    · simp [valD] at z
      subst z
      exact ⟨v, valV_pos (p := (k', v)) rfl, hv⟩
  · have e1 : valD ((k', d) :: es) k = valD es k := by simp [valD, List.find?_cons, e]
    rw [e1, valV_neg (p := (k', v)) e]
    exact ih
theorem KRep.any {kvs : List (κ × V)} {es : List (κ × D)} (h : KRep K H kvs es) (k : κ) : (kvs.any fun kv => decide (kv.1 = k)) = es.any fun kv => decide (kv.1 = k) := by
  refine h.ind (P := fun kvs es => (kvs.any fun kv => decide (kv.1 = k)) = es.any fun kv => decide (kv.1 = k)) rfl fun k' v d kvs es _ _ ih => ?_
  rw [List.any_cons, List.any_cons, ih]
theorem KRep.put {kvs : List (κ × V)} {es : List (κ × D)} {v : V} {d : D} (h : KRep K H kvs es) (k : κ) (hv : Rep K H v d) : KRep K H (putK kvs k v) (putD es k d) := by
  unfold putK putD
  rw [h.any k]
  split
  · refine h.ind (P := fun kvs es => KRep K H (kvs.map fun kv => if kv.1 = k then (kv.1, v) else kv) (es.map fun kv => if kv.1 = k then (kv.1, d) else kv)) .nil fun k' v' d' kvs es hv' _ ih => ?_
    rw [List.map_cons, List.map_cons]
    by_cases e : k' = k
    · rw [if_pos e, if_pos e]
      exact .cons hv ih
    · rw [if_neg e, if_neg e]
      exact .cons hv' ih
  · exact h.app (.cons hv .nil)
theorem KRep.drop {kvs : List (κ × V)} {es : List (κ × D)} (h : KRep K H kvs es) (k : κ) : KRep K H (dropK kvs k) (dropD es k) := by
  unfold dropK dropD
  refine h.ind (P := fun kvs es => KRep K H (kvs.filter fun kv => decide (kv.1 ≠ k)) (es.filter fun kv => decide (kv.1 ≠ k))) .nil fun k' v' d' kvs es hv' _ ih => ?_
  by_cases e : k' = k
  · rw [List.filter_cons_of_neg (by simp [e]), List.filter_cons_of_neg (by simp [e])]
    exact ih
  · rw [List.filter_cons_of_pos (by simp [e]), List.filter_cons_of_pos (by simp [e])]
    exact .cons hv' ih
end
def keyOf : D → Option Key
  | .int i => some (.inl i)
  | .str s => some (.inr s)
  | _ => none
def keysOf : List D → Option (List Key)
  | [] => some []
  | d :: ds => match keyOf d, keysOf ds with
    | some k, some ks => some (k :: ks)
    | _, _ => none
theorem keyOf_v {K : PySem.W.Frag} {H Hr : Hp} {v : V} {d : D} {k : Key} (h : TopD K H Hr v d) (e : keyOf d = some k) : v = kV k := by
  cases d with
  | int i => cases e; exact h
  | str s => cases e; exact h
  | _ => cases e
theorem keysOf_v {K : PySem.W.Frag} {H : Hp} : ∀ {vs : List V} {ds : List D} {ks : List Key}, RepL K H vs ds → keysOf ds = some ks → vs = ks.map kV
  | _, _, _, .nil, e => by cases e; rfl
  | _, _, _, .cons (d := d) h g, e => by
    simp only [keysOf] at e
    split at e
    · rename_i k ks e1 e2
      cases e
      rw [List.map_cons, ← keysOf_v g e2, keyOf_v (h.top fun _ _ z => z) e1]
    · cases e
/-- d[y] as data -/
def getD (p q : Bool × D) : Option (Option D) := match p.2, q.2 with
  | .dK es, y => match keyOf y with
    | some k => some (valC es k)
    | none => none
  | .dT es, .tup ys => match keysOf ys with
    | some ks => some (valC es ks)
    | none => none
  | _, _ => none
def GotD (K : PySem.W.Frag) (H Hr : Hp) (a : Addr) (y : V) : Option D → Prop
  | some d => ∃ v, DGet H a y (some v) ∧ Rep K Hr v d
  | none => DGet H a y none
theorem getD_at {F : Fr} {O : Addr → Prop} {H : Hp} {p q : Bool × D} {x y : V} {o : Option D} (hx : TopD F.K H (F.RH O H p.1) x p.2) (hy : TopD F.K H (F.RH O H q.1) y q.2) (e : getD p q = some o) :
    ∃ a, x = .ref a ∧ IsD H a ∧ GotD F.K H (F.RH O H p.1) a y o := by
  unfold getD at e
  split at e
  · rename_i y' es hp
    rw [hp] at hx
    obtain ⟨a, kvs, rfl, h1, h2, h3⟩ := hx
    split at e
    · rename_i k hk
      cases e
      have ey := keyOf_v hy hk
      subst ey
      refine ⟨a, rfl, .inl ⟨kvs, h1⟩, ?_⟩
      obtain ⟨g1, g2⟩ := KRep.val (K := F.K) (H := F.RH O H p.1) ⟨h2, h3⟩ k
      rw [valC_eq]
      cases e9 : valD es k with
      | none => exact .inl ⟨kvs, k, h1, rfl, (g1 e9).symm⟩
      | some d =>
        obtain ⟨v, g3, g4⟩ := g2 d e9
        exact ⟨v, .inl ⟨kvs, k, h1, rfl, g3.symm⟩, g4⟩
    · cases e
  · rename_i es ys hp hq
    rw [hp] at hx
    rw [hq] at hy
    obtain ⟨a, kvs, rfl, h1, h2, h3⟩ := hx
    obtain ⟨b, ws, rfl, h4, h5⟩ := hy
    split at e
    · rename_i k hk
      cases e
      have ey := keysOf_v h5 hk
      subst ey
      refine ⟨a, rfl, .inr ⟨kvs, h1⟩, ?_⟩
      obtain ⟨g1, g2⟩ := KRep.val (K := F.K) (H := F.RH O H p.1) ⟨h2, h3⟩ k
      rw [valC_eq]
      cases e9 : valD es k with
      | none => exact .inr ⟨kvs, k, b, h1, rfl, h4, (g1 e9).symm⟩
      | some d =>
        obtain ⟨v, g3, g4⟩ := g2 d e9
        exact ⟨v, .inr ⟨kvs, k, b, h1, rfl, h4, g3.symm⟩, g4⟩
    · cases e
  · cases e
section
variable {K : PySem.W.Frag} {W : WXT}
/-- two things, then what is asked of them -/
def dTwo (wa wb : DW) (k : Bool × D → Bool × D → DEnv → Prop) : XC → DEnv → Prop := fun X ρ => wa X ρ fun x ρ1 => wb X ρ1 fun y ρ2 => match rd ρ2 x, rd ρ2 y with
  | some p, some q => k p q ρ2
  | _, _ => False
theorem dTwo_ok {ta tb : TE} {wa wb : DW} [A : DE K W ta wa] [B : DE K W tb wb] {F : Fr} {σ : L2.St} {H : Hp} {ρ : DEnv} {X : XC} {k : Bool × D → Bool × D → DEnv → Prop} {Q : V → V → Hp → Prop} (hK : F.K = K) (E : Env F σ ρ H) (L : XLink F W X σ ρ H) (h : dTwo wa wb k X ρ)
    (q : ∀ p r ρ' x y H', k p r ρ' → Env F σ ρ' H' → Stp (OwnA σ ρ) H (OwnA σ ρ') H' → TopD F.K H' (F.RH (OwnA σ ρ') H' p.1) x p.2 → TopD F.K H' (F.RH (OwnA σ ρ') H' r.1) y r.2 → Q x y H') :
    ta σ H fun x H1 => tb σ H1 fun y H2 => Q x y H2 := by
  refine A.ok hK E L h fun x ρ1 v H1 h1 E1 s1 r1 => ?_
  refine B.ok hK E1 (L.stp s1) h1 fun y ρ2 u H2 h2 E2 s2 r2 => ?_
  have r1' : RepV F H σ ρ2 H2 v x.tmp := r1.stp E1 s2
  split at h2
  · rename_i p q' hp hq
    exact q p q' ρ2 v u H2 h2 E2 (s1.trans s2) (r1'.top E2 (by rw [rd_tmp]; exact hp)) (r2.top E2 hq)
  · exact h2.elim
def dDGet (wd wy : DW) : DW := fun X ρ R => dTwo wd wy (fun p q ρ2 => match getD p q with
  | some (some d) => R (.v p.1 d) ρ2
  | _ => False) X ρ
instance {td ty : TE} {wd wy : DW} [A : DE K W td wd] [B : DE K W ty wy] : DE K W (tDGet td ty) (dDGet wd wy) where
  ok := fun {F σ H ρ X R Q} hK E L h q => by
    refine dTwo_ok hK E L h (Q := fun x y H2 => ∃ a v, x = .ref a ∧ DGet H2 a y (some v) ∧ Q v H2) fun p r ρ' x y H' h1 E1 s1 hx hy => ?_
    split at h1
    · rename_i d e
      obtain ⟨a, rfl, _, v, g1, g2⟩ := getD_at hx hy e
      exact ⟨a, v, rfl, g1, q _ ρ' v H' h1 E1 s1 g2⟩
    · exact h1.elim
def dDIn (neg : Bool) (wy wd : DW) : DW := fun X ρ R => dTwo wy wd (fun q p ρ2 => match getD p q with
  | some o => R (.v true (.bl (if neg then !o.isSome else o.isSome))) ρ2
  | none => False) X ρ
theorem getD_in {F : Fr} {O : Addr → Prop} {H : Hp} {p q : Bool × D} {x y : V} {o : Option D} (hx : TopD F.K H (F.RH O H p.1) x p.2) (hy : TopD F.K H (F.RH O H q.1) y q.2) (e : getD p q = some o) :
    ∃ a u, x = .ref a ∧ IsD H a ∧ DGet H a y u ∧ u.isSome = o.isSome := by
  obtain ⟨a, rfl, hd, g⟩ := getD_at hx hy e
  cases o with
  | none => exact ⟨a, none, rfl, hd, g, rfl⟩
  | some d =>
    obtain ⟨v, g, _⟩ := g
    exact ⟨a, some v, rfl, hd, g, rfl⟩
instance {td ty : TE} {wd wy : DW} [A : DE K W td wd] [B : DE K W ty wy] : DE K W (tDIn ty td) (dDIn false wy wd) where
  ok := fun {F σ H ρ X R Q} hK E L h q => by
    refine dTwo_ok hK E L h (Q := fun y x H2 => ∃ a o, x = .ref a ∧ DGet H2 a y o ∧ Q (.bl o.isSome) H2) fun p r ρ' x y H' h1 E1 s1 hx hy => ?_
    split at h1
    · rename_i o e
      obtain ⟨a, u, rfl, _, g1, g2⟩ := getD_in hy hx e
      exact ⟨a, u, rfl, g1, by rw [g2]; exact q _ ρ' _ H' h1 E1 s1 (.bl _)⟩
    · exact h1.elim
instance {td ty : TE} {wd wy : DW} [A : DE K W td wd] [B : DE K W ty wy] : DE K W (tDNotIn ty td) (dDIn true wy wd) where
  ok := fun {F σ H ρ X R Q} hK E L h q => by
    refine dTwo_ok hK E L h (Q := fun y x H2 => ∃ a o, x = .ref a ∧ DGet H2 a y o ∧ Q (.bl (!o.isSome)) H2) fun p r ρ' x y H' h1 E1 s1 hx hy => ?_
    split at h1
    · rename_i o e
      obtain ⟨a, u, rfl, _, g1, g2⟩ := getD_in hy hx e
      exact ⟨a, u, rfl, g1, by rw [g2]; exact q _ ρ' _ H' h1 E1 s1 (.bl _)⟩
    · exact h1.elim
def isDict : Option (Bool × D) → Prop
  | some (_, .dK _) => True
  | some (_, .dT _) => True
  | _ => False
def dDGet1 (wd wy : DW) : DW := fun X ρ R => wd X ρ fun x ρ1 => isDict (rd ρ1 x) ∧ wy X ρ1 fun y ρ2 => match rd ρ2 x, rd ρ2 y with
  | some p, some q => match getD p q with
    | some (some d) => R (.v p.1 d) ρ2
    | some none => R (.v true .non) ρ2
    | none => False
  | _, _ => False
theorem isDict_v {F : Fr} {Hs : Hp} {σ : L2.St} {ρ : DEnv} {H : Hp} {v : V} {dv : DV} (E : Env F σ ρ H) (h : RepV F Hs σ ρ H v dv) (e : isDict (rd ρ dv)) : ∃ a, v = .ref a ∧ IsD H a := by
  unfold isDict at e
  split at e
  · rename_i r ds q
    obtain ⟨a, vs, rfl, h1, _⟩ := h.top E q
    exact ⟨a, rfl, .inl ⟨vs, h1⟩⟩
  · rename_i r ds q
    obtain ⟨a, vs, rfl, h1, _⟩ := h.top E q
    exact ⟨a, rfl, .inr ⟨vs, h1⟩⟩
  · exact e.elim
instance {td ty : TE} {wd wy : DW} [A : DE K W td wd] [B : DE K W ty wy] : DE K W (tDGet1 td ty) (dDGet1 wd wy) where
  ok := fun {F σ H ρ X R Q} hK E L h q => by
    refine A.ok hK E L h fun x ρ1 v H1 h1 E1 s1 r1 => ?_
    obtain ⟨hd, h1⟩ := h1
    obtain ⟨a, rfl, hd⟩ := isDict_v E1 r1 hd
    refine ⟨a, rfl, hd, B.ok hK E1 (L.stp s1) h1 fun y ρ2 u H2 h2 E2 s2 r2 => ?_⟩
    have r1' : RepV F H σ ρ2 H2 (.ref a) x.tmp := r1.stp E1 s2
    split at h2
    · rename_i p q' hp hq
      have hx := r1'.top E2 (by rw [rd_tmp]; exact hp)
      have hy := r2.top E2 hq
      split at h2
      · rename_i d e
        obtain ⟨b, eb, _, z, g1, g2⟩ := getD_at hx hy e
        cases eb
        exact ⟨some z, g1, q _ ρ2 z H2 h2 E2 (s1.trans s2) g2⟩
      · rename_i e
        obtain ⟨b, eb, _, g1⟩ := getD_at hx hy e
        cases eb
        exact ⟨none, g1, q _ ρ2 _ H2 h2 E2 (s1.trans s2) .non⟩
      · exact h2.elim
    · exact h2.elim
def dDGet2 (wd wy wz : DW) : DW := fun X ρ R => wd X ρ fun x ρ1 => isDict (rd ρ1 x) ∧ wy X ρ1 fun y ρ2 => wz X ρ2 fun z ρ3 => match rd ρ3 x, rd ρ3 y with
  | some p, some q => match getD p q with
    | some (some d) => R (.v p.1 d) ρ3
    | some none => R z.tmp ρ3
    | none => False
  | _, _ => False
instance {td ty tz : TE} {wd wy wz : DW} [A : DE K W td wd] [B : DE K W ty wy] [C : DE K W tz wz] : DE K W (tDGet2 td ty tz) (dDGet2 wd wy wz) where
  ok := fun {F σ H ρ X R Q} hK E L h q => by
    refine A.ok hK E L h fun x ρ1 v H1 h1 E1 s1 r1 => ?_
    obtain ⟨hd, h1⟩ := h1
    obtain ⟨a, rfl, hd⟩ := isDict_v E1 r1 hd
    refine ⟨a, rfl, hd, B.ok hK E1 (L.stp s1) h1 fun y ρ2 u H2 h2 E2 s2 r2 => C.ok hK E2 (L.stp (s1.trans s2)) h2 fun z ρ3 w H3 h3 E3 s3 r3 => ?_⟩
    have r1' : RepV F H σ ρ3 H3 (.ref a) x.tmp := r1.stp E1 (s2.trans s3)
    have r2' : RepV F H σ ρ3 H3 u y.tmp := r2.stp E2 s3
    split at h3
    · rename_i p q' hp hq
      have hx := r1'.top E3 (by rw [rd_tmp]; exact hp)
      have hy := r2'.top E3 (by rw [rd_tmp]; exact hq)
      split at h3
      · rename_i d e
        obtain ⟨b, eb, _, z', g1, g2⟩ := getD_at hx hy e
        cases eb
        exact ⟨some z', g1, q _ ρ3 z' H3 h3 E3 ((s1.trans s2).trans s3) g2⟩
      · rename_i e
        obtain ⟨b, eb, _, g1⟩ := getD_at hx hy e
        cases eb
        exact ⟨none, g1, q _ ρ3 _ H3 h3 E3 ((s1.trans s2).trans s3) (r3.stp E3 (.refl _ _))⟩
      · exact h3.elim
    · exact h3.elim
def dDNew : DW := fun _ ρ R => R (.fr true (.dK [])) ρ
def dDNewT : DW := fun _ ρ R => R (.fr true (.dT [])) ρ
instance : DE K W tDNewK dDNew where
  ok := fun {F σ H ρ X R Q} hK E L h q => fun a ha =>
    q _ ρ _ _ h (E.grow (same_new ha)) (.same (same_new ha)) (fresh_of E ha rfl ⟨_, rfl, rfl, .nil⟩)
instance : DE K W tDNewT dDNewT where
  ok := fun {F σ H ρ X R Q} hK E L h q => fun a ha =>
    q _ ρ _ _ h (E.grow (same_new ha)) (.same (same_new ha)) (fresh_of E ha rfl ⟨_, rfl, rfl, .nil⟩)
end
end PW

namespace PW
open PySem PySem.Spec PyProof.Rows L2
/-! ### targets -/
def noPotB (ρ : DEnv) (i : Nat) : Bool := match i, ρ[i]? with
  | 0, some (some (.ow _ d)) => !d.isPot
  | _, _ => true
theorem noPot_of {ρ : DEnv} {i : Nat} (h : noPotB ρ i = true) : noPot ρ i := fun r d z e => by
  subst z
  unfold noPotB at h
  rw [e] at h
  simpa using h
class DG (K : PySem.W.Frag) (g : TG) (w : outParam DGW) (sl : outParam (List Nat)) : Prop where
  ok : ∀ {F : Fr} {σ : L2.St} {H : Hp} {ρ : DEnv} {v : V} {p : Bool × D} {R : DEnv → Prop} {Q : L2.St → Hp → Prop}, F.K = K → Env F σ ρ H → Rep F.K (F.RH (OwnA σ ρ) H p.1) v p.2 → w p ρ R →
    (∀ ρ' σ', R ρ' → Env F σ' ρ' H → Stp (OwnA σ ρ) H (OwnA σ' ρ') H → (∀ j, j ∉ sl → σ'[j]? = σ[j]?) → σ'.length = σ.length → Q σ' H) → g v σ H Q
abbrev DGsW := List (Bool × D) → DEnv → (DEnv → Prop) → Prop
class DGs (K : PySem.W.Frag) (g : TGs) (w : outParam DGsW) (sl : outParam (List Nat)) : Prop where
  ok : ∀ {F : Fr} {σ : L2.St} {H : Hp} {ρ : DEnv} {vs : List V} {r : Bool} {ds : List D} {R : DEnv → Prop} {Q : L2.St → Hp → Prop}, F.K = K → Env F σ ρ H → RepL F.K (F.RH (OwnA σ ρ) H r) vs ds → w (ds.map fun d => (r, d)) ρ R →
    (∀ ρ' σ', R ρ' → Env F σ' ρ' H → Stp (OwnA σ ρ) H (OwnA σ' ρ') H → (∀ j, j ∉ sl → σ'[j]? = σ[j]?) → σ'.length = σ.length → Q σ' H) → g vs σ H Q
def dgName (i : Nat) : DGW := fun p ρ R => noPotB ρ i = true ∧ R (ρ.set i (some (.sh (p.1 || p.2.imm) p.2)))
def dgNil : DGsW := fun ps ρ R => match ps with
  | [] => R ρ
  | _ => False
def dgCons (g : DGW) (gs : DGsW) : DGsW := fun ps ρ R => match ps with
  | p :: ps => g p ρ fun ρ1 => gs ps ρ1 R
  | _ => False
def dgTup (n : Nat) (gs : DGsW) : DGW := fun p ρ R => match p.2 with
  | .tup ds => ds.length = n ∧ gs (ds.map fun d => (p.1, d)) ρ R
  | _ => False
section
variable {K : PySem.W.Frag} {W : WXT}
instance {i : Nat} : DG K (gName i) (dgName i) [i] where
  ok := fun {F σ H ρ v p R Q} hK E hv h q => by
    obtain ⟨E1, s1⟩ := E.setSh (i := i) (noPot_of h.1) hv.up
    refine q _ _ h.2 E1 s1 (fun j hj => ?_) (by rw [List.length_set])
    rw [List.getElem?_set_ne fun z => hj (by rw [z]; exact List.mem_singleton.mpr rfl)]
instance : DGs K gNil dgNil [] where
  ok := fun {F σ H ρ vs r ds R Q} hK E hv h q => by
    cases hv with
    | nil => exact ⟨rfl, q _ _ h E (.refl _ _) (fun _ _ => rfl) rfl⟩
    | cons _ _ => exact h.elim
instance {g : TG} {w : DGW} {sl : List Nat} {gs : TGs} {ws : DGsW} {sls : List Nat} [A : DG K g w sl] [B : DGs K gs ws sls] : DGs K (gCons g gs) (dgCons w ws) (sl ++ sls) where
  ok := fun {F σ H ρ vs r ds R Q} hK E hv h q => by
    cases hv with
    | nil => exact h.elim
    | cons h1 h2 =>
      refine ⟨_, _, rfl, A.ok hK E h1 h fun ρ1 σ1 g1 E1 s1 n1 l1 => ?_⟩
      refine B.ok hK E1 (h2.mono (E.rh s1)) g1 fun ρ2 σ2 g2 E2 s2 n2 l2 => ?_
      refine q ρ2 σ2 g2 E2 (s1.trans s2) (fun j hj => ?_) (l2.trans l1)
      rw [n2 j fun z => hj (List.mem_append_right _ z), n1 j fun z => hj (List.mem_append_left _ z)]
instance {n : Nat} {gs : TGs} {ws : DGsW} {sls : List Nat} [B : DGs K gs ws sls] : DG K (gTup K n gs) (dgTup n ws) sls where
  ok := fun {F σ H ρ v p R Q} hK E hv h q => by
    unfold dgTup at h
    split at h
    · rename_i ds e
      obtain ⟨r, d⟩ := p
      cases e
      subst hK
      obtain ⟨a, vs, rfl, h1, h2⟩ := hv.top rh_le
      exact ⟨a, vs, rfl, SqT.of h1, by rw [h2.len]; exact h.1, B.ok rfl E h2 h.2 q⟩
    · exact h.elim
/-! ### statements -/
def dNext : DSW := fun _ E ρ => E.nx ρ
def dSeq (w u : DSW) : DSW := fun X E ρ => w X { E with nx := u X E } ρ
def dBreak : DSW := fun _ E ρ => E.bk ρ
def dCont : DSW := fun _ E ρ => E.ct ρ
def dDrop (w : DW) : DSW := fun X E ρ => w X ρ fun _ ρ1 => E.nx ρ1
def dRet (w : DW) : DSW := fun X E ρ => w X ρ fun x ρ1 => match st ρ1 x with
  | some (r, d, ρ2) => r = true ∧ E.rt d ρ2
  | none => False
def dRetN : DSW := fun _ E ρ => E.rt .non ρ
def dIfS (c : DTW) (w u : DSW) : DSW := fun X E ρ => c X ρ fun b ρ1 => ifC b (w X E ρ1) (u X E ρ1)
def dNever : DSW := fun _ _ _ => False
instance : DS K W tNext dNext where
  ok := fun {F σ H ρ X E Dn} hK En L h nx bk ct rt => nx ρ σ H h En (.refl _ _)
instance : DS K W tBreak dBreak where
  ok := fun {F σ H ρ X E Dn} hK En L h nx bk ct rt => bk ρ σ H h En (.refl _ _)
instance : DS K W tCont dCont where
  ok := fun {F σ H ρ X E Dn} hK En L h nx bk ct rt => ct ρ σ H h En (.refl _ _)
instance : DS K W tNever dNever where
  ok := fun {F σ H ρ X E Dn} hK En L h nx bk ct rt => h
instance {t u : TS} {w y : DSW} [A : DS K W t w] [B : DS K W u y] : DS K W (tSeq t u) (dSeq w y) where
  ok := fun {F σ H ρ X E Dn} hK En L h nx bk ct rt => A.ok hK En L h
    (fun ρ1 σ1 H1 h1 E1 s1 => B.ok hK E1 (L.stp s1) h1 (fun ρ2 σ2 H2 h2 E2 s2 => nx ρ2 σ2 H2 h2 E2 (s1.trans s2)) (fun ρ2 σ2 H2 h2 E2 s2 => bk ρ2 σ2 H2 h2 E2 (s1.trans s2)) (fun ρ2 σ2 H2 h2 E2 s2 => ct ρ2 σ2 H2 h2 E2 (s1.trans s2))
      fun d ρ2 σ2 v H2 h2 E2 s2 r2 => rt d ρ2 σ2 v H2 h2 E2 (s1.trans s2) r2) bk ct rt
instance {t : TE} {w : DW} [A : DE K W t w] : DS K W (tDrop t) (dDrop w) where
  ok := fun {F σ H ρ X E Dn} hK En L h nx bk ct rt => A.ok hK En L h fun x ρ1 v H1 h1 E1 s1 r1 => nx ρ1 σ H1 h1 E1 s1
instance {t : TE} {w : DW} [A : DE K W t w] : DS K W (tRet t) (dRet w) where
  ok := fun {F σ H ρ X E Dn} hK En L h nx bk ct rt => A.ok hK En L h fun x ρ1 v H1 h1 E1 s1 r1 => by
    split at h1
    · rename_i r d ρ2 e
      obtain ⟨E2, s2, p2⟩ := r1.st E1 e
      obtain ⟨rfl, h1⟩ := h1
      exact rt d ρ2 σ v H1 h1 E2 (s1.trans s2) p2
    · exact h1.elim
instance : DS K W tRetN dRetN where
  ok := fun {F σ H ρ X E Dn} hK En L h nx bk ct rt => rt .non ρ σ .non H h En (.refl _ _) .non
instance {c : TT} {wc : DTW} {t u : TS} {w y : DSW} [C : DT K W c wc] [A : DS K W t w] [B : DS K W u y] : DS K W (tIfS c t u) (dIfS wc w y) where
  ok := fun {F σ H ρ X E Dn} hK En L h nx bk ct rt => C.ok hK En L h fun b ρ1 H1 h1 E1 s1 => by
    cases b with
    | true => exact A.ok hK E1 (L.stp s1) h1.t (fun ρ2 σ2 H2 h2 E2 s2 => nx ρ2 σ2 H2 h2 E2 (s1.trans s2)) (fun ρ2 σ2 H2 h2 E2 s2 => bk ρ2 σ2 H2 h2 E2 (s1.trans s2)) (fun ρ2 σ2 H2 h2 E2 s2 => ct ρ2 σ2 H2 h2 E2 (s1.trans s2)) fun d ρ2 σ2 v H2 h2 E2 s2 r2 => rt d ρ2 σ2 v H2 h2 E2 (s1.trans s2) r2
    | false => exact B.ok hK E1 (L.stp s1) h1.f (fun ρ2 σ2 H2 h2 E2 s2 => nx ρ2 σ2 H2 h2 E2 (s1.trans s2)) (fun ρ2 σ2 H2 h2 E2 s2 => bk ρ2 σ2 H2 h2 E2 (s1.trans s2)) (fun ρ2 σ2 H2 h2 E2 s2 => ct ρ2 σ2 H2 h2 E2 (s1.trans s2)) fun d ρ2 σ2 v H2 h2 E2 s2 r2 => rt d ρ2 σ2 v H2 h2 E2 (s1.trans s2) r2
/-- x = e -/
def setD (i : Nat) (x : DV) (ρ : DEnv) (R : DEnv → Prop) : Prop := match x with
  | .fr r d => noPotB ρ i = true ∧ i < ρ.length ∧ R (ρ.set i (some (.ow r d)))
  | x => match st ρ x with
    | some (r, d, ρ1) => noPotB ρ1 i = true ∧ R (ρ1.set i (some (.sh r d)))
    | none => False
theorem setD_ok {F : Fr} {Hs : Hp} {σ : L2.St} {ρ ρ0 : DEnv} {H : Hp} {v : V} {dv : DV} {i : Nat} {R : DEnv → Prop} (E : Env F σ ρ H) (s : Stp (OwnA σ ρ0) Hs (OwnA σ ρ) H) (h : RepV F Hs σ ρ H v dv) (e : setD i dv ρ R) :
    ∃ ρ', R ρ' ∧ Env F (σ.set i (some v)) ρ' H ∧ Stp (OwnA σ ρ0) Hs (OwnA (σ.set i (some v)) ρ') H := by
  cases dv with
  | fr r d =>
    obtain ⟨e1, e2, e3⟩ := e
    obtain ⟨a, rfl, h1, h2, h3, h4, h5, h6⟩ := h
    obtain ⟨E1, s1⟩ := h5.setOw (i := i) (noPot_of e1) e2 h3 h2 (isWlk_of h4) h6
    exact ⟨_, e3, E1, s1 _ Hs h1 s⟩
  | v r d =>
    simp only [setD] at e
    split at e
    · rename_i r' d' ρ1 e'
      obtain ⟨E1, s1, p1⟩ := h.st E e'
      obtain ⟨E2, s2⟩ := E1.setSh (i := i) (noPot_of e.1) p1
      exact ⟨_, e.2, E2, (s.trans s1).trans s2⟩
    · exact e.elim
  | al j =>
    simp only [setD] at e
    split at e
    · rename_i r' d' ρ1 e'
      obtain ⟨E1, s1, p1⟩ := h.st E e'
      obtain ⟨E2, s2⟩ := E1.setSh (i := i) (noPot_of e.1) p1
      exact ⟨_, e.2, E2, (s.trans s1).trans s2⟩
    · exact e.elim
def dSet (i : Nat) (w : DW) : DSW := fun X E ρ => w X ρ fun x ρ1 => setD i x ρ1 E.nx
instance {i : Nat} {t : TE} {w : DW} [A : DE K W t w] : DS K W (tAsg t (gName i)) (dSet i w) where
  ok := fun {F σ H ρ X E Dn} hK En L h nx bk ct rt => A.ok hK En L h fun x ρ1 v H1 h1 E1 s1 r1 => by
    obtain ⟨ρ2, g1, g2, g3⟩ := setD_ok E1 s1 r1 h1
    exact nx ρ2 _ H1 g1 g2 g3
def dUnp (n : Nat) (gs : DGsW) (w : DW) : DSW := fun X E ρ => w X ρ fun x ρ1 => match st ρ1 x with
  | some (r, d, ρ2) => dgTup n gs (r, d) ρ2 E.nx
  | none => False
instance {n : Nat} {gs : TGs} {ws : DGsW} {sl : List Nat} {t : TE} {w : DW} [A : DE K W t w] [B : DGs K gs ws sl] : DS K W (tAsg t (gTup K n gs)) (dUnp n ws w) where
  ok := fun {F σ H ρ X E Dn} hK En L h nx bk ct rt => A.ok hK En L h fun x ρ1 v H1 h1 E1 s1 r1 => by
    split at h1
    · rename_i r d ρ2 e
      obtain ⟨E2, s2, p2⟩ := r1.st E1 e
      exact (inferInstance : DG K (gTup K n gs) (dgTup n ws) sl).ok hK E2 (p := (r, d)) p2 h1 fun ρ3 σ3 h3 E3 s3 _ _ => nx ρ3 σ3 H1 h3 E3 ((s1.trans s2).trans s3)
    · exact h1.elim
/-- o[i] = e of a list -/
def dSubL (wv wo wi : DW) : DSW := fun X E ρ => wv X ρ fun y ρ1 => wo X ρ1 fun x ρ2 => wi X ρ2 fun n ρ3 => match rd ρ3 n with
  | some (_, .int k) => match st ρ3 y.tmp with
    | some (r, d, ρ4) => onList x.tmp ρ4 fun i r0 ds => match ixN ds.length k with
      | some j => E.nx (ρ4.set i (some (.ow (r0 && r) (.lst (ds.set j d)))))
      | none => False
    | none => False
  | _ => False
instance {tv to ti : TE} {wv wo wi : DW} [A : DE K W tv wv] [B : DE K W to wo] [C : DE K W ti wi] : DS K W (tAsg tv (gSub to ti rSetL)) (dSubL wv wo wi) where
  ok := fun {F σ H ρ X E Dn} hK En L h nx bk ct rt => A.ok hK En L h fun y ρ1 u H1 h1 E1 s1 r1 => B.ok hK E1 (L.stp s1) h1 fun x ρ2 v H2 h2 E2 s2 r2 => C.ok hK E2 (L.stp (s1.trans s2)) h2 fun n ρ3 w H3 h3 E3 s3 r3 => by
    subst hK
    have r1' : RepV F H σ ρ3 H3 u y.tmp := r1.stp E1 (s2.trans s3)
    have r2' : RepV F H σ ρ3 H3 v x.tmp := r2.stp E2 s3
    split at h3
    · rename_i rn k en
      cases (show w = .int k from r3.top E3 en)
      split at h3
      · rename_i r d ρ4 e
        obtain ⟨E4, s4, p4⟩ := r1'.st E3 e
        obtain ⟨i, r0, ds, a, vs, h4, hi, rfl, hs, ha, hv⟩ := onList_at E4 (r2'.tmp0 E3 s4 h3) h3
        split at h4
        · rename_i j hj
          have hv1 : RepL F.K (F.RH (OwnA σ ρ4) H3 (r0 && r)) vs ds := hv.weak fun z => by rw [Bool.and_eq_true] at z; exact z.1
          have hp1 : Rep F.K (F.RH (OwnA σ ρ4) H3 (r0 && r)) u d := p4.weak fun z => by rw [Bool.and_eq_true] at z; exact z.2
          obtain ⟨E5, s5⟩ := E4.put (r' := r0 && r) (d' := .lst (ds.set j d)) (o := .lst (vs.set j u)) hi hs (fun z => by cases z) ⟨_, rfl, RepL.set hp1 j hv1⟩
          exact ⟨a, vs, k, j, rfl, rfl, ha, by rw [hv.len]; exact hj, nx _ σ _ h4 E5 ((((s1.trans s2).trans s3).trans s4).trans s5)⟩
        · exact h4.elim
      · exact h3.elim
    · exact h3.elim
/-- the dict of a slot's own -/
def onDict (x : DV) (ρ : DEnv) (y : D) (k : Nat → Bool → (Bool → D → Sl) → Prop) : Prop := match x with
  | .al i => match ρ[i]? with
    | some (some (.ow r (.dK es))) => match keyOf y with
      | some kk => es.length < sizeLine ∧ k i r fun r' d => .ow r' (.dK (putC es kk d))
      | none => False
    | some (some (.ow r (.dT es))) => match y with
      | .tup ys => match keysOf ys with
        | some kk => es.length < sizeLine ∧ k i r fun r' d => .ow r' (.dT (putC es kk d))
        | none => False
      | _ => False
    | _ => False
  | _ => False
theorem onDict_at {F : Fr} {Hs : Hp} {σ : L2.St} {ρ : DEnv} {H : Hp} {v vy : V} {dv : DV} {y : D} {Hr : Hp} {k : Nat → Bool → (Bool → D → Sl) → Prop} (E : Env F σ ρ H) (h : RepV F Hs σ ρ H v dv) (hy : TopD F.K H Hr vy y) (e : onDict dv ρ y k) :
    ∃ i r a f, v = .ref a ∧ k i r f ∧ ∀ r' u d, Rep F.K (F.RH (OwnA σ ρ) H r') u d → ∃ H', DPut H a vy u H' ∧ Env F σ (ρ.set i (some (f (r && r') d))) H' ∧ Stp (OwnA σ ρ) H (OwnA σ (ρ.set i (some (f (r && r') d)))) H' := by
  unfold onDict at e
  split at e
  · rename_i i
    split at e
    · rename_i r es hi
      obtain ⟨a, h1, ⟨kvs, h2, h3, h4⟩, _⟩ := E.ow i r _ hi
      rw [show σ[i]? = some (some v) from h] at h1
      cases h1
      split at e
      · rename_i kk hk
        have ey := keyOf_v hy hk
        subst ey
        refine ⟨i, r, a, _, rfl, e.2, fun r' u d hu => ?_⟩
        have kr : KRep F.K (F.RH (OwnA σ ρ) H (r && r')) kvs es := ⟨h3, h4.weak fun z => by rw [Bool.and_eq_true] at z; exact z.1⟩
        have hu1 : Rep F.K (F.RH (OwnA σ ρ) H (r && r')) u d := hu.weak fun z => by rw [Bool.and_eq_true] at z; exact z.2
        obtain ⟨E2, s2⟩ := E.put (r' := r && r') (d' := .dK (putC es kk d)) (o := .dK (putK kvs kk u)) hi h (fun z => by cases z) ⟨_, rfl, by rw [putC_eq]; exact (kr.put kk hu1).1, by rw [putC_eq]; exact (kr.put kk hu1).2⟩
        exact ⟨_, .inl ⟨kvs, kk, h2, rfl, by rw [kr.len]; exact e.1, rfl⟩, E2, s2⟩
      · exact e.elim
    · rename_i r es hi
      obtain ⟨a, h1, ⟨kvs, h2, h3, h4⟩, _⟩ := E.ow i r _ hi
      rw [show σ[i]? = some (some v) from h] at h1
      cases h1
      split at e
      · rename_i ys
        split at e
        · rename_i kk hk
          obtain ⟨b, ws, rfl, g1, g2⟩ := hy
          have ey := keysOf_v g2 hk
          subst ey
          refine ⟨i, r, a, _, rfl, e.2, fun r' u d hu => ?_⟩
          have kr : KRep F.K (F.RH (OwnA σ ρ) H (r && r')) kvs es := ⟨h3, h4.weak fun z => by rw [Bool.and_eq_true] at z; exact z.1⟩
          have hu1 : Rep F.K (F.RH (OwnA σ ρ) H (r && r')) u d := hu.weak fun z => by rw [Bool.and_eq_true] at z; exact z.2
          obtain ⟨E2, s2⟩ := E.put (r' := r && r') (d' := .dT (putC es kk d)) (o := .dT (putK kvs kk u)) hi h (fun z => by cases z) ⟨_, rfl, by rw [putC_eq]; exact (kr.put kk hu1).1, by rw [putC_eq]; exact (kr.put kk hu1).2⟩
          exact ⟨_, .inr ⟨kvs, kk, b, h2, rfl, g1, by rw [kr.len]; exact e.1, rfl⟩, E2, s2⟩
        · exact e.elim
      · exact e.elim
    · exact e.elim
  · exact e.elim
theorem onDict_al {x : DV} {ρ : DEnv} {y : D} {k : Nat → Bool → (Bool → D → Sl) → Prop} (e : onDict x ρ y k) : ∃ i, x = .al i := by
  unfold onDict at e
  split at e
  · exact ⟨_, rfl⟩
  · exact e.elim
def dDPut (wd wy wv : DW) : DSW := fun X E ρ => wv X ρ fun z ρ1 => wd X ρ1 fun x ρ2 => wy X ρ2 fun y ρ3 => match rd ρ3 y with
  | some (_, yd) => match st ρ3 z.tmp with
    | some (r, d, ρ4) => onDict x.tmp ρ4 yd fun i r0 f => E.nx (ρ4.set i (some (f (r0 && r) d)))
    | none => False
  | none => False
instance {td ty tv : TE} {wd wy wv : DW} [A : DE K W tv wv] [B : DE K W td wd] [C : DE K W ty wy] : DS K W (sDPut td ty tv) (dDPut wd wy wv) where
  ok := fun {F σ H ρ X E Dn} hK En L h nx bk ct rt => A.ok hK En L h fun z ρ1 u H1 h1 E1 s1 r1 => B.ok hK E1 (L.stp s1) h1 fun x ρ2 v H2 h2 E2 s2 r2 => C.ok hK E2 (L.stp (s1.trans s2)) h2 fun y ρ3 w H3 h3 E3 s3 r3 => by
    subst hK
    have r1' : RepV F H σ ρ3 H3 u z.tmp := r1.stp E1 (s2.trans s3)
    have r2' : RepV F H σ ρ3 H3 v x.tmp := r2.stp E2 s3
    split at h3
    · rename_i ry yd ey
      have hy := r3.top E3 ey
      split at h3
      · rename_i r d ρ4 e
        obtain ⟨E4, s4, p4⟩ := r1'.st E3 e
        obtain ⟨i, hx⟩ := onDict_al h3
        rw [hx] at h3 r2'
        obtain ⟨i, r0, a, f, rfl, h4, h5⟩ := onDict_at (Hs := H) E4 (show RepV F H σ ρ4 H3 v (.al i) from r2') hy h3
        obtain ⟨H5, g1, E5, s5⟩ := h5 r u d p4
        exact ⟨a, H5, rfl, g1, nx _ σ _ h4 E5 ((((s1.trans s2).trans s3).trans s4).trans s5)⟩
      · exact h3.elim
    · exact h3.elim
/-- x += e -/
abbrev DIpW := Bool × D → Bool × D → (D → Prop) → Prop
def dAugN (g : Int → Int → Int) (i : Nat) (w : DW) : DSW := fun X E ρ => match ρ[i]? with
  | some (some (.sh _ (.int a))) => w X ρ fun y ρ1 => match rd ρ1 y with
    | some (_, .int b) => noPotB ρ1 i = true ∧ E.nx (ρ1.set i (some (.sh true (.int (g a b)))))
    | _ => False
  | _ => False
instance {i : Nat} {g : Int → Int → Int} {t : TE} {w : DW} [A : DE K W t w] : DS K W (tAug i t (ipI g)) (dAugN g i w) where
  ok := fun {F σ H ρ X E Dn} hK En L h nx bk ct rt => by
    unfold dAugN at h
    split at h
    · rename_i r a hi
      obtain ⟨v, h1, h2⟩ := En.sh i _ _ hi
      cases h2
      refine ⟨.int a, h1, A.ok hK En L h fun y ρ1 u H1 g1 E1 s1 r1 => ?_⟩
      split at g1
      · rename_i r' b e
        cases (show u = .int b from r1.top E1 e)
        obtain ⟨E2, s2⟩ := E1.setSh (i := i) (r := true) (noPot_of g1.1) (.int (g a b))
        exact ⟨a, b, rfl, rfl, nx _ _ H1 g1.2 E2 (s1.trans s2)⟩
      · exact g1.elim
    · exact h.elim
/-- d[k] += e -/
def dDAug (g : Int → Int → Int) (wd wy wv : DW) : DSW := fun X E ρ => wd X ρ fun x ρ1 => wy X ρ1 fun y ρ2 => match rd ρ2 x, rd ρ2 y with
  | some p, some q => match getD p q with
    | some (some (.int a)) => wv X ρ2 fun z ρ3 => match rd ρ3 z with
      | some (_, .int b) => q.2.imm = true ∧ onDict x.tmp ρ3 q.2 fun i r0 f => E.nx (ρ3.set i (some (f (r0 && true) (.int (g a b)))))
      | _ => False
    | _ => False
  | _, _ => False
theorem Rep.immTop {K : PySem.W.Frag} {H Hr : Hp} {v : V} {d : D} (h : TopD K H Hr v d) (e : Same Hr H) (i : d.imm = true) {H' : Hp} (s : ∀ a xs, H a = some (.tup xs) → H' a = some (.tup xs)) : Rep K H' v d := by
  have h1 : Rep K H v d := h.rep e fun z => by
    subst z
    simp [D.imm] at i
  have h2 : Rep K (cut (fun _ => True) H) v d := h1.imm i
  refine h2.mono fun a o ho => ?_
  obtain ⟨g1, g2⟩ := cut_inv ho
  rcases g2 with g2 | ⟨xs, rfl⟩
  · exact absurd trivial g2
  · exact s a xs g1
theorem Stp.tup {F : Fr} {σ : L2.St} {ρ : DEnv} {H H' : Hp} {O' : Addr → Prop} (E : Env F σ ρ H) (s : Stp (OwnA σ ρ) H O' H') : ∀ a xs, H a = some (.tup xs) → H' a = some (.tup xs) := fun a xs h => (s.kp a _ h fun z => by
  obtain ⟨u, hu, nu⟩ := E.notup z
  rw [h] at hu
  cases hu
  exact nu xs rfl).1
instance {g : Int → Int → Int} {td ty tv : TE} {wd wy wv : DW} [A : DE K W td wd] [B : DE K W ty wy] [C : DE K W tv wv] : DS K W (sDAug td ty tv (fun x y H Q => ∃ i j, x = .int i ∧ y = .int j ∧ Q (.int (g i j)) H)) (dDAug g wd wy wv) where
  ok := fun {F σ H ρ X E Dn} hK En L h nx bk ct rt => A.ok hK En L h fun x ρ1 v H1 h1 E1 s1 r1 => B.ok hK E1 (L.stp s1) h1 fun y ρ2 w H2 h2 E2 s2 r2 => by
    subst hK
    have r1' : RepV F H σ ρ2 H2 v x.tmp := r1.stp E1 s2
    split at h2
    · rename_i p q hp hq
      have hx := r1'.top E2 (by rw [rd_tmp]; exact hp)
      have hy := r2.top E2 hq
      split at h2
      · rename_i a e
        obtain ⟨b, rfl, _, v', g1, g2⟩ := getD_at hx hy e
        cases g2
        refine ⟨b, .int a, rfl, g1, C.ok rfl E2 (L.stp (s1.trans s2)) h2 fun z ρ3 u H3 h3 E3 s3 r3 => ?_⟩
        split at h3
        · rename_i r' c ec
          cases (show u = .int c from r3.top E3 ec)
          obtain ⟨im, h3⟩ := h3
          obtain ⟨i0, hx0⟩ := onDict_al h3
          rw [hx0] at h3 r1'
          have hy3 : TopD F.K H3 H3 w q.2 := (Rep.immTop hy rh_le im (s3.tup E2)).top fun _ _ z => z
          obtain ⟨i, r0, a', f, ea, h4, h5⟩ := onDict_at (Hs := H) E3 (show RepV F H σ ρ3 H3 (.ref b) (.al i0) from r1') hy3 h3
          cases ea
          obtain ⟨H5, g3, E5, s5⟩ := h5 true (.int (g a c)) (.int (g a c)) (.int _)
          exact ⟨a, c, rfl, rfl, H5, g3, nx _ σ _ h4 E5 (((s1.trans s2).trans s3).trans s5)⟩
        · exact h3.elim
      · exact h2.elim
    · exact h2.elim
/-- a, b = e, f -/
def dPar (i j : Nat) (u : DAW) : DSW := fun X E ρ => u X ρ fun xs ρ1 => match sts ρ1 (xs.map DV.tmp) with
  | some (r, [d, e], ρ2) => noPotB ρ2 i = true ∧ noPotB (ρ2.set i (some (.sh (r || d.imm) d))) j = true ∧ E.nx ((ρ2.set i (some (.sh (r || d.imm) d))).set j (some (.sh (r || e.imm) e)))
  | _ => False
instance {i j : Nat} {t : TA} {u : DAW} [A : DA K W t u] : DS K W (tPar i j t) (dPar i j u) where
  ok := fun {F σ H ρ X E Dn} hK En L h nx bk ct rt => A.ok hK En L h fun xs ρ1 vs H1 h1 E1 s1 r1 => by
    split at h1
    · rename_i r d e ρ2 hs
      obtain ⟨E2, s2, p2⟩ := sts_rep E1 (dCons_tmp r1) hs
      cases p2 with
      | cons a b =>
        cases b with
        | cons b c =>
          cases c
          obtain ⟨E3, s3⟩ := E2.setSh (i := i) (noPot_of h1.1) a.up
          obtain ⟨E4, s4⟩ := E3.setSh (i := j) (noPot_of h1.2.1) (b.up.mono (E2.rh s3))
          exact ⟨_, _, rfl, nx _ _ H1 h1.2.2 E4 (((s1.trans s2).trans s3).trans s4)⟩
    · exact h1.elim
end
end PW

namespace PW
open PySem PySem.Spec PyProof.Rows L2
/-! ### what is walked -/
/-- the iterator J gives these things, whatever is done meanwhile -/
def Wk (J : It) (items : Items) (F : Fr) (O : Addr → Prop) (H : Hp) : Prop := ∃ G : Fr → (Addr → Prop) → Hp → Prop,
  G F O H ∧
  (∀ F O H O' H', G F O H → (∀ r, Same (F.RH O H r) (F.RH O' H' r)) → Stp O H O' H' → G F O' H') ∧
  (∀ F O H a o, G F O H → H a = none → G (F.hide a) O (upd H a o)) ∧
  (∀ F O H a u o, G F O H → F.hid a → H a = some u → (∀ xs, u ≠ .tup xs) → G F O (upd H a o)) ∧
  (∀ F O H i, G F O H → i = items.length → J.stop i H) ∧
  (∀ F O H i, G F O H → i < items.length → J.go i H) ∧
  (∀ F O H i r d x H', G F O H → items[i]? = some (r, d) → J.yld i H x H' → Same H H' ∧ Rep F.K (F.RH O H' r) x d)
class DI (K : PySem.W.Frag) (W : WXT) (wi : TI) (w : outParam DIW) : Prop where
  ok : ∀ {F : Fr} {σ : L2.St} {H : Hp} {ρ : DEnv} {X : XC} {R : Items → DEnv → Prop} {Q : It → Hp → Prop}, F.K = K → Env F σ ρ H → XLink F W X σ ρ H → w X ρ R →
    (∀ items ρ' H' J, R items ρ' → Env F σ ρ' H' → Stp (OwnA σ ρ) H (OwnA σ ρ') H' → Wk J items F (OwnA σ ρ') H' → Q J H') → wi σ H Q
theorem rh_hide {F : Fr} {O : Addr → Prop} {H : Hp} {a : Addr} {o : HO} (h : H a = none) (r : Bool) : Same (F.RH O H r) ((F.hide a).RH O (upd H a o) r) := by
  refine cut_mono (fun b u hb nb => ?_) fun b xs hb _ => ?_
  · have hba : b ≠ a := ne_of_none hb h
    refine ⟨by rw [upd_ne hba]; exact hb, fun z => ?_⟩
    rcases z with (z | z) | z | z
    · exact hba z
    · exact nb (.inl z)
    · exact nb (.inr (.inl z))
    · exact nb (.inr (.inr z))
  · rw [upd_ne (ne_of_none hb h)]
    exact hb
theorem rh_hid {F : Fr} {O : Addr → Prop} {H : Hp} {a : Addr} {u o : HO} (hh : F.hid a) (ha : H a = some u) (nt : ∀ xs, u ≠ .tup xs) (r : Bool) : Same (F.RH O H r) (F.RH O (upd H a o) r) := by
  refine cut_mono (fun b v hb nb => ?_) fun b xs hb _ => ?_
  · have hba : b ≠ a := fun z => nb (.inl (z ▸ hh))
    exact ⟨by rw [upd_ne hba]; exact hb, nb⟩
  · have hba : b ≠ a := fun z => by
      subst z
      rw [ha] at hb
      cases hb
      exact nt xs rfl
    rw [upd_ne hba]
    exact hb
section
variable {K : PySem.W.Frag} {W : WXT}
theorem wk_list {F : Fr} {O : Addr → Prop} {H : Hp} {a : Addr} {vs : List V} {ds : List D} {r : Bool} (h1 : F.RH O H r a = some (.lst vs)) (h2 : RepL F.K (F.RH O H r) vs ds) : Wk (Itl F.K a) (ds.map fun d => (r, d)) F O H := by
  refine ⟨fun G O H => G.K = F.K ∧ G.RH O H r a = some (.lst vs) ∧ RepL F.K (G.RH O H r) vs ds, ⟨rfl, h1, h2⟩, fun G O H O' H' h s _ => ⟨h.1, s r _ _ h.2.1, h.2.2.mono (s r)⟩, fun G O H b o h hb => ⟨h.1, rh_hide hb r _ _ h.2.1, h.2.2.mono (rh_hide hb r)⟩, fun G O H b u o h hh hb nt => ⟨h.1, rh_hid hh hb nt r _ _ h.2.1, h.2.2.mono (rh_hid hh hb nt r)⟩, fun G O H i h hi => ?_, fun G O H i h hi => ?_, fun G O H i r' d x H' h hi y => ?_⟩
  · rw [List.length_map, ← h2.len] at hi
    exact ⟨vs, SqL.of (cut_le _ _ h.2.1), Nat.le_of_eq hi.symm⟩
  · rw [List.length_map, ← h2.len] at hi
    exact ⟨vs, vs[i], SqL.of (cut_le _ _ h.2.1), by simp [hi]⟩
  · obtain ⟨rfl, y⟩ := y
    rw [List.getElem?_map] at hi
    cases e : ds[i]? with
    | none =>
      rw [e] at hi
      cases hi
    | some d' =>
      rw [e] at hi
      cases hi
      obtain ⟨v, g1, g2⟩ := h.2.2.get e
      have := y vs (SqL.of (cut_le _ _ h.2.1))
      rw [g1] at this
      cases this
      refine ⟨.refl _, ?_⟩
      rw [h.1]
      exact g2
theorem wk_tup {F : Fr} {O : Addr → Prop} {H : Hp} {a : Addr} {vs : List V} {ds : List D} {r : Bool} (h1 : F.RH O H r a = some (.tup vs)) (h2 : RepL F.K (F.RH O H r) vs ds) : Wk (Itt F.K a) (ds.map fun d => (r, d)) F O H := by
  refine ⟨fun G O H => G.K = F.K ∧ G.RH O H r a = some (.tup vs) ∧ RepL F.K (G.RH O H r) vs ds, ⟨rfl, h1, h2⟩, fun G O H O' H' h s _ => ⟨h.1, s r _ _ h.2.1, h.2.2.mono (s r)⟩, fun G O H b o h hb => ⟨h.1, rh_hide hb r _ _ h.2.1, h.2.2.mono (rh_hide hb r)⟩, fun G O H b u o h hh hb nt => ⟨h.1, rh_hid hh hb nt r _ _ h.2.1, h.2.2.mono (rh_hid hh hb nt r)⟩, fun G O H i h hi => ?_, fun G O H i h hi => ?_, fun G O H i r' d x H' h hi y => ?_⟩
  · rw [List.length_map, ← h2.len] at hi
    exact ⟨vs, SqT.of (cut_le _ _ h.2.1), Nat.le_of_eq hi.symm⟩
  · rw [List.length_map, ← h2.len] at hi
    exact ⟨vs, vs[i], SqT.of (cut_le _ _ h.2.1), by simp [hi]⟩
  · obtain ⟨rfl, y⟩ := y
    rw [List.getElem?_map] at hi
    cases e : ds[i]? with
    | none =>
      rw [e] at hi
      cases hi
    | some d' =>
      rw [e] at hi
      cases hi
      obtain ⟨v, g1, g2⟩ := h.2.2.get e
      have := y vs (SqT.of (cut_le _ _ h.2.1))
      rw [g1] at this
      cases this
      refine ⟨.refl _, ?_⟩
      rw [h.1]
      exact g2
def signs (z : Str) : Items := z.cps.toList.map fun c => (true, D.str ⟨#[c]⟩)
theorem wk_str {F : Fr} {O : Addr → Prop} {H : Hp} {z : Str} : Wk (Its z) (signs z) F O H := by
  refine ⟨fun _ _ _ => True, trivial, fun _ _ _ _ _ _ _ _ => trivial, fun _ _ _ _ _ _ _ => trivial, fun _ _ _ _ _ _ _ _ _ _ => trivial, fun _ _ _ i _ hi => ?_, fun _ _ _ i _ hi => ?_, fun G O H i r' d x H' h hi y => ?_⟩
  · exact Nat.le_of_eq (by simpa [signs] using hi.symm : z.cps.size = i)
  · exact (by simpa [signs] using hi : i < z.cps.size)
  · obtain ⟨rfl, c, hc, rfl⟩ := y
    refine ⟨.refl _, ?_⟩
    unfold signs at hi
    rw [List.getElem?_map, Array.getElem?_toList, hc] at hi
    cases hi
    exact .str _
/-- what a for goes over: a list, a tuple, a text -/
def iG (K : PySem.W.Frag) (te : TE) : TI := fun σ H R => te σ H fun v H1 => (∃ a, v = .ref a ∧ (∃ xs, SqL K H1 a xs) ∧ R (Itl K a) H1) ∨ (∃ a, v = .ref a ∧ (∃ xs, SqT K H1 a xs) ∧ R (Itt K a) H1) ∨ ∃ x, v = .str x ∧ R (Its x) H1
end
/-- a thing at hand, walked -/
theorem it_list {X : Cx} {tg : Expr} {pins : List (Addr × Obj)} {σ : L2.St} {H : Hp} {R : It → Hp → Prop} {s : Shared} {a : Addr} {xs : List V} (I : Inv X pins σ H s) (hq : SqL X.K H a xs) (q : R (Itl X.K a) H) : wpAny (model X.prog X.w) X.A (pyIter (.ref a)) (PIE X pins σ tg R) X.xe s := by
  obtain ⟨its, _, p, _⟩ := I.list hq
  exact wpAny_pyIter_list p.isList (pi_one (tk := s.toks) I _ (turn_list a _) ⟨_, Heap.get?_push_size _ rfl, rfl, rfl⟩ q)
theorem it_tup {X : Cx} {tg : Expr} {pins : List (Addr × Obj)} {σ : L2.St} {H : Hp} {R : It → Hp → Prop} {s : Shared} {a : Addr} {xs : List V} (I : Inv X pins σ H s) (hq : SqT X.K H a xs) (q : R (Itt X.K a) H) : wpAny (model X.prog X.w) X.A (pyIter (.ref a)) (PIE X pins σ tg R) X.xe s := by
  obtain ⟨its, _, p, _⟩ := I.tuple hq
  exact wpAny_pyIter_tuple (show s.heap.IsTuple a its.toArray from p) (pi_one (tk := s.toks) I _ (turn_tuple a _) ⟨_, Heap.get?_push_size _ rfl, rfl, rfl⟩ q)
theorem it_str {X : Cx} {tg : Expr} {pins : List (Addr × Obj)} {σ : L2.St} {H : Hp} {R : It → Hp → Prop} {s : Shared} {x : Str} {t : Tok} (I : Inv X pins σ H s) (q : R (Its x) H) : wpAny (model X.prog X.w) X.A (pyIter (.str x t)) (PIE X pins σ tg R) X.xe s := by
  by_cases ha : x.cps.all (· < 128) = true
  · exact wpAny_pyIter_ascii ha (pi_one (tk := s.toks) I _ (turn_str _ x t "str_ascii_iterator" (.inl rfl)) ⟨_, Heap.get?_push_size _ rfl, rfl, rfl⟩ q)
  · exact wpAny_pyIter_wide (Bool.eq_false_iff.mpr ha) (pi_one (tk := s.toks) I _ (turn_str _ x t "str_iterator" (.inr rfl)) ⟨_, Heap.get?_push_size _ rfl, rfl, rfl⟩ q)
theorem pi_G {X : Cx} {K : PySem.W.Frag} {tg l : Expr} {tl : TE} (hl : PE X l tl) (hK : X.K = K := by rfl) : PI X tg l (iG K tl) := by
  subst hK
  refine ⟨fun pins s σ H R I h => thn (hl.run pins s σ H _ I h) fun v s1 ⟨x, H1, I1, r1, q1⟩ => ?_⟩
  rcases q1 with ⟨a, rfl, ⟨xs, hq⟩, q⟩ | ⟨a, rfl, ⟨xs, hq⟩, q⟩ | ⟨z, rfl, q⟩
  · cases r1
    exact it_list I1 hq q
  · cases r1
    exact it_tup I1 hq q
  · obtain ⟨t, rfl⟩ := r1
    exact it_str I1 q
section
variable {K : PySem.W.Frag} {W : WXT}
def dIterG (w : DW) : DIW := fun X ρ R => w X ρ fun x ρ1 => match st ρ1 x with
  | some (r, .lst ds, ρ2) => R (ds.map fun d => (r, d)) ρ2
  | some (r, .tup ds, ρ2) => R (ds.map fun d => (r, d)) ρ2
  | some (_, .str z, ρ2) => R (signs z) ρ2
  | _ => False
instance {t : TE} {w : DW} [A : DE K W t w] : DI K W (iG K t) (dIterG w) where
  ok := fun {F σ H ρ X R Q} hK E L h q => A.ok hK E L h fun x ρ1 v H1 h1 E1 s1 r1 => by
    subst hK
    split at h1
    · rename_i r ds ρ2 e
      obtain ⟨E2, s2, p2⟩ := r1.st E1 e
      cases p2 with
      | lst g1 g2 => exact .inl ⟨_, rfl, ⟨_, SqL.of (cut_le _ _ g1)⟩, q _ ρ2 H1 _ h1 E2 (s1.trans s2) (wk_list g1 g2)⟩
    · rename_i r ds ρ2 e
      obtain ⟨E2, s2, p2⟩ := r1.st E1 e
      cases p2 with
      | tup g1 g2 => exact .inr (.inl ⟨_, rfl, ⟨_, SqT.of (cut_le _ _ g1)⟩, q _ ρ2 H1 _ h1 E2 (s1.trans s2) (wk_tup g1 g2)⟩)
    · rename_i r z ρ2 e
      obtain ⟨E2, s2, p2⟩ := r1.st E1 e
      cases p2
      exact .inr (.inr ⟨_, rfl, q _ ρ2 H1 _ h1 E2 (s1.trans s2) wk_str⟩)
    · exact h1.elim
/-- lo, lo + 1, .. -/
def rangeD (lo : Int) (n : Nat) : Items := (List.range n).map fun i => (true, D.int (lo + (i : Nat)))
theorem wk_rng {F : Fr} {O : Addr → Prop} {H : Hp} {lo : Int} {n : Nat} : Wk (Itr lo n) (rangeD lo n) F O H := by
  refine ⟨fun _ _ _ => True, trivial, fun _ _ _ _ _ _ _ _ => trivial, fun _ _ _ _ _ _ _ => trivial, fun _ _ _ _ _ _ _ _ _ _ => trivial, fun _ _ _ i _ hi => ?_, fun _ _ _ i _ hi => ?_, fun G O H i r' d x H' h hi y => ?_⟩
  · exact Nat.le_of_eq (by simpa [rangeD] using hi.symm : n = i)
  · exact (by simpa [rangeD] using hi : i < n)
  · obtain ⟨rfl, rfl⟩ := y
    refine ⟨.refl _, ?_⟩
    unfold rangeD at hi
    rw [List.getElem?_map] at hi
    cases e : (List.range n)[i]? with
    | none =>
      rw [e] at hi
      cases hi
    | some j =>
      rw [e] at hi
      cases hi
      have := List.getElem?_eq_some_iff.mp e
      obtain ⟨hl, hj⟩ := this
      rw [List.getElem_range] at hj
      subst hj
      exact .int _
def dRng1 (u : DAW) : DIW := fun X ρ R => u X ρ fun xs ρ1 => match rds ρ1 xs with
  | some [(_, .int j)] => -(2 ^ 62) ≤ j ∧ j < 2 ^ 62 ∧ R (rangeD 0 j.toNat) ρ1
  | _ => False
def dRng2 (u : DAW) : DIW := fun X ρ R => u X ρ fun xs ρ1 => match rds ρ1 xs with
  | some [(_, .int i), (_, .int j)] => -(2 ^ 62) ≤ i ∧ i < 2 ^ 62 ∧ -(2 ^ 62) ≤ j ∧ j < 2 ^ 62 ∧ R (rangeD i (j - i).toNat) ρ1
  | _ => False
instance {t : TA} {u : DAW} [A : DA K W t u] : DI K W (iRng1 t) (dRng1 u) where
  ok := fun {F σ H ρ X R Q} hK E L h q => A.ok hK E L h fun xs ρ1 vs H1 h1 E1 s1 r1 => by
    split at h1
    · rename_i r j e
      obtain ⟨v, rfl, g⟩ := tops1 (tops_of E1 r1 e)
      cases (show v = .int j from g)
      exact ⟨j, rfl, h1.1, h1.2.1, q _ ρ1 H1 _ h1.2.2 E1 s1 wk_rng⟩
    · exact h1.elim
instance {t : TA} {u : DAW} [A : DA K W t u] : DI K W (iRng2 t) (dRng2 u) where
  ok := fun {F σ H ρ X R Q} hK E L h q => A.ok hK E L h fun xs ρ1 vs H1 h1 E1 s1 r1 => by
    split at h1
    · rename_i r i r' j e
      obtain ⟨v, w, rfl, g, g'⟩ := tops2 (tops_of E1 r1 e)
      cases (show v = .int i from g)
      cases (show w = .int j from g')
      exact ⟨i, j, rfl, ⟨h1.1, h1.2.1, h1.2.2.1, h1.2.2.2.1⟩, q _ ρ1 H1 _ h1.2.2.2.2 E1 s1 wk_rng⟩
    · exact h1.elim
/-- pairs with their numbers -/
def enumD (r : Bool) (ds : List D) : Items := (List.range ds.length).zipWith (fun i d => (r, D.tup [.int (i : Nat), d])) ds
theorem wk_enum {F : Fr} {O : Addr → Prop} {H : Hp} {a : Addr} {vs : List V} {ds : List D} {r : Bool} (h1 : F.RH O H r a = some (.lst vs)) (h2 : RepL F.K (F.RH O H r) vs ds) : Wk (Ite F.K a) (enumD r ds) F O H := by
  have hl : (enumD r ds).length = ds.length := by simp [enumD]
  refine ⟨fun G O H => G.K = F.K ∧ G.RH O H r a = some (.lst vs) ∧ RepL F.K (G.RH O H r) vs ds, ⟨rfl, h1, h2⟩, fun G O H O' H' h s _ => ⟨h.1, s r _ _ h.2.1, h.2.2.mono (s r)⟩, fun G O H b o h hb => ⟨h.1, rh_hide hb r _ _ h.2.1, h.2.2.mono (rh_hide hb r)⟩, fun G O H b u o h hh hb nt => ⟨h.1, rh_hid hh hb nt r _ _ h.2.1, h.2.2.mono (rh_hid hh hb nt r)⟩, fun G O H i h hi => ?_, fun G O H i h hi => ?_, fun G O H i r' d x H' h hi y => ?_⟩
  · rw [hl, ← h2.len] at hi
    exact ⟨vs, SqL.of (cut_le _ _ h.2.1), Nat.le_of_eq hi.symm⟩
  · rw [hl, ← h2.len] at hi
    exact ⟨vs, vs[i], SqL.of (cut_le _ _ h.2.1), by simp [hi]⟩
  · obtain ⟨T, v, rfl, nT, rfl, y⟩ := y
    have sm : Same H (upd H T (.tup [.int (i : Nat), v])) := same_new nT
    refine ⟨sm, ?_⟩
    have hi' : (if h : i < ds.length then some (r, D.tup [.int (i : Nat), ds[i]]) else none) = some (r', d) := by
      rw [← hi]
      unfold enumD
      rw [List.getElem?_zipWith]
      by_cases z : i < ds.length
      · simp [z]
      · simp [z]
    by_cases z : i < ds.length
    · rw [dif_pos z] at hi'
      cases hi'
      obtain ⟨w, g1, g2⟩ := h.2.2.get (i := i) (d := ds[i]) (by simp [z])
      have := y vs (SqL.of (cut_le _ _ h.2.1))
      rw [g1] at this
      cases this
      have up : Same (G.RH O H r) (G.RH O (upd H T (.tup [.int (i : Nat), v])) r) := cut_mono (fun b u hb nb => ⟨sm _ _ hb, nb⟩) fun b xs hb _ => sm _ _ hb
      rw [h.1]
      exact .tup (cut_tup upd_same) (.cons (.int _) (.one (g2.mono up)))
    · rw [dif_neg z] at hi'
      cases hi'
def dEnum (u : DAW) : DIW := fun X ρ R => u X ρ fun xs ρ1 => match sts ρ1 (xs.map DV.tmp) with
  | some (r, [.lst ds], ρ2) => R (enumD r ds) ρ2
  | _ => False
instance {t : TA} {u : DAW} [A : DA K W t u] : DI K W (iEnum K t) (dEnum u) where
  ok := fun {F σ H ρ X R Q} hK E L h q => A.ok hK E L h fun xs ρ1 vs H1 h1 E1 s1 r1 => by
    subst hK
    split at h1
    · rename_i r ds ρ2 e
      obtain ⟨E2, s2, p2⟩ := sts_rep E1 (dCons_tmp r1) e
      cases p2 with
      | cons g g' =>
        cases g'
        cases g with
        | lst g1 g2 => exact ⟨_, _, rfl, SqL.of (cut_le _ _ g1), q _ ρ2 H1 _ h1 E2 (s1.trans s2) (wk_enum g1 g2)⟩
    · exact h1.elim
def zipD (r : Bool) (ds es : List D) : Items := ds.zipWith (fun d e => (r, D.tup [d, e])) es
theorem wk_zip {F : Fr} {O : Addr → Prop} {H : Hp} {a b : Addr} {vs ws : List V} {ds es : List D} {r : Bool} (h1 : F.RH O H r a = some (.lst vs)) (h2 : RepL F.K (F.RH O H r) vs ds) (h3 : F.RH O H r b = some (.lst ws)) (h4 : RepL F.K (F.RH O H r) ws es) : Wk (Itz F.K a b) (zipD r ds es) F O H := by
  have hl : (zipD r ds es).length = min ds.length es.length := by simp [zipD]
  refine ⟨fun G O H => G.K = F.K ∧ (G.RH O H r a = some (.lst vs) ∧ RepL F.K (G.RH O H r) vs ds) ∧ G.RH O H r b = some (.lst ws) ∧ RepL F.K (G.RH O H r) ws es, ⟨rfl, ⟨h1, h2⟩, h3, h4⟩, fun G O H O' H' h s _ => ⟨h.1, ⟨s r _ _ h.2.1.1, h.2.1.2.mono (s r)⟩, s r _ _ h.2.2.1, h.2.2.2.mono (s r)⟩,
    fun G O H b o h hb => ⟨h.1, ⟨rh_hide hb r _ _ h.2.1.1, h.2.1.2.mono (rh_hide hb r)⟩, rh_hide hb r _ _ h.2.2.1, h.2.2.2.mono (rh_hide hb r)⟩,
    fun G O H b u o h hh hb nt => ⟨h.1, ⟨rh_hid hh hb nt r _ _ h.2.1.1, h.2.1.2.mono (rh_hid hh hb nt r)⟩, rh_hid hh hb nt r _ _ h.2.2.1, h.2.2.2.mono (rh_hid hh hb nt r)⟩, fun G O H i h hi => ?_, fun G O H i h hi => ?_, fun G O H i r' d x H' h hi y => ?_⟩
  · rw [hl, ← h2.len, ← h4.len] at hi
    exact ⟨vs, ws, SqL.of (cut_le _ _ h.2.1.1), SqL.of (cut_le _ _ h.2.2.1), by omega⟩
  · rw [hl, ← h2.len, ← h4.len] at hi
    have g1 : i < vs.length := by omega
    have g2 : i < ws.length := by omega
    exact ⟨vs, ws, vs[i], ws[i], SqL.of (cut_le _ _ h.2.1.1), SqL.of (cut_le _ _ h.2.2.1), by simp [g1], by simp [g2]⟩
  · obtain ⟨T, v, u, rfl, nT, rfl, y1, y2⟩ := y
    have sm : Same H (upd H T (.tup [v, u])) := same_new nT
    refine ⟨sm, ?_⟩
    unfold zipD at hi
    rw [List.getElem?_zipWith] at hi
    cases e1 : ds[i]? with
    | none =>
      rw [e1] at hi
      cases hi
    | some d1 =>
      cases e2 : es[i]? with
      | none =>
        rw [e1, e2] at hi
        cases hi
      | some d2 =>
        rw [e1, e2] at hi
        cases hi
        obtain ⟨w1, g1, g2⟩ := h.2.1.2.get e1
        obtain ⟨w2, g3, g4⟩ := h.2.2.2.get e2
        have z1 := y1 vs (SqL.of (cut_le _ _ h.2.1.1))
        have z2 := y2 ws (SqL.of (cut_le _ _ h.2.2.1))
        rw [g1] at z1
        cases z1
        rw [g3] at z2
        cases z2
        have up : Same (G.RH O H r) (G.RH O (upd H T (.tup [v, u])) r) := cut_mono (fun b u hb nb => ⟨sm _ _ hb, nb⟩) fun b xs hb _ => sm _ _ hb
        rw [h.1]
        exact .tup (cut_tup upd_same) (.cons (g2.mono up) (.one (g4.mono up)))
def dZip (u : DAW) : DIW := fun X ρ R => u X ρ fun xs ρ1 => match sts ρ1 (xs.map DV.tmp) with
  | some (r, [.lst ds, .lst es], ρ2) => R (zipD r ds es) ρ2
  | _ => False
instance {t : TA} {u : DAW} [A : DA K W t u] : DI K W (iZip K t) (dZip u) where
  ok := fun {F σ H ρ X R Q} hK E L h q => A.ok hK E L h fun xs ρ1 vs H1 h1 E1 s1 r1 => by
    subst hK
    split at h1
    · rename_i r ds es ρ2 e
      obtain ⟨E2, s2, p2⟩ := sts_rep E1 (dCons_tmp r1) e
      cases p2 with
      | cons g g' =>
        cases g' with
        | cons g' g'' =>
          cases g''
          cases g with
          | lst g1 g2 =>
            cases g' with
            | lst g3 g4 => exact ⟨_, _, _, _, rfl, SqL.of (cut_le _ _ g1), SqL.of (cut_le _ _ g3), q _ ρ2 H1 _ h1 E2 (s1.trans s2) (wk_zip g1 g2 g3 g4)⟩
    · exact h1.elim
/-! ### for, while -/
def dLoop (g : DGW) (tb : DSW) (X : XC) (E : DEnds) : Items → DEnv → Prop
  | [], ρ => E.nx ρ
  | p :: ps, ρ => g p ρ fun ρ1 => tb X { E with nx := dLoop g tb X E ps, ct := dLoop g tb X E ps, bk := E.nx } ρ1
@[irreducible] def loopC (g : DGW) (tb : DSW) (X : XC) (E : DEnds) (items : Items) (ρ : DEnv) : Prop := dLoop g tb X E items ρ
theorem loopC_eq {g : DGW} {tb : DSW} {X : XC} {E : DEnds} {items : Items} {ρ : DEnv} : loopC g tb X E items ρ = dLoop g tb X E items ρ := by unfold loopC; rfl
def dFor (wi : DIW) (g : DGW) (tb : DSW) : DSW := fun X E ρ => wi X ρ fun items ρ1 => loopC g tb X E items ρ1
instance {wi : TI} {w : DIW} {g : TG} {wg : DGW} {sl : List Nat} {tb : TS} {wb : DSW} [A : DI K W wi w] [B : DG K g wg sl] [C : DS K W tb wb] : DS K W (tFor wi g tb) (dFor w wg wb) where
  ok := fun {F σ H ρ X E Dn} hK En L h nx bk ct rt => A.ok hK En L h fun items ρ1 H1 J h1 E1 s1 wk => by
    obtain ⟨G, g0, gs, gh, gw, gstop, ggo, gy⟩ := wk
    rw [loopC_eq] at h1
    refine ⟨fun i m σ2 H2 => m = items.length - i ∧ i ≤ items.length ∧ ∃ ρ2, Env F σ2 ρ2 H2 ∧ Stp (OwnA σ ρ) H (OwnA σ2 ρ2) H2 ∧ G F (OwnA σ2 ρ2) H2 ∧ dLoop wg wb X E (items.drop i) ρ2, ⟨_, rfl, Nat.zero_le _, ρ1, E1, s1, g0, h1⟩, ?_⟩
    rintro i m σ2 H2 ⟨rfl, hi, ρ2, E2, s2, g2, h2⟩
    by_cases hlt : i < items.length
    · refine .inr ⟨ggo _ _ _ i g2 hlt, fun σ3 H3 => i + 1 ≤ items.length ∧ ∃ ρ3, Env F σ3 ρ3 H3 ∧ Stp (OwnA σ ρ) H (OwnA σ3 ρ3) H3 ∧ G F (OwnA σ3 ρ3) H3 ∧ dLoop wg wb X E (items.drop (i + 1)) ρ3, fun σ3 H3 z => ⟨items.length - (i + 1), by omega, rfl, z⟩, fun x H3 y => ?_⟩
      rw [List.drop_eq_getElem_cons hlt] at h2
      obtain ⟨r, d, hp⟩ : ∃ r d, items[i] = (r, d) := ⟨_, _, rfl⟩
      have hi' : items[i]? = some (r, d) := by rw [List.getElem?_eq_getElem hlt, hp]
      rw [hp] at h2
      obtain ⟨sm, rx⟩ := gy _ _ _ i r d x H3 g2 hi' y
      have E3 := E2.grow sm
      have s3 : Stp (OwnA σ2 ρ2) H2 (OwnA σ2 ρ2) H3 := .same sm
      have g3 := gs _ _ _ _ _ g2 (fun r => E2.rh s3) s3
      refine B.ok hK E3 (p := (r, d)) rx h2 fun ρ4 σ4 h4 E4 s4 _ _ => ?_
      have g4 := gs _ _ _ _ _ g3 (fun r => E3.rh s4) s4
      have s04 := (s2.trans s3).trans s4
      exact C.ok hK E4 (L.stp s04) h4
        (fun ρ5 σ5 H5 h5 E5 s5 => ⟨hlt, ρ5, E5, s04.trans s5, gs _ _ _ _ _ g4 (fun r => E4.rh s5) s5, h5⟩)
        (fun ρ5 σ5 H5 h5 E5 s5 => nx ρ5 σ5 H5 h5 E5 (s04.trans s5))
        (fun ρ5 σ5 H5 h5 E5 s5 => ⟨hlt, ρ5, E5, s04.trans s5, gs _ _ _ _ _ g4 (fun r => E4.rh s5) s5, h5⟩)
        fun d ρ5 σ5 v H5 h5 E5 s5 r5 => rt d ρ5 σ5 v H5 h5 E5 (s04.trans s5) r5
    · have e : i = items.length := by omega
      subst e
      rw [List.drop_length] at h2
      exact .inl ⟨gstop _ _ _ _ g2 rfl, nx ρ2 σ2 H2 h2 E2 s2⟩
@[irreducible] def whileC (c : DTW) (tb : DSW) (X : XC) (E : DEnds) (ρ : DEnv) : Prop := ∃ V : Nat → DEnv → Prop, (∃ m, V m ρ) ∧ ∀ m ρ, V m ρ → c X ρ fun b ρ1 =>
  ifC b (tb X { E with nx := fun ρ' => ∃ m', m' < m ∧ V m' ρ', ct := fun ρ' => ∃ m', m' < m ∧ V m' ρ', bk := E.nx } ρ1) (E.nx ρ1)
def dWhile (c : DTW) (tb : DSW) : DSW := fun X E ρ => whileC c tb X E ρ
instance {c : TT} {wc : DTW} {tb : TS} {wb : DSW} [A : DT K W c wc] [C : DS K W tb wb] : DS K W (tWhile c tb) (dWhile wc wb) where
  ok := fun {F σ H ρ X E Dn} hK En L h nx bk ct rt => by
    unfold dWhile whileC at h
    obtain ⟨V, ⟨m0, h0⟩, turn⟩ := h
    refine ⟨fun m σ2 H2 => ∃ ρ2, V m ρ2 ∧ Env F σ2 ρ2 H2 ∧ Stp (OwnA σ ρ) H (OwnA σ2 ρ2) H2, ⟨m0, ρ, h0, En, .refl _ _⟩, ?_⟩
    rintro m σ2 H2 ⟨ρ2, v2, E2, s2⟩
    refine A.ok hK E2 (L.stp s2) (turn m ρ2 v2) fun b ρ3 H3 h3 E3 s3 => ?_
    have s03 := s2.trans s3
    cases b with
    | true =>
      rw [ifC_t] at h3
      rw [if_pos rfl]
      refine ⟨fun σ4 H4 => ∃ m', m' < m ∧ ∃ ρ4, V m' ρ4 ∧ Env F σ4 ρ4 H4 ∧ Stp (OwnA σ ρ) H (OwnA σ4 ρ4) H4, fun σ4 H4 z => z, ?_⟩
      exact C.ok hK E3 (L.stp s03) h3
        (fun ρ5 σ5 H5 ⟨m', hm, h5⟩ E5 s5 => ⟨m', hm, ρ5, h5, E5, s03.trans s5⟩)
        (fun ρ5 σ5 H5 h5 E5 s5 => nx ρ5 σ5 H5 h5 E5 (s03.trans s5))
        (fun ρ5 σ5 H5 ⟨m', hm, h5⟩ E5 s5 => ⟨m', hm, ρ5, h5, E5, s03.trans s5⟩)
        fun d ρ5 σ5 v H5 h5 E5 s5 r5 => rt d ρ5 σ5 v H5 h5 E5 (s03.trans s5) r5
    | false =>
      rw [ifC_f] at h3
      rw [if_neg Bool.false_ne_true]
      exact nx ρ3 σ2 H3 h3 E3 s03
end
end PW

namespace PW
open PySem PySem.Spec PyProof.Rows L2
/-! ### comprehensions -/
def wipeD (ρ : DEnv) : List Nat → DEnv
  | [] => ρ
  | v :: vs => (wipeD ρ vs).set v none
/-- the slots vs as they were -/
def unw {α : Type} (e : List (Option α)) (o : List (Option α)) : List Nat → List (Option α)
  | [] => e
  | v :: vs => (unw e o vs).set v (o[v]?).join
def noPots (ρ : DEnv) (vs : List Nat) : Bool := vs.all fun v => noPotB ρ v
def noOwn (ρ : DEnv) (vs : List Nat) : Bool := vs.all fun v => match ρ[v]? with
  | some (some (.ow _ _)) => false
  | _ => true
theorem wipe_at (σ : L2.St) (j : Nat) : ∀ vs : List Nat, (wipe σ vs)[j]? = if j ∈ vs ∧ j < σ.length then some none else σ[j]?
  | [] => by simp [wipe]
  | v :: vs => by
    unfold wipe
    by_cases e : v = j
    · subst e
      by_cases h : v < σ.length
      · rw [List.getElem?_set_self (by rw [wipe_length]; exact h), if_pos ⟨List.mem_cons_self, h⟩]
      · rw [List.getElem?_eq_none (by rw [List.length_set, wipe_length]; omega), if_neg fun z => h z.2, List.getElem?_eq_none (by omega)]
    · rw [List.getElem?_set_ne e, wipe_at σ j vs]
      have : (j ∈ v :: vs) ↔ j ∈ vs := by
        rw [List.mem_cons]
        exact ⟨fun z => z.elim (fun z => absurd z.symm e) id, .inr⟩
      simp only [this]
theorem wipe_eq {σ σ' : L2.St} {vs : List Nat} (hl : σ'.length = σ.length) (h : ∀ j, j ∉ vs → σ'[j]? = σ[j]?) : wipe σ' vs = wipe σ vs := by
  refine List.ext_getElem? fun j => ?_
  rw [wipe_at, wipe_at, hl]
  by_cases e : j ∈ vs ∧ j < σ.length
  · rw [if_pos e, if_pos e]
  · rw [if_neg e, if_neg e]
    by_cases z : j ∈ vs
    · have : ¬ j < σ.length := fun y => e ⟨z, y⟩
      rw [List.getElem?_eq_none (by omega), List.getElem?_eq_none (by omega)]
    · exact h j z
theorem wipe_wipe (σ : L2.St) (vs : List Nat) : wipe (wipe σ vs) vs = wipe σ vs := wipe_eq (wipe_length σ vs) fun j hj => by
  rw [wipe_at, if_neg fun z => hj z.1]
theorem unw_at {α : Type} (e o : List (Option α)) (j : Nat) : ∀ vs : List Nat, (unw e o vs)[j]? = if j ∈ vs ∧ j < e.length then some (o[j]?).join else e[j]?
  | [] => by simp [unw]
  | v :: vs => by
    have hl : ∀ vs : List Nat, (unw e o vs).length = e.length := fun vs => by
      induction vs with
      | nil => rfl
      | cons v vs ih => rw [unw, List.length_set, ih]
    unfold unw
    by_cases h : v = j
    · subst h
      by_cases h : v < e.length
      · rw [List.getElem?_set_self (by rw [hl]; exact h), if_pos ⟨List.mem_cons_self, h⟩]
      · rw [List.getElem?_eq_none (by rw [List.length_set, hl]; omega), if_neg fun z => h z.2, List.getElem?_eq_none (by omega)]
    · rw [List.getElem?_set_ne h, unw_at e o j vs]
      have : (j ∈ v :: vs) ↔ j ∈ vs := by
        rw [List.mem_cons]
        exact ⟨fun z => z.elim (fun z => absurd z.symm h) id, .inr⟩
      simp only [this]
theorem unw_wipe (σ : L2.St) (vs : List Nat) : unw (wipe σ vs) σ vs = σ := by
  refine List.ext_getElem? fun j => ?_
  rw [unw_at, wipe_at, wipe_length]
  by_cases e : j ∈ vs ∧ j < σ.length
  · rw [if_pos e, List.getElem?_eq_getElem e.2]
    rfl
  · rw [if_neg e, if_neg e]
section
variable {F : Fr} {σ σ' : L2.St} {ρ ρ' : DEnv} {H H' : Hp} {a : Addr}
theorem wipeD_noPot {i : Nat} (h : noPot ρ i) : ∀ vs : List Nat, noPot (wipeD ρ vs) i
  | [] => h
  | v :: vs => fun r d z0 e => by
    unfold wipeD at e
    by_cases z : v = i
    · subst z
      by_cases y : v < (wipeD ρ vs).length
      · rw [List.getElem?_set_self y] at e
        cases e
      · rw [List.getElem?_eq_none (by rw [List.length_set]; omega)] at e
        cases e
    · rw [List.getElem?_set_ne z] at e
      exact wipeD_noPot h vs r d z0 e
theorem Env.wiped (E : Env F σ ρ H) : ∀ {vs : List Nat}, noPots ρ vs = true → Env F (wipe σ vs) (wipeD ρ vs) H ∧ Stp (OwnA σ ρ) H (OwnA (wipe σ vs) (wipeD ρ vs)) H
  | [], _ => ⟨E, .refl _ _⟩
  | v :: vs, h => by
    unfold noPots at h
    rw [List.all_cons, Bool.and_eq_true] at h
    obtain ⟨E1, s1⟩ := E.wiped (vs := vs) h.2
    obtain ⟨E2, s2⟩ := E1.setNo (i := v) (wipeD_noPot (noPot_of h.1) vs)
    exact ⟨E2, s1.trans s2⟩
/-- the slots of a comprehension are given back -/
theorem Env.back {σ0 : L2.St} {ρ0 : DEnv} (E : Env F σ ρ H) (hl : σ0.length = ρ0.length) (hs : ∀ (v : Nat) (r : Bool) (d : D), ρ0[v]? = some (some (.sh r d)) → ∃ u, σ0[v]? = some (some u) ∧ Rep F.K (F.RH (OwnA σ ρ) H r) u d) (hr : ∀ (i : Nat) (s : Sl), ρ0[i]? = some (some s) → RawP F.K F.sc (PaAt F) (F.RH (OwnA σ ρ) H) σ0[i]? s) :
    ∀ {vs : List Nat}, noPots ρ vs = true → noOwn ρ0 vs = true → Env F (unw σ σ0 vs) (unw ρ ρ0 vs) H ∧ Stp (OwnA σ ρ) H (OwnA (unw σ σ0 vs) (unw ρ ρ0 vs)) H ∧ ∀ i, noPot ρ i → noPot (unw ρ ρ0 vs) i
  | [], _, _ => ⟨E, .refl _ _, fun _ h => h⟩
  | v :: vs, h, h' => by
    unfold noPots at h
    unfold noOwn at h'
    rw [List.all_cons, Bool.and_eq_true] at h h'
    obtain ⟨E1, s1, n1⟩ := E.back hl hs hr (vs := vs) h.2 h'.2
    have no : ∀ r d, (ρ0[v]?).join ≠ some (.ow r d) := fun r d z => by
      have h2 := h'.1
      cases e : ρ0[v]? with
      | none =>
        rw [e] at z
        cases z
      | some s =>
        rw [e] at z h2
        have z : s = some (.ow r d) := z
        rw [z] at h2
        cases h2
    obtain ⟨E2, s2⟩ := E1.setN (i := v) (w := (σ0[v]?).join) (s := (ρ0[v]?).join) (n1 v (noPot_of h.1)) no (fun r d z => by
      cases e : ρ0[v]? with
      | none =>
        rw [e] at z
        cases z
      | some s =>
        rw [e] at z
        have z : s = some (.sh r d) := z
        subst z
        obtain ⟨u, g1, g2⟩ := hs v r d e
        exact ⟨u, by rw [g1]; rfl, g2.mono (E.rh s1)⟩) fun u z => by
      cases e : ρ0[v]? with
      | none =>
        rw [e] at z
        cases z
      | some s =>
        rw [e] at z
        have z : s = some u := z
        subst z
        have g := (hr v u e).mono fun _ => E.rh s1
        cases q : σ0[v]? with
        | none =>
          rw [q] at g
          cases u with
          | scr ns =>
            obtain ⟨a, g1, _⟩ := g
            cases g1
          | exn a dd x =>
            cases g.1
          | exo a dd x =>
            cases g.1
          | lk r d =>
            obtain ⟨a, g1, _⟩ := g
            cases g1
          | pa r d =>
            obtain ⟨a, g1, _⟩ := g
            cases g1
          | po d =>
            obtain ⟨a, g1, _⟩ := g
            cases g1
          | _ => trivial
        | some y =>
          rw [q] at g
          exact g
    refine ⟨E2, s1.trans s2, fun i hi r d z0 z => ?_⟩
    unfold unw at z
    by_cases y : v = i
    · subst y
      by_cases x : v < (unw ρ ρ0 vs).length
      · rw [List.getElem?_set_self x] at z
        exact absurd (Option.some.inj z) (no _ _)
      · rw [List.getElem?_eq_none (by rw [List.length_set]; omega)] at z
        cases z
    · rw [List.getElem?_set_ne y] at z
      exact n1 i hi r d z0 z
theorem Env.hidUpd {u o : HO} (E : Env (F.hide a) σ ρ H) (h0 : F.H0 a = none) (ha : H a = some u) (nt : ∀ xs, u ≠ .tup xs) : Env (F.hide a) σ ρ (upd H a o) := by
  have up : ∀ r, Same ((F.hide a).RH (OwnA σ ρ) H r) ((F.hide a).RH (OwnA σ ρ) (upd H a o) r) := fun r => rh_hid (F := F.hide a) (Or.inl rfl) ha nt r
  have there : ∀ b, (∃ v, H b = some v) → ∃ v, upd H a o b = some v := fun b ⟨v, hv⟩ => by
    by_cases z : b = a
    · exact ⟨_, by rw [z, upd_same]⟩
    · exact ⟨v, by rw [upd_ne z]; exact hv⟩
  refine ⟨E.len, fun b v hb np nx => ?_, fun i r d h => ?_, fun i r d h => ?_, E.inj, E.pt, fun b hb => ⟨there b (E.hidIn b hb).1, (E.hidIn b hb).2⟩, fun i r d h => (E.xo i r d h).same fun b hb v hv => ?_, E.xt, fun b hb => there b (E.pxIn b hb), fun b xs hb => ?_, E.hc, E.tc, E.sc, fun i s hi => (E.raw i s hi).mono up⟩
  · have : b ≠ a := fun z => by
      subst z
      rw [show F.H0 b = some v from hb] at h0
      cases h0
    rw [upd_ne this]
    exact E.keep b v hb np nx
  · obtain ⟨v, h1, h2⟩ := E.sh i r d h
    exact ⟨v, h1, h2.mono (up r)⟩
  · obtain ⟨b, h1, h2, h3, h4⟩ := E.ow i r d h
    have : b ≠ a := fun z => h3 (.inl z)
    exact ⟨b, h1, by rw [upd_ne this]; exact h2.mono (up r), h3, h4⟩
  · have : b ≠ a := fun z => (E.xt i r d b h hb).1 (.inl z)
    rw [upd_ne this]
    exact hv
  · have : b ≠ a := fun z => by
      subst z
      rw [show F.H0 b = some _ from hb] at h0
      cases h0
    rw [upd_ne this]
    exact E.tp b xs hb
theorem Stp.updNew {O O' : Addr → Prop} {o : HO} (s : Stp O H O' H') (h : H a = none) : Stp O H O' (upd H' a o) := ⟨fun b u hb nb => by
  rw [upd_ne (ne_of_none hb h)]
  exact s.kp b u hb nb, fun b hb => by
  by_cases z : b = a
  · rw [z]
    exact h
  · rw [upd_ne z] at hb
    exact s.dom b hb⟩
end
def dLcL (g : DGW) (tt : DTW) (te : DW) (vs : List Nat) (k : Bool → List D → DEnv → Prop) : Items → Bool → List D → DEnv → Prop
  | [], ra, acc, ρ => k ra acc ρ
  | p :: ps, ra, acc, ρ => g p ρ fun ρ2 => tt noX ρ2 fun b ρ3 => ifC b (te noX ρ3 fun y ρ4 => match st ρ4 y.tmp with
      | some (r, d, ρ5) => noPots ρ5 vs = true ∧ dLcL g tt te vs k ps (ra && r) (acc ++ [d]) (wipeD ρ5 vs)
      | none => False)
    (noPots ρ3 vs = true ∧ dLcL g tt te vs k ps ra acc (wipeD ρ3 vs))
@[irreducible] def lcC (g : DGW) (tt : DTW) (te : DW) (vs : List Nat) (k : Bool → List D → DEnv → Prop) (items : Items) (ρ : DEnv) : Prop := dLcL g tt te vs k items true [] ρ
theorem lcC_eq {g : DGW} {tt : DTW} {te : DW} {vs : List Nat} {k : Bool → List D → DEnv → Prop} {items : Items} {ρ : DEnv} : lcC g tt te vs k items ρ = dLcL g tt te vs k items true [] ρ := by unfold lcC; rfl
def dLc (wi : DIW) (g : DGW) (sl : List Nat) (tt : DTW) (te : DW) (vs : List Nat) : DW := fun X ρ R => wi X ρ fun items ρ1 =>
  sl.all (vs.contains ·) = true ∧ noOwn ρ1 vs = true ∧ noPots ρ1 vs = true ∧ items.length ≤ sizeLine ∧
    lcC g tt te vs (fun ra acc ρ => noPots ρ vs = true ∧ R (.fr ra (.lst acc)) (unw ρ ρ1 vs)) items (wipeD ρ1 vs)
theorem wipeD_len (ρ : DEnv) : ∀ vs : List Nat, (wipeD ρ vs).length = ρ.length
  | [] => rfl
  | v :: vs => by rw [wipeD, List.length_set, wipeD_len ρ vs]
section
variable {K : PySem.W.Frag} {W : WXT}
instance {wi : TI} {w : DIW} {g : TG} {wg : DGW} {sl : List Nat} {tt : TT} {wt : DTW} {te : TE} {we : DW} {vs : List Nat} [A : DI K W wi w] [B : DG K g wg sl] [C : DT K W tt wt] [D' : DE K W te we] : DE K W (tLc wi g tt te vs) (dLc w wg sl wt we vs) where
  ok := fun {F σ H ρ X R Q} hK E L h q => A.ok hK E L h fun items ρ1 H1 J h1 E1 s1 wk => by
    obtain ⟨hsl, hno, hnp, hsz, h1⟩ := h1
    rw [lcC_eq] at h1
    intro a ha
    obtain ⟨G, g0, gs, gh, gw, gstop, ggo, gy⟩ := wk
    obtain ⟨n0, nh, nO, npt⟩ := E1.new ha
    have hH : H a = none := s1.dom a ha
    have hKh : (F.hide a).K = K := hK
    have Eh : Env (F.hide a) σ ρ1 (upd H1 a (.lst [])) := E1.hideNew ha (same_new ha) ⟨_, upd_same⟩
    obtain ⟨Ew, sw⟩ := Eh.wiped hnp
    have sH1 : Stp (OwnA σ ρ1) H1 (OwnA σ ρ1) (upd H1 a (.lst [])) := .same (same_new ha)
    have g1 := gs _ _ _ _ _ (gh _ _ _ a (.lst []) g0 ha) (fun r => Eh.rh sw) sw
    refine ⟨fun i m H2 => m = items.length - i ∧ i ≤ items.length ∧ ∃ ra acc vacc ρ2, Env (F.hide a) (wipe σ vs) ρ2 H2 ∧ Stp (OwnA σ ρ1) H1 (OwnA (wipe σ vs) ρ2) H2 ∧ G (F.hide a) (OwnA (wipe σ vs) ρ2) H2 ∧ H2 a = some (.lst vacc) ∧ RepL F.K ((F.hide a).RH (OwnA (wipe σ vs) ρ2) H2 ra) vacc acc ∧ acc.length ≤ i ∧
        dLcL wg wt we vs (fun ra acc ρ => noPots ρ vs = true ∧ R (.fr ra (.lst acc)) (unw ρ ρ1 vs)) (items.drop i) ra acc ρ2,
      ⟨_, rfl, Nat.zero_le _, true, [], [], _, Ew, sH1.trans sw, g1, upd_same, .nil, Nat.le_refl _, h1⟩, ?_⟩
    rintro i m H2 ⟨rfl, hi, ra, acc, vacc, ρ2, E2, s2, g2, ha2, racc, hal, h2⟩
    by_cases hlt : i < items.length
    · refine .inr ⟨ggo _ _ _ i g2 hlt, fun H3 => i + 1 ≤ items.length ∧ ∃ ra acc vacc ρ2, Env (F.hide a) (wipe σ vs) ρ2 H3 ∧ Stp (OwnA σ ρ1) H1 (OwnA (wipe σ vs) ρ2) H3 ∧ G (F.hide a) (OwnA (wipe σ vs) ρ2) H3 ∧ H3 a = some (.lst vacc) ∧ RepL F.K ((F.hide a).RH (OwnA (wipe σ vs) ρ2) H3 ra) vacc acc ∧ acc.length ≤ i + 1 ∧
          dLcL wg wt we vs (fun ra acc ρ => noPots ρ vs = true ∧ R (.fr ra (.lst acc)) (unw ρ ρ1 vs)) (items.drop (i + 1)) ra acc ρ2, fun H3 z => ⟨items.length - (i + 1), by omega, rfl, z⟩, fun x H3 y => ?_⟩
      rw [List.drop_eq_getElem_cons hlt] at h2
      obtain ⟨r, d, hp⟩ : ∃ r d, items[i] = (r, d) := ⟨_, _, rfl⟩
      have hi' : items[i]? = some (r, d) := by rw [List.getElem?_eq_getElem hlt, hp]
      rw [hp] at h2
      obtain ⟨sm, rx⟩ := gy _ _ _ i r d x H3 g2 hi' y
      have E3 := E2.grow sm
      have s3 : Stp (OwnA (wipe σ vs) ρ2) H2 (OwnA (wipe σ vs) ρ2) H3 := .same sm
      refine B.ok hKh E3 (p := (r, d)) rx h2 fun ρ4 σ4 h4 E4 s4 n4 l4 => ?_
      have hw : wipe σ4 vs = wipe σ vs := by
        rw [← wipe_wipe σ vs]
        refine wipe_eq l4 fun j hj => n4 j fun z => hj ?_
        have := List.all_eq_true.mp hsl j z
        simpa using this
      refine ⟨hw, ?_⟩
      have s34 := s3.trans s4
      have nOwn : ∀ {σ' ρ'} {H' : Hp}, Env (F.hide a) σ' ρ' H' → ¬ OwnA σ' ρ' a := fun {σ' ρ' H'} E' z => E'.ownHid z (.inl rfl)
      refine C.ok hKh E4 XLink.no h4 fun b ρ5 H5 h5 E5 s5 => ?_
      have s25 := s34.trans s5
      cases b with
      | true =>
        rw [ifC_t] at h5
        rw [if_pos rfl]
        refine D'.ok hKh E5 XLink.no h5 fun yv ρ6 v6 H6 h6 E6 s6 r6 => ?_
        have s26 := s25.trans s6
        have r6' : RepV (F.hide a) H5 σ4 ρ6 H6 v6 yv.tmp := r6.stp E6 (.refl _ _)
        split at h6
        · rename_i ry dy ρ7 e7
          obtain ⟨E7, s7, p7⟩ := r6'.st E6 e7
          obtain ⟨np7, h7⟩ := h6
          obtain ⟨E8, s8⟩ := E7.wiped np7
          rw [hw] at E8 s8
          have s28 := (s26.trans s7).trans s8
          have ha8 : H6 a = some (.lst vacc) := (s28.kp a _ ha2 (nOwn E2)).1
          have racc8 : RepL F.K ((F.hide a).RH (OwnA (wipe σ vs) (wipeD ρ7 vs)) H6 ra) vacc acc := racc.mono (E2.rh s28)
          have p8 : Rep F.K ((F.hide a).RH (OwnA (wipe σ vs) (wipeD ρ7 vs)) H6 ry) v6 dy := p7.mono (E7.rh s8)
          have g8 := gs _ _ _ _ _ g2 (fun r => E2.rh s28) s28
          have nt : ∀ xs, (HO.lst vacc) ≠ .tup xs := fun _ z => by cases z
          refine ⟨vacc, ha8, by rw [racc.len]; omega, hlt, ra && ry, acc ++ [dy], vacc ++ [v6], wipeD ρ7 vs, E8.hidUpd n0 ha8 nt, (s2.trans s28).updNew ha, gw (F.hide a) _ _ _ _ _ g8 (Or.inl rfl) ha8 nt, upd_same, ?_, by rw [List.length_append, List.length_singleton]; omega, h7⟩
          exact (RepL.both (F := F.hide a) racc8 (.one p8)).mono (rh_hid (F := F.hide a) (Or.inl rfl) ha8 nt _)
        · exact h6.elim
      | false =>
        rw [ifC_f] at h5
        rw [if_neg Bool.false_ne_true]
        obtain ⟨np7, h7⟩ := h5
        obtain ⟨E8, s8⟩ := E5.wiped np7
        rw [hw] at E8 s8
        have s28 := s25.trans s8
        have ha8 : H5 a = some (.lst vacc) := (s28.kp a _ ha2 (nOwn E2)).1
        exact ⟨hlt, ra, acc, vacc, wipeD ρ5 vs, E8, s2.trans s28, gs _ _ _ _ _ g2 (fun r => E2.rh s28) s28, ha8, racc.mono (E2.rh s28), by omega, h7⟩
    · have e : i = items.length := by omega
      subst e
      rw [List.drop_length] at h2
      obtain ⟨np2, h2⟩ := h2
      refine .inl ⟨gstop _ _ _ _ g2 rfl, ?_⟩
      have upx : ∀ r, Same (F.RH (OwnA σ ρ1) H1 r) ((F.hide a).RH (OwnA (wipe σ vs) ρ2) H2 r) := fun r b o hb => by
        obtain ⟨hb1, hb2⟩ := cut_inv hb
        have hba : b ≠ a := ne_of_none hb1 ha
        rcases Classical.em (F.bad (OwnA σ ρ1) r b) with bad | bad
        · rcases hb2 with hb2 | ⟨xs, rfl⟩
          · exact absurd bad hb2
          · exact cut_tup (s2.tup E1 b xs hb1)
        · obtain ⟨k1, k2⟩ := s2.kp b o hb1 fun z => bad (.inr (.inl z))
          refine cut_of k1 fun z => ?_
          rcases z with (z | z) | z | z
          · exact hba z
          · exact bad (.inl z)
          · exact k2 z
          · exact bad (.inr (.inr z))
      obtain ⟨E9, s9, _⟩ := E2.back (σ0 := σ) (ρ0 := ρ1) E1.len (fun v r d z => by
        obtain ⟨u, z1, z2⟩ := E1.sh v r d z
        exact ⟨u, z1, z2.mono (upx r)⟩) (fun i s hi => (E1.raw i s hi).mono upx) np2 hno
      rw [unw_wipe] at E9 s9
      have s19 := s2.trans s9
      refine q _ _ _ _ h2 E9.unhide (s1.trans s19) ⟨a, rfl, hH, nh, n0, rfl, E9, ?_⟩
      rw [ha2]
      exact ⟨vacc, rfl, racc.mono (E2.rh s9)⟩
end
end PW

namespace PW
open PySem PySem.Spec PyProof.Rows L2
/-! ### promises by data, calls -/
abbrev FS := List D → (D → Prop) → (Exn → Prop) → Prop
/-- what is new in H', and tuples -/
noncomputable def newH (H H' : Hp) : Hp := cut (fun a => H a ≠ none) H'
def sp0 (K : PySem.W.Frag) (fs : FS) : Sp := fun vs H Q E => ∃ (ds : List D) (R : D → Prop) (Xd : Exn → Prop), RepL K H vs ds ∧ fs ds R Xd ∧ (∀ d v H', R d → Same H H' → Rep K (newH H H') v d → Q v H') ∧
  ∀ x dd H', Xd x → Same H H' → XRep K (newH H H') dd x → E (.ref (He.ga K x.c)) dd H'
def spP (K : PySem.W.Frag) (fs : FS) : Sp := fun vs H Q E => ∃ (p : Addr) (us : List V) (ds : List D) (R : D → Prop) (Xd : Exn → Prop), vs = .ref p :: us ∧ Pot H p ∧ RepL K (cut (· = p) H) us ds ∧ fs ds R Xd ∧ (∀ d v H', R d → Kp p H H' → Pot H' p → Rep K (newH H H') v d → Q v H') ∧
  ∀ x dd H', Xd x → Kp p H H' → Pot H' p → XRep K (newH H H') dd x → E (.ref (He.ga K x.c)) dd H'
def frame (K : PySem.W.Frag) (H : Hp) (p : Option Addr) : Fr := ⟨K, H, H, H, fun _ _ => False, p, fun _ => False, fun _ => False, fun _ => False, fun _ => False⟩
def slots (ds : List D) (n : Nat) : DEnv := ds.map (fun d => some (.sh false d)) ++ List.replicate (n - ds.length) none
theorem sl_at {ds : List D} {n i : Nat} {s : Sl} (h : (slots ds n)[i]? = some (some s)) : ∃ d, ds[i]? = some d ∧ s = .sh false d := by
  unfold slots at h
  by_cases e : i < ds.length
  · rw [List.getElem?_append_left (by rw [List.length_map]; exact e), List.getElem?_map, List.getElem?_eq_getElem e] at h
    cases h
    exact ⟨_, List.getElem?_eq_getElem e, rfl⟩
  · rw [List.getElem?_append_right (by rw [List.length_map]; omega)] at h
    have := List.mem_of_getElem? h
    rw [List.mem_replicate] at this
    cases this.2
theorem st_at {N : List Str} {vs : List V} {i : Nat} {v : V} (h : vs[i]? = some v) : (start N vs)[i]? = some (some v) := by
  unfold L2.start
  have := (List.getElem?_eq_some_iff.mp h).1
  rw [List.getElem?_append_left (by rw [List.length_map]; exact this), List.getElem?_map, h]
  rfl
theorem env0 {K : PySem.W.Frag} {H : Hp} {N : List Str} {vs : List V} {ds : List D} (h : RepL K H vs ds) : Env (frame K H none) (start N vs) (slots ds N.length) H := by
  have no : ∀ a, ¬ OwnA (start N vs) (slots ds N.length) a := fun a ⟨i, r, d, z, _⟩ => by
    obtain ⟨_, _, z⟩ := sl_at z
    cases z
  have noo : ∀ {i : Nat} {r : Bool} {d : D}, (slots ds N.length)[i]? ≠ some (some (.ow r d)) := fun {i r d} z => by
    obtain ⟨_, _, z⟩ := sl_at z
    cases z
  refine ⟨?_, fun a o z _ _ => .inl z, fun i r d z => ?_, fun i r d z => absurd z noo, fun i j a z => absurd ⟨i, z⟩ (no a), fun a z => (by cases z), fun a z => z.elim, fun i r d z => absurd z noo, fun i r d b z => absurd z noo, fun a z => z.elim, fun a xs z => z, fun a o z _ => z, fun a xs z => z, fun a ns z => z.elim, fun i v z => ?_⟩
  · unfold L2.start slots
    rw [List.length_append, List.length_append, List.length_map, List.length_map, List.length_replicate, List.length_replicate, h.len]
  · obtain ⟨e, z1, z2⟩ := sl_at z
    cases z2
    obtain ⟨v, g1, g2⟩ := h.get z1
    refine ⟨v, st_at g1, g2.mono fun a o ha => cut_of ha fun y => ?_⟩
    rcases y with y | y | ⟨y, _⟩
    · exact y
    · exact no a y
    · cases y
  · obtain ⟨_, _, z⟩ := sl_at z
    cases z
    trivial
theorem frame_new {K : PySem.W.Frag} {H H' : Hp} {p : Option Addr} {O : Addr → Prop} : Same ((frame K H p).RH O H' true) (newH H H') := fun a o h => by
  obtain ⟨h1, h2⟩ := cut_inv h
  rcases h2 with h2 | ⟨xs, rfl⟩
  · exact cut_of h1 fun z => h2 (.inr (.inr ⟨rfl, z⟩))
  · exact cut_tup h1
/-- a def's body by data -/
theorem runX {K : PySem.W.Frag} {fs : FS} {t : TS} {w : DSW} {N : List Str} {vs : List V} {H : Hp} {Q : VK} {E : XK} (A : DS K (fun c d _ H => E c d H) t w) (h : sp0 K fs vs H Q E)
    (k : ∀ ds R Xd, fs ds R Xd → w (fun x _ => Xd x) ⟨fun _ => R .non, fun d _ => R d, fun _ => False, fun _ => False⟩ (slots ds N.length)) : t { nx := fun _ H' => Q .non H', rt := Q } (start N vs) H := by
  obtain ⟨ds, R, Xd, h1, h2, h3, h4⟩ := h
  have same : ∀ {σ ρ} {H' : Hp}, Env (frame K H none) σ ρ H' → Same H H' := fun {σ ρ H'} E' a o z => by
    rcases E'.keep a o z (fun y => by cases y) (fun y => y) with y | ⟨y, _⟩
    · exact y
    · exact y.elim
  refine A.ok (F := frame K H none) rfl (env0 h1) (fun x ρ' σ' dd H' hx E' s' r' => h4 x dd H' hx (same E') (r'.mono frame_new)) (k ds R Xd h2) (fun ρ' σ' H' z E' _ => h3 _ _ _ z (same E') .non) (fun _ _ _ z => z.elim) (fun _ _ _ z => z.elim) fun d ρ' σ' v H' z E' _ r' => h3 _ _ _ z (same E') (r'.mono frame_new)
/-- .. that raises nothing -/
theorem run0 {K : PySem.W.Frag} {fs : FS} {t : TS} {w : DSW} {N : List Str} {vs : List V} {H : Hp} {Q : VK} {E : XK} (A : DS K (fun _ _ _ _ => False) t w) (h : sp0 K fs vs H Q E)
    (k : ∀ ds R Xd, fs ds R Xd → w noX ⟨fun _ => R .non, fun d _ => R d, fun _ => False, fun _ => False⟩ (slots ds N.length)) : t { nx := fun _ H' => Q .non H', rt := Q } (start N vs) H := by
  obtain ⟨ds, R, Xd, h1, h2, h3, h4⟩ := h
  have same : ∀ {σ ρ} {H' : Hp}, Env (frame K H none) σ ρ H' → Same H H' := fun {σ ρ H'} E' a o z => by
    rcases E'.keep a o z (fun y => by cases y) (fun y => y) with y | ⟨y, _⟩
    · exact y
    · exact y.elim
  refine A.ok (F := frame K H none) rfl (env0 h1) XLink.no (k ds R Xd h2) (fun ρ' σ' H' z E' _ => h3 _ _ _ z (same E') .non) (fun _ _ _ z => z.elim) (fun _ _ _ z => z.elim) fun d ρ' σ' v H' z E' _ r' => h3 _ _ _ z (same E') (r'.mono frame_new)
/-! with a pot -/
def potB (ρ : DEnv) : Bool := match (ρ[(0 : Nat)]? : Option (Option Sl)) with
  | some (some (.ow _ .pot)) => true
  | _ => false
def slotsP (ds : List D) (n : Nat) : DEnv := some (Sl.ow true .pot) :: slots ds (n - 1)
theorem envP {K : PySem.W.Frag} {H : Hp} {N : List Str} {p : Addr} {vs : List V} {ds : List D} (hp : Pot H p) (h : RepL K (cut (· = p) H) vs ds) : Env (frame K H (some p)) (start N (.ref p :: vs)) (slotsP ds N.length) H := by
  have sh : ∀ {i : Nat} {s : Sl}, (slotsP ds N.length)[i]? = some (some s) → (i = 0 ∧ s = .ow true .pot) ∨ ∃ j d, i = j + 1 ∧ ds[j]? = some d ∧ s = .sh false d := fun {i s} z => by
    cases i with
    | zero =>
      cases z
      exact .inl ⟨rfl, rfl⟩
    | succ j =>
      obtain ⟨d, z1, z2⟩ := sl_at (show (slots ds (N.length - 1))[j]? = some (some s) from z)
      exact .inr ⟨j, d, rfl, z1, z2⟩
  have s0 : (start N (.ref p :: vs))[0]? = some (some (.ref p)) := st_at rfl
  have ow : ∀ a, OwnA (start N (.ref p :: vs)) (slotsP ds N.length) a → a = p := fun a ⟨i, r, d, z, y⟩ => by
    rcases sh z with ⟨rfl, z⟩ | ⟨_, _, _, _, z⟩
    · cases z
      rcases y with y | y
      · rw [s0] at y
        cases y
        rfl
      · cases y
    · cases z
  obtain ⟨x, y, hx, hy, hxy⟩ := hp
  refine ⟨?_, fun a o z _ _ => .inl z, fun i r d z => ?_, fun i r d z => ?_, fun i j a ⟨r, d, z, _⟩ ⟨r', d', z', _⟩ => ?_, fun a z => ?_, fun a z => z.elim, fun i r d z => ?_, fun i r d b z => ?_, fun a z => z.elim, fun a xs z => z, fun a o z _ => z, fun a xs z => z, fun a ns z => z.elim, fun i v z => ?_⟩
  · unfold L2.start slotsP slots
    have := h.len
    simp only [List.length_cons, List.length_append, List.length_map, List.length_replicate]
    omega
  · rcases sh z with ⟨_, z⟩ | ⟨j, e, rfl, z1, z2⟩
    · cases z
    · cases z2
      obtain ⟨v, g1, g2⟩ := h.get z1
      refine ⟨v, st_at (show (V.ref p :: vs)[j + 1]? = some v from g1), g2.mono fun a o ha => ?_⟩
      obtain ⟨k1, k2⟩ := cut_inv ha
      rcases k2 with k2 | ⟨xs, rfl⟩
      · refine cut_of k1 fun y => ?_
        rcases y with y | y | ⟨y, _⟩
        · exact y
        · exact k2 (ow a y)
        · cases y
      · exact cut_tup k1
  · rcases sh z with ⟨rfl, z⟩ | ⟨_, _, _, _, z⟩
    · cases z
      exact ⟨p, s0, ⟨x, y, hx, hy, hxy⟩, fun z => z, .inr (.inl rfl)⟩
    · cases z
  · rcases sh z with ⟨rfl, _⟩ | ⟨_, _, _, _, z⟩
    · rcases sh z' with ⟨rfl, _⟩ | ⟨_, _, _, _, z⟩
      · rfl
      · cases z
    · cases z
  · cases z
    exact ⟨true, .pot, rfl, rfl, s0⟩
  · rcases sh z with ⟨_, z⟩ | ⟨_, _, _, _, z⟩ <;> cases z
    trivial
  · rcases sh z with ⟨_, z⟩ | ⟨_, _, _, _, z⟩ <;> cases z
    intro z
    cases z
  · rcases sh z with ⟨_, z⟩ | ⟨_, _, _, _, z⟩ <;> cases z <;> trivial
theorem runP {K : PySem.W.Frag} {fs : FS} {t : TS} {w : DSW} {N : List Str} {vs : List V} {H : Hp} {Q : VK} {E : XK} (A : DS K (fun _ _ _ _ => False) t w) (h : spP K fs vs H Q E)
    (k : ∀ ds R Xd, fs ds R Xd → w noX ⟨fun ρ => potB ρ = true ∧ R .non, fun d ρ => potB ρ = true ∧ R d, fun _ => False, fun _ => False⟩ (slotsP ds N.length)) : t { nx := fun _ H' => Q .non H', rt := Q } (start N vs) H := by
  obtain ⟨p, us, ds, R, Xd, rfl, h0, h1, h2, h3, h4⟩ := h
  have kp : ∀ {σ ρ} {H' : Hp}, Env (frame K H (some p)) σ ρ H' → Kp p H H' := fun {σ ρ H'} E' a o n z => by
    rcases E'.keep a o z (fun y => n (Option.some.inj y).symm) (fun y => y) with y | ⟨y, _⟩
    · exact y
    · exact y.elim
  have po : ∀ {σ ρ} {H' : Hp}, Env (frame K H (some p)) σ ρ H' → potB ρ = true → Pot H' p := fun {σ ρ H'} E' b => by
    obtain ⟨r, d, e1, _, e3⟩ := E'.pt p rfl
    unfold potB at b
    rw [e1] at b
    cases d with
    | pot =>
      obtain ⟨a, g1, ⟨x, y, g2, g3, g4⟩, _⟩ := E'.ow 0 r .pot e1
      rw [e3] at g1
      cases g1
      exact ⟨x, y, g2, g3, g4⟩
    | _ => cases b
  refine A.ok (F := frame K H (some p)) rfl (envP h0 h1) XLink.no (k ds R Xd h2) (fun ρ' σ' H' z E' _ => h3 _ _ _ z.2 (kp E') (po E' z.1) .non) (fun _ _ _ z => z.elim) (fun _ _ _ z => z.elim) fun d ρ' σ' v H' z E' _ r' => h3 _ _ _ z.2 (kp E') (po E' z.1) (r'.mono frame_new)
/-! ### what a call gives -/
def frOf (d : D) : DV := match d with
  | .lst _ => .fr true d
  | _ => .v true d
section
variable {F : Fr} {σ : L2.St} {ρ : DEnv} {H H' : Hp} {v : V} {d : D}
theorem new_rh (E : Env F σ ρ H) : Same (newH H H') (F.RH (OwnA σ ρ) H' true) := fun a o h => by
  obtain ⟨h1, h2⟩ := cut_inv h
  rcases h2 with h2 | ⟨xs, rfl⟩
  · have hn : H a = none := Classical.byContradiction h2
    obtain ⟨g1, g2, g3, _⟩ := E.new hn
    refine cut_of h1 fun z => ?_
    rcases z with z | z | ⟨_, z⟩
    · exact g2 z
    · exact g3 z
    · exact z g1
  · exact cut_tup h1
theorem fr_of (E : Env F σ ρ H) (E' : ∀ a, H a = none → (∃ o, H' a = some o) → Env (F.hide a) σ ρ H') (h : Rep F.K (newH H H') v d) : RepV F H σ ρ H' v (frOf d) := by
  cases d with
  | lst ds =>
    have h0 := h
    cases h with
    | @lst a vs _ h1 h2 =>
      obtain ⟨o1, o2⟩ := cut_inv h1
      have hn : H a = none := by
        rcases o2 with o2 | ⟨xs, z⟩
        · exact Classical.byContradiction o2
        · cases z
      obtain ⟨g1, g2, g3, _⟩ := E.new hn
      refine ⟨a, rfl, hn, g2, g1, rfl, E' a hn ⟨_, o1⟩, ?_⟩
      rw [o1]
      refine ⟨vs, rfl, (h0.parts h2 (by simp only [D.dp]; omega)).mono fun b u hb => ?_⟩
      obtain ⟨k1, k2⟩ := cut_inv hb
      obtain ⟨k3, k4⟩ := cut_inv k1
      rcases k2 with k2 | ⟨xs, rfl⟩
      · rcases k4 with k4 | ⟨xs, rfl⟩
        · have hb0 : H b = none := Classical.byContradiction k4
          obtain ⟨n1, n2, n3, _⟩ := E.new hb0
          refine cut_of k3 fun z => ?_
          rcases z with (z | z) | z | ⟨_, z⟩
          · exact k2 z
          · exact n2 z
          · exact n3 z
          · exact z n1
        · exact cut_tup k3
      · exact cut_tup k3
  | _ => exact h.mono (new_rh E)
theorem Env.potStep {p : Addr} {i : Nat} {r : Bool} (E : Env F σ ρ H) (hi : ρ[i]? = some (some (.ow r .pot))) (hs : σ[i]? = some (some (.ref p))) (k : Kp p H H') (hp : Pot H' p) : Env F σ ρ H' ∧ Stp (OwnA σ ρ) H (OwnA σ ρ) H' := by
  have oai : OwnAt σ ρ i p := ⟨r, _, hi, .inl hs⟩
  have oa : OwnA σ ρ p := ⟨i, oai⟩
  obtain ⟨x, y, hx, hy, hxy⟩ := id hp
  have st : Stp (OwnA σ ρ) H (OwnA σ ρ) H' := ⟨fun b o hb nb => ⟨k b o (fun z => nb (z ▸ oa)) hb, nb⟩, fun b hb => by
    by_cases z : b = p
    · rw [z, hxy] at hb
      cases hb
    · exact k.free z hb⟩
  have there : ∀ b, (∃ v, H b = some v) → ∃ v, H' b = some v := fun b ⟨v, hv⟩ => by
    by_cases z : b = p
    · exact ⟨_, by rw [z]; exact hxy⟩
    · exact ⟨v, k _ _ z hv⟩
  refine ⟨⟨E.len, fun b o hb np nx => ?_, fun j rj dj hj => ?_, fun j rj dj hj => ?_, E.inj, E.pt, fun b hb => ⟨there b (E.hidIn b hb).1, (E.hidIn b hb).2⟩, fun j rj dj hj => (E.xo j rj dj hj).same fun b hb v hv => ?_, E.xt, fun b hb => there b (E.pxIn b hb), fun b xs hb => ?_, E.hc, E.tc, E.sc, fun i s hi => (E.raw i s hi).mono fun _ => E.rh st⟩, st⟩
  · have : b ≠ p := fun z => by
      subst z
      obtain ⟨a, g1, _, _, g4⟩ := E.ow i r _ hi
      rw [hs] at g1
      cases g1
      rcases g4 with g4 | g4 | g4
      · rw [hb] at g4
        cases g4
      · exact np g4
      · exact nx g4.1
    rcases E.keep b o hb np nx with z | ⟨l, od, z⟩
    · exact .inl (k _ _ this z)
    · exact .inr ⟨l, od, k _ _ this z⟩
  · obtain ⟨v, g1, g2⟩ := E.sh j rj dj hj
    exact ⟨v, g1, g2.mono (E.rh st)⟩
  · obtain ⟨a, g1, g2, g3⟩ := E.ow j rj dj hj
    refine ⟨a, g1, ?_, g3⟩
    by_cases z : a = p
    · subst z
      have := E.inj j i a ⟨_, _, hj, .inl g1⟩ oai
      subst this
      rw [hi] at hj
      cases hj
      exact ⟨x, y, hx, hy, hxy⟩
    · obtain ⟨u, hu, _⟩ := g2.there
      rw [k _ _ z hu, ← hu]
      exact g2.mono (E.rh st)
  · have : b ≠ p := fun z => by
      subst z
      have := E.inj j i b ⟨_, _, hj, .inr hb⟩ oai
      subst this
      rw [hi] at hj
      cases hj
      cases hb
    exact k _ _ this hv
  · have h5 := E.tp b xs hb
    have : b ≠ p := fun z => by
      subst z
      obtain ⟨u, hu, nu⟩ := E.notup oa
      rw [h5] at hu
      cases hu
      exact nu xs rfl
    exact k _ _ this h5
end
/-! ### calls -/
def noPotL (ps : List (Bool × D)) : Bool := ps.all fun p => match p.2 with
  | .pot => false
  | _ => true
section
variable {K : PySem.W.Frag} {W : WXT}
theorem reps_of {F : Fr} {O : Addr → Prop} {H : Hp} : ∀ {vs : List V} {ps : List (Bool × D)}, Tops F.K F O H vs ps → noPotL ps = true → RepL F.K H vs (ps.map (·.2))
  | _, _, .nil, _ => .nil
  | _, _, .cons (b := p) h g, e => by
    unfold noPotL at e
    rw [List.all_cons, Bool.and_eq_true] at e
    refine .cons (h.rep rh_le fun z => ?_) (reps_of g e.2)
    have e1 := e.1
    have z : p.2 = .pot := z
    rw [z] at e1
    cases e1
/-- a promise, not yet opened -/
@[irreducible] def callC (fs : FS) (ds : List D) (k : D → Prop) (x : Exn → Prop) : Prop := fs ds k x
@[irreducible] def takeC (n : Int) (k : Int → Prop) : Prop := 0 < n ∧ n < 1073741824 ∧ ∀ i, 0 ≤ i → i < n → k i
theorem callC_eq {fs : FS} {ds : List D} {k : D → Prop} {x : Exn → Prop} : callC fs ds k x = fs ds k x := by unfold callC; rfl
theorem takeC_eq {n : Int} {k : Int → Prop} : takeC n k = (0 < n ∧ n < 1073741824 ∧ ∀ i, 0 ≤ i → i < n → k i) := by unfold takeC; rfl
def dCall (fs : FS) (u : DAW) : DW := fun X ρ R => u X ρ fun xs ρ1 => match rds ρ1 xs with
  | some ps => noPotL ps = true ∧ callC fs (ps.map (·.2)) (fun d => R (frOf d) ρ1) (fun _ => False)
  | none => False
instance {fs : FS} {E0 : XK} {t : TA} {u : DAW} [A : DA K W t u] : DE K W (tCall (sp0 K fs) [] E0 t) (dCall fs u) where
  ok := fun {F σ H ρ X R Q} hK E L h q => A.ok hK E L h fun xs ρ1 vs H1 h1 E1 s1 r1 => by
    subst hK
    split at h1
    · rename_i ps e
      rw [callC_eq] at h1
      refine ⟨ps.map (·.2), _, _, ?_, h1.2, fun d v H' hR sm hd => ?_, fun _ _ _ z => z.elim⟩
      · rw [List.append_nil]
        exact reps_of (tops_of E1 r1 e) h1.1
      · exact q _ ρ1 v H' hR (E1.grow sm) (s1.trans (.same sm)) (RepV.early (fr_of E1 (fun a ha he => E1.hideNew ha sm he) hd) s1)
    · exact h1.elim
/-- a def that may raise -/
def dCallX (fs : FS) (u : DAW) : DW := fun X ρ R => u X ρ fun xs ρ1 => match rds ρ1 xs with
  | some ps => noPotL ps = true ∧ callC fs (ps.map (·.2)) (fun d => R (frOf d) ρ1) (fun x => X x ρ1)
  | none => False
theorem XRep.newH {F : Fr} {σ : L2.St} {ρ : DEnv} {H H' : Hp} {dd : Option Addr} {x : Exn} (E : Env F σ ρ H) (h : XRep F.K (newH H H') dd x) : XRep F.K (F.RH (OwnA σ ρ) H' true) dd x := h.mono (new_rh E)
/-- a def with a pot -/
def potAt (ρ : DEnv) (i : Nat) : Bool := match ρ[i]? with
  | some (some (.ow _ .pot)) => true
  | _ => false
theorem potAt_of {ρ : DEnv} {i : Nat} (h : potAt ρ i = true) : ∃ r, ρ[i]? = some (some (.ow r .pot)) := by
  unfold potAt at h
  split at h
  · rename_i r e
    exact ⟨r, e⟩
  · cases h
def dCallP (fs : FS) (u : DAW) : DW := fun X ρ R => u X ρ fun xs ρ1 => match xs with
  | .al i :: ys => potAt ρ1 i = true ∧ match rds ρ1 ys with
    | some ps => noPotL ps = true ∧ callC fs (ps.map (·.2)) (fun d => R (frOf d) ρ1) (fun _ => False)
    | none => False
  | _ => False
theorem RepV.noPot {F : Fr} {Hs : Hp} {σ : L2.St} {ρ : DEnv} {H : Hp} {v : V} {dv : DV} {r : Bool} {d : D} {i : Nat} {p : Addr} {r' : Bool} (E : Env F σ ρ H) (hi : ρ[i]? = some (some (.ow r' .pot))) (hs : σ[i]? = some (some (.ref p))) (h : RepV F Hs σ ρ H v dv) (e : rd ρ dv = some (r, d)) (nd : d ≠ .pot) : Rep F.K (cut (· = p) H) v d := by
  have oa : OwnA σ ρ p := ⟨i, r', _, hi, .inl hs⟩
  have up : ∀ r, Same (F.RH (OwnA σ ρ) H r) (cut (· = p) H) := fun r a o z => by
    obtain ⟨z1, z2⟩ := cut_inv z
    rcases z2 with z2 | ⟨xs, rfl⟩
    · exact cut_of z1 fun (y : a = p) => z2 (.inr (.inl (y ▸ oa)))
    · exact cut_tup z1
  cases dv with
  | v r d =>
    cases e
    exact Rep.mono (up _) h
  | fr r d =>
    cases e
    exact Rep.mono (up _) h.fr_rep
  | al j =>
    simp only [rd] at e
    split at e
    · rename_i r1 d1 hj
      cases e
      obtain ⟨w, h1, h2⟩ := E.sh j _ _ hj
      rw [show σ[j]? = some (some v) from h] at h1
      cases h1
      exact h2.mono (up _)
    · rename_i r1 d1 hj
      obtain ⟨rfl, rfl, hw⟩ := owRd_of e
      obtain ⟨a, h1, h2, _⟩ := E.ow j _ _ hj
      rw [show σ[j]? = some (some v) from h] at h1
      cases h1
      have hap : a ≠ p := fun z => by
        subst z
        have := E.inj j i a ⟨_, _, hj, .inl h⟩ ⟨_, _, hi, .inl hs⟩
        subst this
        rw [hi] at hj
        cases hj
        exact nd rfl
      have hh : RepO F.K (cut (· = p) H) (cut (· = p) H a) d1 := by
        obtain ⟨u, hu, _⟩ := h2.there
        rw [cut_of hu hap, ← hu]
        exact h2.mono (up _)
      exact (hh.top hw).rep (fun _ _ z => z) nd
    · cases e
theorem reps_no {F : Fr} {Hs : Hp} {σ : L2.St} {ρ : DEnv} {H : Hp} {i : Nat} {p : Addr} {r' : Bool} (E : Env F σ ρ H) (hi : ρ[i]? = some (some (.ow r' .pot))) (hs : σ[i]? = some (some (.ref p))) : ∀ {vs : List V} {dvs : List DV} {ps : List (Bool × D)}, Paired (fun v dv => RepV F Hs σ ρ H v dv) vs dvs → rds ρ dvs = some ps → noPotL ps = true → RepL F.K (cut (· = p) H) vs (ps.map (·.2))
  | _, _, _, .nil, e, _ => by
    cases e
    exact .nil
  | _, _, _, .cons (b := x) h g, e, n => by
    simp only [rds] at e
    split at e
    · rename_i q qs hq hqs
      cases e
      unfold noPotL at n
      rw [List.all_cons, Bool.and_eq_true] at n
      refine .cons (h.noPot E hi hs hq fun z => ?_) (reps_no E hi hs g hqs n.2)
      have n1 := n.1
      have z : q.2 = .pot := z
      rw [z] at n1
      cases n1
    · cases e
theorem hide_kp {F : Fr} {σ : L2.St} {ρ : DEnv} {H H' : Hp} {p : Addr} {i : Nat} {r : Bool} (E : Env F σ ρ H) (hi : ρ[i]? = some (some (.ow r .pot))) (hs : σ[i]? = some (some (.ref p))) (k : Kp p H H') (hp : Pot H' p) (a : Addr) (ha : H a = none) (he : ∃ o, H' a = some o) : Env (F.hide a) σ ρ H' := by
  obtain ⟨u, hu, nu⟩ := E.notup ⟨i, r, _, hi, .inl hs⟩
  have hap : a ≠ p := fun z => by
    rw [z, hu] at ha
    cases ha
  obtain ⟨o, ho⟩ := he
  have E1 : Env (F.hide a) σ ρ (upd H a o) := E.hideNew ha (same_new ha) ⟨o, upd_same⟩
  refine (E1.potStep hi hs (H' := H') (fun b q hb hq => ?_) hp).1
  by_cases z : b = a
  · subst z
    rw [upd_same] at hq
    cases hq
    exact ho
  · rw [upd_ne z] at hq
    exact k b q hb hq
instance {fs : FS} {E0 : XK} {t : TA} {u : DAW} [A : DA K W t u] : DE K W (tCall (spP K fs) [] E0 t) (dCallP fs u) where
  ok := fun {F σ H ρ X R Q} hK E L h q => A.ok hK E L h fun xs ρ1 vs H1 h1 E1 s1 r1 => by
    subst hK
    split at h1
    · rename_i i ys
      cases r1 with
      | @cons v _ us _ hv hr =>
        obtain ⟨hp, h1⟩ := h1
        obtain ⟨r, hi⟩ := potAt_of hp
        obtain ⟨p, g1, ⟨x, y, g2⟩, _⟩ := E1.ow i r _ hi
        have g0 : σ[i]? = some (some v) := hv
        rw [g0] at g1
        cases g1
        split at h1
        · rename_i ps e
          rw [callC_eq] at h1
          refine ⟨p, us, ps.map (·.2), _, _, by rw [List.append_nil], ⟨x, y, g2⟩, reps_no E1 hi g0 hr e h1.1, h1.2, fun d v H' hR k hp' hd => ?_, fun _ _ _ z => z.elim⟩
          obtain ⟨E2, s2⟩ := E1.potStep hi g0 k hp'
          exact q _ ρ1 v H' hR E2 (s1.trans s2) (RepV.early (fr_of E1 (fun a ha he => hide_kp E1 hi g0 k hp' a ha he) hd) s1)
        · exact h1.elim
    · exact h1.elim
/-- _law_take -/
def dTake (u : DAW) : DW := fun X ρ R => u X ρ fun xs ρ1 => match xs with
  | [.al i, y] => potAt ρ1 i = true ∧ match rd ρ1 y with
    | some (_, .int n) => takeC n fun k => R (.v true (.int k)) ρ1
    | _ => False
  | _ => False
end
end PW

namespace PW
open PySem PySem.Spec PyProof.Rows L2
def spPot (K : PySem.W.Frag) : Sp := fun vs H Q _ => ∃ (a : Addr) (k : Int) (ns : List Int), vs = [.ref a, .int k] ∧ SqL K H a (ns.map V.int) ∧ ns.length ≤ 1000 ∧ 0 ≤ k ∧ k < 1000 ∧
  ∀ p H', H p = none → Same H H' → Pot H' p → Q (.ref p) H'
def spTake : Sp := fun vs H Q _ => ∃ (p : Addr) (n : Int), vs = [.ref p, .int n] ∧ Pot H p ∧ 0 < n ∧ n < 1073741824 ∧
  ∀ d H', 0 ≤ d → d < n → Kp p H H' → Pot H' p → Q (.int d) H'
end PW

namespace PW
open PySem PySem.Spec PyProof.Rows L2
/-! ### names -/
def Code (c : Nat) : Prop := 97 ≤ c ∧ c ≤ 122
def IsName (x : Str) : Prop := ∃ l : List Nat, x = SX.S l ∧ 1 ≤ l.length ∧ l.length ≤ 4 ∧ ∀ c ∈ l, Code c
structure NamesOk (ns : List Str) : Prop where
  nd : ns.Nodup
  ok : ∀ x ∈ ns, IsName x
def Heads (b : Int) (ws : List Str) : Prop := ∀ (j : Nat) (x : Str), ws[j]? = some x → ∃ l : List Nat, x = SX.S ((97 + ((b + 5 * (j : Int)) % 26).toNat) :: l) ∧ l.length ≤ 3 ∧ ∀ c ∈ l, Code c
theorem Heads.nil (b : Int) : Heads b [] := fun j x h => by simp at h
theorem Heads.snoc {b : Int} {ws : List Str} (h : Heads b ws) {l : List Nat} (hl : l.length ≤ 3) (hc : ∀ c ∈ l, Code c) : Heads b (ws ++ [SX.S ((97 + ((b + 5 * (ws.length : Int)) % 26).toNat) :: l)]) := fun j x e => by
  by_cases hj : j < ws.length
  · rw [List.getElem?_append_left hj] at e
    exact h j x e
  · rw [List.getElem?_append_right (by omega)] at e
    by_cases hz : j - ws.length = 0
    · have ej : j = ws.length := by omega
      rw [hz] at e
      have ex : SX.S ((97 + ((b + 5 * (ws.length : Int)) % 26).toNat) :: l) = x := Option.some.inj e
      subst ej
      exact ⟨l, ex.symm, hl, hc⟩
    · obtain ⟨k, hk⟩ : ∃ k, j - ws.length = k + 1 := ⟨j - ws.length - 1, by omega⟩
      rw [hk] at e
      simp at e
theorem Heads.ok {b : Int} {ws : List Str} (h : Heads b ws) (hl : ws.length ≤ 9) : NamesOk ws where
  nd := by
    unfold List.Nodup
    rw [List.pairwise_iff_getElem]
    intro i j hi hj hij e
    obtain ⟨l1, e1, _, _⟩ := h i _ (List.getElem?_eq_getElem hi)
    obtain ⟨l2, e2, _, _⟩ := h j _ (List.getElem?_eq_getElem hj)
    rw [e1, e2] at e
    have e3 := (List.cons.inj (SX.S_inj e)).1
    omega
  ok := fun x hx => by
    obtain ⟨j, hj, e⟩ := List.getElem_of_mem hx
    obtain ⟨l, e1, h1, h2⟩ := h j x (by rw [← e]; exact List.getElem?_eq_getElem hj)
    refine ⟨_, e1, by simp, by simp; omega, fun c hc => ?_⟩
    rcases List.mem_cons.mp hc with rfl | hc
    · unfold Code
      omega
    · exact h2 c hc
theorem ixN_of {n : Nat} {i : Int} {j : Nat} (e : i = (j : Int)) (h : j < n) : ixN n i = some j := by
  subst e
  unfold ixN
  rw [if_pos (by omega), if_pos (by omega)]
  simp
theorem atI_of {α : Type} {xs : List α} {i : Int} {j : Nat} {v : α} (e : i = (j : Int)) (h : xs[j]? = some v) : atI xs i = some v := by
  have hj : j < xs.length := (List.getElem?_eq_some_iff.mp h).1
  unfold atI
  rw [ixN_of e hj]
  exact h
theorem letters_eq : ("abcdefghijklmnopqrstuvwxyz" : Str).cps.toList = List.range' 97 26 := by decide +kernel
theorem letters_at {i : Int} (h0 : 0 ≤ i) (h1 : i < 26) : atI ("abcdefghijklmnopqrstuvwxyz" : Str).cps.toList i = some (97 + i.toNat) := by
  rw [letters_eq]
  refine atI_of (j := i.toNat) (show i = ((i.toNat : Nat) : Int) by omega) ?_
  rw [List.getElem?_range' (by omega), Nat.one_mul]
theorem letters_len : ("abcdefghijklmnopqrstuvwxyz" : Str).length ≤ sizeLine := by decide +kernel
theorem code_of {i : Int} (h0 : 0 ≤ i) (h1 : i < 26) : Code (97 + i.toNat) := ⟨by omega, by omega⟩
theorem small_size {n : Nat} (h : n ≤ 1000) : n ≤ sizeLine := Nat.le_of_lt (small1000 h)
def spNames : Sp := fun vs H Q _ => ∃ (p : Addr) (n : Int), vs = [.ref p, .int n] ∧ Pot H p ∧ 1 ≤ n ∧ n ≤ 9 ∧
  ∀ r ns H', NamesOk ns → ns.length = n.toNat → H r = none → Kp p H H' → Pot H' p → H' r = some (.lst (ns.map V.str)) → Q (.ref r) H'
theorem all_snocC {l : List Nat} {x : Nat} (h : ∀ y ∈ l, Code y) (hx : Code x) : ∀ y ∈ l ++ [x], Code y := fun y hy => by
  rcases List.mem_append.mp hy with hy | hy
  · exact h y hy
  · rw [List.mem_singleton.mp hy]
    exact hx
end PW

namespace PW
open PySem PySem.Spec PyProof.Rows L2
/-! ### lists that hold what another holds, in another order -/
theorem perm_of_map {α β : Type} {f : α → β} : ∀ {ys zs : List β}, ys.Perm zs → ∀ l : List α, zs = l.map f → ∃ l' : List α, ys = l'.map f ∧ l'.Perm l := by
  intro ys zs h
  induction h with
  | nil =>
    intro l e
    have : l = [] := by
      cases l with
      | nil => rfl
      | cons a b => cases e
    subst this
    exact ⟨[], rfl, .nil⟩
  | cons x _ ih =>
    intro l e
    cases l with
    | nil => cases e
    | cons a b =>
      rw [List.map_cons] at e
      obtain ⟨e1, e2⟩ := List.cons.inj e
      obtain ⟨l', h1, h2⟩ := ih b e2
      exact ⟨a :: l', by rw [List.map_cons, e1, h1], h2.cons a⟩
  | swap x y r =>
    intro l e
    match l, e with
    | [], e => cases e
    | [_], e => cases e
    | a :: b :: c, e =>
      rw [List.map_cons, List.map_cons] at e
      obtain ⟨e1, e2⟩ := List.cons.inj e
      obtain ⟨e3, e4⟩ := List.cons.inj e2
      exact ⟨b :: a :: c, by rw [List.map_cons, List.map_cons, e1, e3, e4], .swap a b c⟩
  | trans _ _ ih1 ih2 =>
    intro l e
    obtain ⟨l1, a1, b1⟩ := ih2 l e
    obtain ⟨l2, a2, b2⟩ := ih1 l1 a1
    exact ⟨l2, a2, b2.trans b1⟩
theorem perm_insert {α : Type} (ys : List α) (x : α) (n : Nat) : (ys.take n ++ [x] ++ ys.drop n).Perm (ys ++ [x]) := by
  have h1 : (ys.take n ++ [x] ++ ys.drop n).Perm (ys.take n ++ (ys.drop n ++ [x])) := by
    rw [List.append_assoc]
    exact List.Perm.append_left _ List.perm_append_comm
  rw [← List.append_assoc, List.take_append_drop] at h1
  exact h1
theorem take_snoc {α : Type} {xs : List α} {i : Nat} {x : α} (h : xs[i]? = some x) : xs.take (i + 1) = xs.take i ++ [x] := by
  rw [List.take_add_one, h]
  rfl
/-! ### ties -/
abbrev Ats := List (Addr × Str × Str)
def Ats.vals (l : Ats) : List V := l.map fun x => V.ref x.1
def Ats.ties (l : Ats) : List (Str × Str) := l.map fun x => x.2
def TieOk (ns : List Str) (t : Str × Str) : Prop := t.1 ∈ ns ∧ t.2 ∈ ns ∧ t.1 ≠ t.2
def TupsAt (H : Hp) (l : Ats) : Prop := ∀ x ∈ l, H x.1 = some (.tup [.str x.2.1, .str x.2.2])
theorem TupsAt.nil (H : Hp) : TupsAt H [] := fun x h => by simp at h
theorem TupsAt.same {H H' : Hp} {l : Ats} (h : TupsAt H l) (e : Same H H') : TupsAt H' l := fun x hx => e _ _ (h x hx)
theorem TupsAt.kp {H H' : Hp} {l : Ats} {p : Addr} (h : TupsAt H l) (hp : Pot H p) (e : Kp p H H') : TupsAt H' l := fun x hx => by
  obtain ⟨a, b, _, _, z⟩ := hp
  exact e _ _ (ne_of (h x hx) z (by intro q; cases q)) (h x hx)
theorem TupsAt.snoc {H : Hp} {l : Ats} {x : Addr × Str × Str} (h : TupsAt H l) (hx : H x.1 = some (.tup [.str x.2.1, .str x.2.2])) : TupsAt H (l ++ [x]) := fun y hy => by
  rcases List.mem_append.mp hy with hy | hy
  · exact h y hy
  · rw [List.mem_singleton.mp hy]
    exact hx
theorem TupsAt.upd {H : Hp} {l : Ats} {q : Addr} {xs ys : List V} (h : TupsAt H l) (e : H q = some (.lst xs)) : TupsAt (L2.upd H q (.lst ys)) l := fun x hx => by
  rw [upd_ne (ne_of (h x hx) e (by intro z; cases z))]
  exact h x hx
theorem TupsAt.perm {H : Hp} {l l' : Ats} (h : TupsAt H l) (e : l'.Perm l) : TupsAt H l' := fun x hx => h x (e.mem_iff.mp hx)
theorem Pot.tup_ne {H : Hp} {p q : Addr} {xs : List V} (h : Pot H p) (e : H q = some (.tup xs)) : q ≠ p := by
  obtain ⟨a, b, _, _, z⟩ := h
  exact ne_of e z (by intro w; cases w)
def spMixed : Sp := fun vs H Q _ => ∃ (p a : Addr) (xs : List V), vs = [.ref p, .ref a] ∧ Pot H p ∧ a ≠ p ∧ H a = some (.lst xs) ∧ xs.length ≤ 1000 ∧
  ∀ r ys H', ys.Perm xs → H r = none → Kp p H H' → Pot H' p → H' r = some (.lst ys) → Q (.ref r) H'
def spTie : Sp := fun vs H Q _ => ∃ (p a : Addr) (ns : List Str), vs = [.ref p, .ref a] ∧ Pot H p ∧ a ≠ p ∧ H a = some (.lst (ns.map V.str)) ∧ ns.Nodup ∧ 2 ≤ ns.length ∧ ns.length ≤ 1000 ∧
  ∀ t x y H', TieOk ns (x, y) → H t = none → Kp p H H' → Pot H' p → H' t = some (.tup [.str x, .str y]) → Q (.ref t) H'
theorem nodup_ne {ns : List Str} (h : ns.Nodup) {i j : Nat} {x y : Str} (hi : ns[i]? = some x) (hj : ns[j]? = some y) (ne : i ≠ j) : x ≠ y := by
  obtain ⟨h1, e1⟩ := List.getElem?_eq_some_iff.mp hi
  obtain ⟨h2, e2⟩ := List.getElem?_eq_some_iff.mp hj
  unfold List.Nodup at h
  rw [List.pairwise_iff_getElem] at h
  rw [← e1, ← e2]
  rcases Nat.lt_or_gt_of_ne ne with z | z
  · exact h i j h1 h2 z
  · exact fun q => h j i h2 h1 z q.symm
theorem nodup_len : ∀ {ms ns : List Str}, ms.Nodup → (∀ x ∈ ms, x ∈ ns) → ms.length ≤ ns.length
  | [], _, _, _ => Nat.zero_le _
  | x :: r, ns, nd, h => by
    have hx : x ∈ ns := h x List.mem_cons_self
    obtain ⟨nx, nr⟩ := List.nodup_cons.mp nd
    have h2 : ∀ y ∈ r, y ∈ ns.erase x := fun y hy => by
      have ne : y ≠ x := fun e => nx (e ▸ hy)
      exact (List.mem_erase_of_ne ne).mpr (h y (List.mem_cons_of_mem _ hy))
    have h3 := nodup_len nr h2
    rw [List.length_erase_of_mem hx] at h3
    have h4 : 0 < ns.length := List.length_pos_of_mem hx
    rw [List.length_cons]
    omega
end PW

namespace PW
open PySem PySem.Spec PyProof.Rows L2
theorem ring_at {xs : List Str} (hn : 2 ≤ xs.length) (nd : xs.Nodup) {k : Int} (h0 : 0 ≤ k) (h1 : k < xs.length) :
    ∃ x y, atI (xs.map V.str) (k - 1) = some (.str x) ∧ atI (xs.map V.str) k = some (.str y) ∧ TieOk xs (x, y) := by
  have hk : k.toNat < xs.length := by omega
  have g : ∀ j : Nat, (h : j < xs.length) → (xs.map V.str)[j]? = some (.str xs[j]) := fun j h => by
    rw [List.getElem?_map, List.getElem?_eq_getElem h]
    rfl
  by_cases hz : k = 0
  · have hl : xs.length - 1 < xs.length := by omega
    refine ⟨xs[xs.length - 1], xs[k.toNat], ?_, atI_of (show k = ((k.toNat : Nat) : Int) by omega) (g _ hk), List.getElem_mem hl, List.getElem_mem hk, nodup_ne nd (List.getElem?_eq_getElem hl) (List.getElem?_eq_getElem hk) (by omega)⟩
    subst hz
    unfold atI ixN
    rw [if_neg (by omega), List.length_map, if_pos (by omega)]
    show (xs.map V.str)[((0 : Int) - 1 + (xs.length : Int)).toNat]? = _
    rw [show ((0 : Int) - 1 + (xs.length : Int)).toNat = xs.length - 1 by omega]
    exact g _ hl
  · have hl : (k - 1).toNat < xs.length := by omega
    exact ⟨xs[(k - 1).toNat], xs[k.toNat], atI_of (show k - 1 = (((k - 1).toNat : Nat) : Int) by omega) (g _ hl), atI_of (show k = ((k.toNat : Nat) : Int) by omega) (g _ hk), List.getElem_mem hl, List.getElem_mem hk, nodup_ne nd (List.getElem?_eq_getElem hl) (List.getElem?_eq_getElem hk) (by omega)⟩
theorem TieOk.perm {ns ms : List Str} {t : Str × Str} (h : TieOk ns t) (e : ns.Perm ms) : TieOk ms t := ⟨e.mem_iff.mp h.1, e.mem_iff.mp h.2.1, h.2.2⟩
theorem Ats.vals_len (l : Ats) : l.vals.length = l.length := by
  unfold Ats.vals
  rw [List.length_map]
theorem Ats.vals_snoc (l : Ats) (x : Addr × Str × Str) : Ats.vals (l ++ [x]) = l.vals ++ [V.ref x.1] := by
  unfold Ats.vals
  rw [List.map_append]
  rfl
theorem Ats.vals_at {l : Ats} {i : Nat} {v : V} (h : l.vals[i]? = some v) : ∃ x, l[i]? = some x ∧ v = V.ref x.1 := by
  unfold Ats.vals at h
  rw [List.getElem?_map] at h
  cases e : l[i]? with
  | none =>
    rw [e] at h
    cases h
  | some x =>
    rw [e] at h
    exact ⟨x, rfl, (Option.some.inj h).symm⟩
theorem ints_at {ts : List Int} {i : Nat} {v : V} (h : (ts.map V.int)[i]? = some v) : ∃ x, ts[i]? = some x ∧ v = V.int x := by
  rw [List.getElem?_map] at h
  cases e : ts[i]? with
  | none =>
    rw [e] at h
    cases h
  | some x =>
    rw [e] at h
    exact ⟨x, rfl, (Option.some.inj h).symm⟩
theorem strs_at {ts : List Str} {i : Nat} {v : V} (h : (ts.map V.str)[i]? = some v) : ∃ x, ts[i]? = some x ∧ v = V.str x := by
  rw [List.getElem?_map] at h
  cases e : ts[i]? with
  | none =>
    rw [e] at h
    cases h
  | some x =>
    rw [e] at h
    exact ⟨x, rfl, (Option.some.inj h).symm⟩
theorem all_snoc {α : Type} {P : α → Prop} {l : List α} {x : α} (h : ∀ y ∈ l, P y) (hx : P x) : ∀ y ∈ l ++ [x], P y := fun y hy => by
  rcases List.mem_append.mp hy with hy | hy
  · exact h y hy
  · rw [List.mem_singleton.mp hy]
    exact hx
def spWeb : Sp := fun vs H Q _ => ∃ (p : Addr) (pts most : Int), vs = [.ref p, .int pts, .int most] ∧ Pot H p ∧ 1 ≤ pts ∧ pts ≤ 9 ∧ pts ≤ most ∧ most ≤ 20 ∧
  ∀ t a b ns (ats : Ats) H', NamesOk ns → 1 ≤ ns.length → (ns.length : Int) ≤ pts → (ats.length : Int) ≤ most → (∀ x ∈ ats, TieOk ns x.2) → H t = none → H a = none → H b = none → a ≠ b → Kp p H H' → Pot H' p →
    H' t = some (.tup [.ref a, .ref b]) → H' a = some (.lst (ns.map V.str)) → H' b = some (.lst ats.vals) → TupsAt H' ats → Q (.ref t) H'
theorem Ats.ties_len (l : Ats) : l.ties.length = l.length := by
  unfold Ats.ties
  rw [List.length_map]
theorem Ats.ties_at {l : Ats} {i : Nat} {x : Addr × Str × Str} (h : l[i]? = some x) : l.ties[i]? = some x.2 := by
  unfold Ats.ties
  rw [List.getElem?_map, h]
  rfl
theorem Ats.ties_snoc (l : Ats) (x : Addr × Str × Str) : Ats.ties (l ++ [x]) = l.ties ++ [x.2] := by
  unfold Ats.ties
  rw [List.map_append]
  rfl
theorem same_filter {ns xs : List Str} (i : Nat) {z : Str} (h : ns[i]? = some z) : ((ns.take (i + 1)).filter fun z => decide (z ∈ xs)) = if z ∈ xs then ((ns.take i).filter fun z => decide (z ∈ xs)) ++ [z] else ((ns.take i).filter fun z => decide (z ∈ xs)) := by
  rw [take_snoc h, List.filter_append, List.filter_cons, List.filter_nil]
  by_cases hz : z ∈ xs
  · rw [decide_eq_true hz, if_pos hz]
    rfl
  · rw [decide_eq_false hz, if_neg hz]
    simp
end PW

namespace PW
open PySem PySem.Spec PyProof.Rows L2
section
variable {K : PySem.W.Frag} {W : WXT}
/-! ### draws -/
instance {E0 : XK} {t : TA} {u : DAW} [A : DA K W t u] : DE K W (tCall spTake [] E0 t) (dTake u) where
  ok := fun {F σ H ρ X R Q} hK E L h q => A.ok hK E L h fun xs ρ1 vs H1 h1 E1 s1 r1 => by
    split at h1
    · rename_i i y
      obtain ⟨v, w, rfl, hv, hw⟩ := paired2 r1
      obtain ⟨hp, h1⟩ := h1
      obtain ⟨r, hi⟩ := potAt_of hp
      obtain ⟨p, g1, ⟨x, y', g2⟩, _⟩ := E1.ow i r _ hi
      have g0 : σ[i]? = some (some v) := hv
      rw [g0] at g1
      cases g1
      split at h1
      · rename_i rn n e
        cases (show w = .int n from hw.top E1 e)
        rw [takeC_eq] at h1
        refine ⟨p, n, rfl, ⟨x, y', g2⟩, h1.1, h1.2.1, fun d H' d0 d1 k hp' => ?_⟩
        obtain ⟨E2, s2⟩ := E1.potStep hi g0 k hp'
        exact q _ ρ1 _ H' (h1.2.2 d d0 d1) E2 (s1.trans s2) (.int d)
      · exact h1.elim
    · exact h1.elim
theorem Env.lessHid {F : Fr} {σ : L2.St} {ρ : DEnv} {H : Hp} (E : Env F σ ρ H) {hid' : Addr → Prop} (h : ∀ b, hid' b → F.hid b) : Env { F with hid := hid' } σ ρ H := by
  have up : ∀ r, Same (F.RH (OwnA σ ρ) H r) (Fr.RH { F with hid := hid' } (OwnA σ ρ) H r) := fun r => by
    refine cut_mono (fun b o hb nb => ⟨hb, fun z => ?_⟩) fun b xs hb _ => hb
    rcases z with z | z | z
    · exact nb (.inl (h b z))
    · exact nb (.inr (.inl z))
    · exact nb (.inr (.inr z))
  refine ⟨E.len, E.keep, fun i r d z => ?_, fun i r d z => ?_, E.inj, E.pt, fun b hb => E.hidIn b (h b hb), E.xo, fun i r d b z hb => ⟨fun y => (E.xt i r d b z hb).1 (h b y), (E.xt i r d b z hb).2⟩, E.pxIn, E.tp, E.hc, E.tc, E.sc, fun i s hi => (E.raw i s hi).mono up⟩
  · obtain ⟨v, h1, h2⟩ := E.sh i r d z
    exact ⟨v, h1, h2.mono (up r)⟩
  · obtain ⟨b, h1, h2, h3, h4⟩ := E.ow i r d z
    exact ⟨b, h1, h2.mono (up r), fun z => h3 (h b z), h4⟩
/-- a hidden thing changes -/
theorem Env.hidStep {F : Fr} {σ : L2.St} {ρ : DEnv} {H H' : Hp} {p : Addr} {u u' : HO} (E : Env F σ ρ H) (hh : F.hid p) (h0 : F.H0 p = none) (k : Kp p H H') (hp : H p = some u) (nt : ∀ xs, u ≠ .tup xs) (hp' : H' p = some u') : Env F σ ρ H' ∧ Stp (fun a => OwnA σ ρ a ∨ a = p) H (fun a => OwnA σ ρ a ∨ a = p) H' := by
  have up : ∀ r, Same (F.RH (OwnA σ ρ) H r) (F.RH (OwnA σ ρ) H' r) := fun r => by
    refine cut_mono (fun b o hb nb => ⟨k b o (fun z => nb (.inl (z ▸ hh))) hb, nb⟩) fun b xs hb _ => k b _ (fun z => ?_) hb
    subst z
    rw [hp] at hb
    cases hb
    exact nt xs rfl
  have there : ∀ b, (∃ v, H b = some v) → ∃ v, H' b = some v := fun b ⟨v, hv⟩ => by
    by_cases z : b = p
    · exact ⟨_, by rw [z]; exact hp'⟩
    · exact ⟨v, k _ _ z hv⟩
  refine ⟨⟨E.len, fun b o hb np nx => ?_, fun i r d z => ?_, fun i r d z => ?_, E.inj, E.pt, fun b hb => ⟨there b (E.hidIn b hb).1, (E.hidIn b hb).2⟩, fun i r d z => (E.xo i r d z).same fun b hb v hv => k _ _ (fun y => (E.xt i r d b z hb).1 (y ▸ hh)) hv, E.xt, fun b hb => there b (E.pxIn b hb), fun b xs hb => k _ _ (fun y => ?_) (E.tp b xs hb), E.hc, E.tc, E.sc, fun i s hi => (E.raw i s hi).mono up⟩, ⟨fun a o ha na => ⟨k a o (fun z => na (.inr z)) ha, na⟩, fun a ha => ?_⟩⟩
  · have : b ≠ p := fun z => by
      rw [z, h0] at hb
      cases hb
    rcases E.keep b o hb np nx with z | ⟨l, od, z⟩
    · exact .inl (k _ _ this z)
    · exact .inr ⟨l, od, k _ _ this z⟩
  · obtain ⟨v, h1, h2⟩ := E.sh i r d z
    exact ⟨v, h1, h2.mono (up r)⟩
  · obtain ⟨b, h1, h2, h3, h4⟩ := E.ow i r d z
    have : b ≠ p := fun z => h3 (z ▸ hh)
    obtain ⟨w, hw, _⟩ := h2.there
    refine ⟨b, h1, ?_, h3, h4⟩
    rw [k _ _ this hw, ← hw]
    exact h2.mono (up r)
  · subst y
    rw [hb] at h0
    cases h0
  · by_cases z : a = p
    · rw [z, hp'] at ha
      cases ha
    · exact k.free z ha
/-- the script's slot -/
def scrAt (ρ : DEnv) (i : Nat) (k : List Int → Prop) : Prop := match ρ[i]? with
  | some (some (.scr ns)) => k ns
  | _ => False
theorem scr_sq {F : Fr} {σ : L2.St} {ρ : DEnv} {H : Hp} {a : Addr} {ns : List Int} (E : Env F σ ρ H) (h : ScrAt F a ns) : SqL F.K H a (ns.map V.int) := by
  rcases h with ⟨h1, h2, h3, h4⟩ | h1
  · rcases h1 with h1 | ⟨o, h1⟩
    · rcases E.keep a _ h1 h2 h4 with z | ⟨z, _⟩
      · exact .inl (.inl z)
      · exact absurd z h3
    · rcases E.keep a _ h1 h2 h4 with z | ⟨z, _⟩
      · exact .inl (.inr ⟨o, z⟩)
      · exact absurd z h3
  · rcases h1 with (h1 | ⟨_, h1⟩) | h1
    · cases h1
    · cases h1
    · exact .inr h1
/-- len(x), of the script too -/
def dLenV (i : Nat) : DW := fun X ρ R => match ρ[i]? with
  | some (some (.scr ns)) => R (.v true (.int (ns.length : Nat))) ρ
  | _ => dCB dLenG (dCons (dVar i) dNil) X ρ R
instance (priority := high) {i : Nat} : DE K W (tCB (rLenG K) (tCons (tVar i) tNil)) (dLenV i) where
  ok := fun {F σ H ρ X R Q} hK E L h q => by
    unfold dLenV at h
    split at h
    · rename_i ns e
      subst hK
      obtain ⟨a, g1, g2⟩ := E.raw i _ e
      refine ⟨_, g1, .inl ⟨_, _, rfl, .inl ⟨_, scr_sq E (E.sc _ _ g2), rfl⟩, ?_⟩⟩
      rw [List.length_map]
      exact q _ ρ _ H h E (.refl _ _) (.int _)
    · have A : DE K W (tCB (rLenG K) (tCons (tVar i) tNil)) (dCB dLenG (dCons (dVar i) dNil)) := inferInstance
      exact A.ok hK E L h q
/-- a new pot -/
def dPotNew (j i : Nat) (w : DW) : DSW := fun X E ρ => scrAt ρ i fun ns => ns.length ≤ 1000 ∧ w X ρ fun y ρ1 => match rd ρ1 y with
  | some (_, .int k) => 0 ≤ k ∧ k < 1000 ∧ j < ρ1.length ∧ noPotB ρ1 j = true ∧ E.nx (ρ1.set j (some (.ow true .pot)))
  | _ => False
instance {E0 : XK} {i j : Nat} {t : TE} {w : DW} [A : DE K W t w] : DS K W (tAsg (tCall (spPot K) [] E0 (tCons (tVar i) (tCons t tNil))) (gName j)) (dPotNew j i w) where
  ok := fun {F σ H ρ X E Dn} hK En L h nx bk ct rt => by
    subst hK
    unfold dPotNew scrAt at h
    split at h
    · rename_i ns e
      obtain ⟨a, g1, g2⟩ := En.raw i _ e
      refine ⟨_, g1, A.ok rfl En L h.2 fun y ρ1 v H1 h1 E1 s1 r1 => ?_⟩
      split at h1
      · rename_i r k ek
        cases (show v = .int k from r1.top E1 ek)
        refine ⟨a, k, ns, rfl, scr_sq E1 (E1.sc _ _ g2), h.1, h1.1, h1.2.1, fun p H' hp sm ⟨x, y', p1, p2, p3⟩ => ?_⟩
        obtain ⟨n1, n2, n3, _⟩ := E1.new hp
        have E2 : Env (F.hide p) σ ρ1 H' := E1.hideNew hp sm ⟨_, p3⟩
        obtain ⟨E3, s3⟩ := E2.setOw (r := true) (d := .pot) (noPot_of h1.2.2.2.1) h1.2.2.1 n1 n2 rfl ⟨x, y', p1, p2, p3⟩
        exact nx _ _ H' h1.2.2.2.2 E3 (s3 _ H (s1.dom _ hp) (s1.trans (.same sm)))
      · exact h1.elim
    · exact h.elim
/-- f(_law_pot(script, k), ..) -/
def dCallPN (fs : FS) (i : Nat) (w : DW) (u : DAW) : DW := fun X ρ R => scrAt ρ i fun ns => ns.length ≤ 1000 ∧ w X ρ fun y ρ1 => match rd ρ1 y with
  | some (_, .int k) => 0 ≤ k ∧ k < 1000 ∧ u noX ρ1 fun ys ρ2 => match rds ρ2 ys with
    | some ps => noPotL ps = true ∧ callC fs (ps.map (·.2)) (fun d => R (frOf d) ρ2) (fun _ => False)
    | none => False
  | _ => False
theorem RepV.noHid {F : Fr} {Hs : Hp} {σ : L2.St} {ρ : DEnv} {H : Hp} {v : V} {dv : DV} {r : Bool} {d : D} {p : Addr} (E : Env F σ ρ H) (hh : F.hid p) (h : RepV F Hs σ ρ H v dv) (e : rd ρ dv = some (r, d)) (nd : d ≠ .pot) : Rep F.K (cut (· = p) H) v d := by
  have up : ∀ r, Same (F.RH (OwnA σ ρ) H r) (cut (· = p) H) := fun r a o z => by
    obtain ⟨z1, z2⟩ := cut_inv z
    rcases z2 with z2 | ⟨xs, rfl⟩
    · exact cut_of z1 fun (y : a = p) => z2 (.inl (y ▸ hh))
    · exact cut_tup z1
  cases dv with
  | v r d =>
    cases e
    exact Rep.mono (up _) h
  | fr r d =>
    cases e
    exact Rep.mono (up _) h.fr_rep
  | al j =>
    simp only [rd] at e
    split at e
    · rename_i r1 d1 hj
      cases e
      obtain ⟨w, h1, h2⟩ := E.sh j _ _ hj
      rw [show σ[j]? = some (some v) from h] at h1
      cases h1
      exact h2.mono (up _)
    · rename_i r1 d1 hj
      obtain ⟨rfl, rfl, hw⟩ := owRd_of e
      obtain ⟨a, h1, h2, h3, _⟩ := E.ow j _ _ hj
      rw [show σ[j]? = some (some v) from h] at h1
      cases h1
      have hap : a ≠ p := fun z => h3 (z ▸ hh)
      have hq : RepO F.K (cut (· = p) H) (cut (· = p) H a) d1 := by
        obtain ⟨u, hu, _⟩ := h2.there
        rw [cut_of hu hap, ← hu]
        exact h2.mono (up _)
      exact (hq.top hw).rep (fun _ _ z => z) nd
    · cases e
theorem reps_hid {F : Fr} {Hs : Hp} {σ : L2.St} {ρ : DEnv} {H : Hp} {p : Addr} (E : Env F σ ρ H) (hh : F.hid p) : ∀ {vs : List V} {dvs : List DV} {ps : List (Bool × D)}, Paired (fun v dv => RepV F Hs σ ρ H v dv) vs dvs → rds ρ dvs = some ps → noPotL ps = true → RepL F.K (cut (· = p) H) vs (ps.map (·.2))
  | _, _, _, .nil, e, _ => by
    cases e
    exact .nil
  | _, _, _, .cons (b := x) h g, e, n => by
    simp only [rds] at e
    split at e
    · rename_i q qs hq hqs
      cases e
      unfold noPotL at n
      rw [List.all_cons, Bool.and_eq_true] at n
      refine .cons (h.noHid E hh hq fun z => ?_) (reps_hid E hh g hqs n.2)
      have n1 := n.1
      have z : q.2 = .pot := z
      rw [z] at n1
      cases n1
    · cases e
instance {fs : FS} {E0 E1 : XK} {i : Nat} {t : TE} {w : DW} {ta : TA} {u : DAW} [A : DE K W t w] [B : DA K W ta u] : DE K W (tCall (spP K fs) [] E0 (tCons (tCall (spPot K) [] E1 (tCons (tVar i) (tCons t tNil))) ta)) (dCallPN fs i w u) where
  ok := fun {F σ H ρ X R Q} hK E L h q => by
    subst hK
    unfold dCallPN scrAt at h
    split at h
    · rename_i ns e
      obtain ⟨a, g1, g2⟩ := E.raw i _ e
      refine ⟨_, g1, A.ok rfl E L h.2 fun y ρ1 v H1 h1 E1 s1 r1 => ?_⟩
      split at h1
      · rename_i r k ek
        cases (show v = .int k from r1.top E1 ek)
        refine ⟨a, k, ns, rfl, scr_sq E1 (E1.sc _ _ g2), h.1, h1.1, h1.2.1, fun p H2 hp sm hpot => ?_⟩
        obtain ⟨x, y', p1, p2, p3⟩ := id hpot
        obtain ⟨n1, n2, n3, _⟩ := E1.new hp
        have E2 : Env (F.hide p) σ ρ1 H2 := E1.hideNew hp sm ⟨_, p3⟩
        refine B.ok (F := F.hide p) rfl E2 XLink.no h1.2.2 fun ys ρ2 us H3 h3 E3 s3 r3 => ?_
        split at h3
        · rename_i ps eps
          rw [callC_eq] at h3
          have no : ¬ OwnA σ ρ1 p := n3
          obtain ⟨p4, p5⟩ := s3.kp p _ p3 no
          have rr : RepL F.K (cut (· = p) H3) us (ps.map (·.2)) := reps_hid E3 (Or.inl rfl) r3 eps h3.1
          refine ⟨p, us, ps.map (·.2), _, _, by rw [List.append_nil], ⟨x, y', p1, p2, p4⟩, rr, h3.2, fun d v H' hR kp hp' hd => ?_, fun _ _ _ z => z.elim⟩
          obtain ⟨x', y'', q1, q2, q3⟩ := id hp'
          have nt : ∀ xs, HO.lst [V.int x, V.int y'] ≠ .tup xs := fun _ z => by cases z
          obtain ⟨E4, s4⟩ := E3.hidStep (Or.inl rfl) n1 kp p4 nt q3
          have hp0 : H p = none := s1.dom p hp
          have st : Stp (OwnA σ ρ) H (OwnA σ ρ2) H' := by
            refine ⟨fun b o hb nb => ?_, fun b hb => ?_⟩
            · obtain ⟨k1, k2⟩ := s1.kp b o hb nb
              obtain ⟨k3, k4⟩ := s3.kp b o (sm _ _ k1) k2
              have hbp : b ≠ p := ne_of_none hb hp0
              exact ⟨kp _ _ hbp k3, k4⟩
            · have hbp : b ≠ p := fun z => by
                rw [z, q3] at hb
                cases hb
              exact s1.dom b (sm.free (s3.dom b (kp.free hbp hb)))
          have E30 : Env F σ ρ2 H3 := E3.unhide
          refine q _ ρ2 v H' hR E4.unhide st (RepV.early (O := OwnA σ ρ) (O1 := OwnA σ ρ2) (fr_of E30 (fun b hb ⟨o, ho⟩ => ?_) hd) ?_)
          · have hbp : b ≠ p := fun z => by
              rw [z, p4] at hb
              cases hb
            have E5 : Env ((F.hide p).hide b) σ ρ2 (upd H3 b o) := E3.hideNew hb (same_new hb) ⟨o, upd_same⟩
            have kp' : Kp p (upd H3 b o) H' := fun c w hc hw => by
              by_cases z : c = b
              · subst z
                rw [upd_same] at hw
                cases hw
                exact ho
              · rw [upd_ne z] at hw
                exact kp c w hc hw
            obtain ⟨E6, _⟩ := E5.hidStep (p := p) (Or.inr (Or.inl rfl)) n1 kp' (by rw [upd_ne (Ne.symm hbp)]; exact p4) nt q3
            exact E6.lessHid (hid' := (F.hide b).hid) fun c hc => hc.elim Or.inl fun z => Or.inr (Or.inr z)
          · refine ⟨fun b o hb nb => ?_, fun b hb => s1.dom b (sm.free (s3.dom b hb))⟩
            obtain ⟨k1, k2⟩ := s1.kp b o hb nb
            exact s3.kp b o (sm _ _ k1) k2
        · exact h3.elim
      · exact h1.elim
    · exact h.elim
/-! ### methods -/
def dMeth (c m : Str) (fs : FS) (wo : DW) (u : DAW) : DW := fun X ρ R => wo X ρ fun x ρ1 => (match rd ρ1 x with
  | some (_, .ins c' es) => c' = c ∧ (es.lookup m).isNone = true
  | _ => False) ∧ u X ρ1 fun ys ρ2 => match rds ρ2 (x.tmp :: ys) with
    | some ps => noPotL ps = true ∧ callC fs (ps.map (·.2)) (fun d => R (frOf d) ρ2) (fun _ => False)
    | none => False
theorem look_none {fs : List (Str × V)} : ∀ {es : List (Str × D)} {m : Str}, fs.map (·.1) = es.map (·.1) → (es.lookup m).isNone = true → fs.lookup m = none := by
  induction fs with
  | nil => intro es m _ _; rfl
  | cons p fs ih =>
    intro es m h e
    cases es with
    | nil => cases h
    | cons q es =>
      simp only [List.map_cons, List.cons.injEq] at h
      obtain ⟨k, v⟩ := p
      obtain ⟨k', d⟩ := q
      have hk : k = k' := h.1
      subst hk
      rw [List.lookup_cons] at e ⊢
      by_cases z : (m == k) = true
      · rw [z] at e
        cases e
      · rw [Bool.eq_false_iff.mpr z] at e ⊢
        exact ih h.2 e
instance {c m : Str} {fs : FS} {E0 : XK} {to : TE} {wo : DW} {t : TA} {u : DAW} [A : DE K W to wo] [B : DA K W t u] : DE K W (tMeth (He.ga K c) m (sp0 K fs) [] E0 to t) (dMeth c m fs wo u) where
  ok := fun {F σ H ρ X R Q} hK E L h q => A.ok hK E L h fun x ρ1 v H1 h1 E1 s1 r1 => by
    subst hK
    obtain ⟨h1, h2⟩ := h1
    split at h1
    · rename_i r c' es e
      obtain ⟨a, dx, fvs, rfl, g1, g2, g3⟩ := r1.top E1 e
      obtain ⟨rfl, hl⟩ := h1
      refine ⟨a, dx, fvs, rfl, g1, look_none g2 hl, B.ok rfl E1 (L.stp s1) h2 fun ys ρ2 us H2 h3 E2 s2 r2 => ?_⟩
      split at h3
      · rename_i ps eps
        rw [callC_eq] at h3
        have r12 : Paired (fun v dv => RepV F H σ ρ2 H2 v dv) (V.ref a :: us) (x.tmp :: ys) := .cons (r1.stp E1 s2) (paired_imp (fun _ _ z => z.early s1) r2)
        refine ⟨ps.map (·.2), _, _, ?_, h3.2, fun d v H' hR sm hd => ?_, fun _ _ _ z => z.elim⟩
        · rw [List.append_nil]
          exact reps_of (tops_of E2 r12 eps) h3.1
        · exact q _ ρ2 v H' hR (E2.grow sm) ((s1.trans s2).trans (.same sm)) (RepV.early (fr_of E2 (fun a ha he => E2.hideNew ha sm he) hd) (s1.trans s2))
      · exact h3.elim
    · exact h1.elim
/-! ### __init__ and C(..) -/
def putFD (f : Str) (d : D) : List (Str × D) → List (Str × D)
  | [] => [(f, d)]
  | (g, x) :: r => if g = f then (g, d) :: r else (g, x) :: putFD f d r
theorem putF_rep {K : PySem.W.Frag} {H : Hp} {f : Str} {v : V} {d : D} (h : Rep K H v d) {fs : List (Str × V)} {es : List (Str × D)} (g : KRep K H fs es) : KRep K H (putF f v fs) (putFD f d es) := by
  refine g.ind (P := fun fs es => KRep K H (putF f v fs) (putFD f d es)) (.cons h .nil) fun k v' d' kvs es hv hk ih => ?_
  unfold putF putFD
  by_cases e : k = f
  · rw [if_pos e, if_pos e]
    exact .cons h hk
  · rw [if_neg e, if_neg e]
    exact .cons hv ih
def dSFld (K : PySem.W.Frag) (f : Str) (wo wv : DW) : DSW := fun X E ρ => wv X ρ fun y ρ1 => wo X ρ1 fun x ρ2 => match st ρ2 y.tmp with
  | some (r, d, ρ3) => match x.tmp with
    | .al i => match ρ3[i]? with
      | some (some (.ow r0 (.ins c es))) => ClsOk K c f ∧ es.length < 1000 ∧ E.nx (ρ3.set i (some (.ow (r0 && r) (.ins c (putFD f d es)))))
      | _ => False
    | _ => False
  | none => False
instance {f : Str} {to tv : TE} {wo wv : DW} [A : DE K W tv wv] [B : DE K W to wo] : DS K W (sFld K to tv f) (dSFld K f wo wv) where
  ok := fun {F σ H ρ X E Dn} hK En L h nx bk ct rt => A.ok hK En L h fun y ρ1 u H1 h1 E1 s1 r1 => B.ok hK E1 (L.stp s1) h1 fun x ρ2 v H2 h2 E2 s2 r2 => by
    subst hK
    have r1' : RepV F H σ ρ2 H2 u y.tmp := r1.stp E1 s2
    have r2' : RepV F H σ ρ2 H2 v x.tmp := r2.stp E2 (.refl _ _)
    split at h2
    · rename_i r d ρ3 e
      obtain ⟨E3, s3, p3⟩ := r1'.st E2 e
      split at h2
      · rename_i i ei
        rw [ei] at r2'
        have r2' : σ[i]? = some (some v) := r2'
        split at h2
        · rename_i r0 c es hi
          obtain ⟨a, g1, ⟨dx, fvs, g2, g3, g4⟩, _⟩ := E3.ow i r0 _ hi
          rw [r2'] at g1
          cases g1
          obtain ⟨hc, hl, h2⟩ := h2
          have kr : KRep F.K (F.RH (OwnA σ ρ3) H2 (r0 && r)) fvs es := ⟨g3, g4.weak fun z => by rw [Bool.and_eq_true] at z; exact z.1⟩
          have p3' : Rep F.K (F.RH (OwnA σ ρ3) H2 (r0 && r)) u d := p3.weak fun z => by rw [Bool.and_eq_true] at z; exact z.2
          have kp := putF_rep (f := f) p3' kr
          obtain ⟨E4, s4⟩ := E3.put (r' := r0 && r) (d' := .ins c (putFD f d es)) (o := .ins (He.ga F.K c) dx (putF f u fvs)) hi r2' (fun _ => rfl) ⟨dx, _, rfl, kp.1, kp.2⟩
          exact ⟨a, _, dx, fvs, rfl, g2, hc.cl, hc.na, by rw [kr.len]; exact hl, nx _ σ _ h2 E4 (((s1.trans s2).trans s3).trans s4)⟩
        · exact h2.elim
      · exact h2.elim
    · exact h2.elim
/-- the promise of an __init__: R of the made thing -/
def spI (K : PySem.W.Frag) (c : Str) (fs : FS) : Sp := fun vs H Q E => ∃ (x dx : Addr) (us : List V) (ds : List D) (R : D → Prop) (Xd : Exn → Prop), vs = .ref x :: us ∧ H x = some (.ins (He.ga K c) dx []) ∧ RepL K (cut (· = x) H) us ds ∧ fs ds R Xd ∧
  (∀ es fvs dx' H', R (.ins c es) → Kp x H H' → H' x = some (.ins (He.ga K c) dx' fvs) → KRep K (newH H H') fvs es → Q .non H') ∧
  ∀ e dd H', Xd e → Kp x H H' → XRep K (newH H H') dd e → E (.ref (He.ga K e.c)) dd H'
def slotsI (c : Str) (ds : List D) (n : Nat) : DEnv := some (Sl.ow true (.ins c [])) :: slots ds (n - 1)
theorem envI {K : PySem.W.Frag} {c : Str} {H : Hp} {N : List Str} {p dx : Addr} {vs : List V} {ds : List D} (hp : H p = some (.ins (He.ga K c) dx [])) (h : RepL K (cut (· = p) H) vs ds) : Env (frame K H (some p)) (L2.start N (.ref p :: vs)) (slotsI c ds N.length) H := by
  have sh : ∀ {i : Nat} {s : Sl}, (slotsI c ds N.length)[i]? = some (some s) → (i = 0 ∧ s = .ow true (.ins c [])) ∨ ∃ j d, i = j + 1 ∧ ds[j]? = some d ∧ s = .sh false d := fun {i s} z => by
    cases i with
    | zero =>
      cases z
      exact .inl ⟨rfl, rfl⟩
    | succ j =>
      obtain ⟨d, z1, z2⟩ := sl_at (show (slots ds (N.length - 1))[j]? = some (some s) from z)
      exact .inr ⟨j, d, rfl, z1, z2⟩
  have s0 : (L2.start N (.ref p :: vs))[0]? = some (some (.ref p)) := st_at rfl
  have ow : ∀ a, OwnA (L2.start N (.ref p :: vs)) (slotsI c ds N.length) a → a = p := fun a ⟨i, r, d, z, y⟩ => by
    rcases sh z with ⟨rfl, z⟩ | ⟨_, _, _, _, z⟩
    · cases z
      rcases y with y | y
      · rw [s0] at y
        cases y
        rfl
      · cases y
    · cases z
  refine ⟨?_, fun a o z _ _ => .inl z, fun i r d z => ?_, fun i r d z => ?_, fun i j a ⟨r, d, z, _⟩ ⟨r', d', z', _⟩ => ?_, fun a z => ?_, fun a z => z.elim, fun i r d z => ?_, fun i r d b z => ?_, fun a z => z.elim, fun a xs z => z, fun a o z _ => z, fun a xs z => z, fun a ns z => z.elim, fun i v z => ?_⟩
  · unfold L2.start slotsI slots
    have := h.len
    simp only [List.length_cons, List.length_append, List.length_map, List.length_replicate]
    omega
  · rcases sh z with ⟨_, z⟩ | ⟨j, e, rfl, z1, z2⟩
    · cases z
    · cases z2
      obtain ⟨v, g1, g2⟩ := h.get z1
      refine ⟨v, st_at (show (V.ref p :: vs)[j + 1]? = some v from g1), g2.mono fun a o ha => ?_⟩
      obtain ⟨k1, k2⟩ := cut_inv ha
      rcases k2 with k2 | ⟨xs, rfl⟩
      · refine cut_of k1 fun y => ?_
        rcases y with y | y | ⟨y, _⟩
        · exact y
        · exact k2 (ow a y)
        · cases y
      · exact cut_tup k1
  · rcases sh z with ⟨rfl, z⟩ | ⟨_, _, _, _, z⟩
    · cases z
      exact ⟨p, s0, ⟨dx, [], hp, rfl, .nil⟩, fun z => z, .inr (.inl rfl)⟩
    · cases z
  · rcases sh z with ⟨rfl, _⟩ | ⟨_, _, _, _, z⟩
    · rcases sh z' with ⟨rfl, _⟩ | ⟨_, _, _, _, z⟩
      · rfl
      · cases z
    · cases z
  · cases z
    exact ⟨true, .ins c [], rfl, rfl, s0⟩
  · rcases sh z with ⟨_, z⟩ | ⟨_, _, _, _, z⟩ <;> cases z
    trivial
  · rcases sh z with ⟨_, z⟩ | ⟨_, _, _, _, z⟩ <;> cases z
    intro z
    cases z
  · rcases sh z with ⟨_, z⟩ | ⟨_, _, _, _, z⟩ <;> cases z <;> trivial
/-- what the object is in the end -/
def madeB (c : Str) (ρ : DEnv) (k : D → Prop) : Prop := match (ρ[(0 : Nat)]? : Option (Option Sl)) with
  | some (some (.ow r (.ins c' es))) => r = true ∧ c' = c ∧ k (.ins c es)
  | _ => False
theorem runI {K : PySem.W.Frag} {c : Str} {fs : FS} {t : TS} {w : DSW} {N : List Str} {vs : List V} {H : Hp} {Q : VK} {E : XK} (A : DS K (fun _ _ _ _ => False) t w) (h : spI K c fs vs H Q E)
    (k : ∀ ds R Xd, fs ds R Xd → w noX ⟨fun ρ => madeB c ρ R, fun d ρ => False, fun _ => False, fun _ => False⟩ (slotsI c ds N.length)) : t { nx := fun _ H' => Q .non H', rt := Q } (L2.start N vs) H := by
  obtain ⟨p, dx, us, ds, R, Xd, rfl, h0, h1, h2, h3, h4⟩ := h
  have kp : ∀ {σ ρ} {H' : Hp}, Env (frame K H (some p)) σ ρ H' → Kp p H H' := fun {σ ρ H'} E' a o n z => by
    rcases E'.keep a o z (fun y => n (Option.some.inj y).symm) (fun y => y) with y | ⟨y, _⟩
    · exact y
    · exact y.elim
  refine A.ok (F := frame K H (some p)) rfl (envI h0 h1) XLink.no (k ds R Xd h2) (fun ρ' σ' H' z E' _ => ?_) (fun _ _ _ z => z.elim) (fun _ _ _ z => z.elim) fun d ρ' σ' v H' z E' _ r' => z.elim
  have z : madeB c ρ' R := z
  unfold madeB at z
  split at z
  · rename_i r c' es e
    obtain ⟨rfl, rfl, hR⟩ := z
    obtain ⟨r0, d0, e1, _, e3⟩ := E'.pt p rfl
    obtain ⟨a, g1, ⟨dx', fvs, g2, g3, g4⟩, _⟩ := E'.ow 0 _ _ e
    rw [e3] at g1
    cases g1
    exact h3 es fvs dx' H' hR (kp E') g2 ⟨g3, g4.mono frame_new⟩
  · exact z.elim
def dMake (c : Str) (fs : FS) (u : DAW) : DW := fun X ρ R => u X ρ fun xs ρ1 => match rds ρ1 xs with
  | some ps => noPotL ps = true ∧ callC fs (ps.map (·.2)) (fun d => R (.v true d) ρ1) (fun _ => False)
  | none => False
instance {c : Str} {fs : FS} {E0 : XK} {t : TA} {u : DAW} [A : DA K W t u] : DE K W (tMake (He.ga K c) (spI K c fs) [] E0 t) (dMake c fs u) where
  ok := fun {F σ H ρ X R Q} hK E L h q => A.ok hK E L h fun xs ρ1 vs H1 h1 E1 s1 r1 => by
    subst hK
    split at h1
    · rename_i ps e
      rw [callC_eq] at h1
      intro x dx hx hdx ne
      have up : Same H1 (upd (upd H1 dx (.own x)) x (.ins (He.ga F.K c) dx [])) := (same_new hdx).next (by rw [upd_ne (Ne.symm ne)]; exact hx)
      refine ⟨x, dx, vs, ps.map (·.2), _, _, by rw [List.append_nil], upd_same, ?_, h1.2, fun es fvs dx' H' hR k hH kr => ⟨rfl, ?_⟩, fun _ _ _ z => z.elim⟩
      · refine (reps_of (tops_of E1 r1 e) h1.1).mono fun a o ha => ?_
        exact cut_of (up _ _ ha) fun (z : a = x) => by
          rw [z, hx] at ha
          cases ha
      · have sm : Same H1 H' := fun a o ha => k a o (ne_of_none ha hx) (up _ _ ha)
        have E2 := E1.grow sm
        refine q _ ρ1 _ H' hR E2 (s1.trans (.same sm)) ?_
        have up2 : Same (newH (upd (upd H1 dx (.own x)) x (.ins (He.ga F.K c) dx [])) H') (F.RH (OwnA σ ρ1) H' true) := fun a o ha => by
          refine new_rh (H := H1) (H' := H') E1 a o ?_
          obtain ⟨k1, k2⟩ := cut_inv ha
          rcases k2 with k2 | ⟨xs, rfl⟩
          · refine cut_of k1 fun z => k2 fun y => ?_
            exact z (up.free y)
          · exact cut_tup k1
        have kr' := kr.mono up2
        obtain ⟨n1, n2, n3, _⟩ := E1.new hx
        refine .ins (cut_of hH fun z => ?_) kr'.1 kr'.2
        rcases z with z | z | ⟨_, z⟩
        · exact n2 z
        · exact n3 z
        · exact z n1
    · exact h1.elim
end
end PW

namespace PW
open PySem PySem.Spec PyProof.Rows L2
/-! ### set(list of texts), its length -/
/-- the first k of val, each once -/
def onceS (val : Nat → Str) : Nat → List Str
  | 0 => []
  | k + 1 => if (onceS val k).any (· == val k) then onceS val k else onceS val k ++ [val k]
theorem onceS_len (val : Nat → Str) : ∀ k, (onceS val k).length ≤ k
  | 0 => Nat.le_refl _
  | k + 1 => by
    have := onceS_len val k
    unfold onceS
    split
    · omega
    · rw [List.length_append, List.length_singleton]
      omega
theorem onceS_any (val : Nat → Str) (k : Nat) (z : Str) : (onceS val (k + 1)).any (· == z) = ((onceS val k).any (· == z) || decide (z = val k)) := by
  rw [show onceS val (k + 1) = if (onceS val k).any (· == val k) then onceS val k else onceS val k ++ [val k] from rfl]
  by_cases h : (onceS val k).any (· == val k) = true
  · rw [if_pos h]
    by_cases hz : z = val k
    · rw [hz, h]
      rfl
    · rw [decide_eq_false hz, Bool.or_false]
  · rw [if_neg h, List.any_append, List.any_cons, List.any_nil, Bool.or_false]
    congr 1
    by_cases hz : z = val k
    · rw [decide_eq_true hz, hz]
      exact beq_self_eq_true _
    · rw [decide_eq_false hz]
      exact beq_eq_false_iff_ne.mpr fun q => hz q.symm
theorem onceS_size (val : Nat → Str) (k : Nat) : (onceS val (k + 1)).length = if (onceS val k).any (· == val k) then (onceS val k).length else (onceS val k).length + 1 := by
  rw [show onceS val (k + 1) = if (onceS val k).any (· == val k) then onceS val k else onceS val k ++ [val k] from rfl]
  split
  · rfl
  · rw [List.length_append, List.length_singleton]
theorem onceS_nodup {xs : List Str} (h : xs.Nodup) : ∀ k, k ≤ xs.length → onceS (fun i => xs.getD i Str.empty) k = xs.take k
  | 0, _ => by
    rw [List.take_zero]
    rfl
  | k + 1, hk => by
    have hk2 : k < xs.length := hk
    have e1 : xs.getD k Str.empty = xs[k] := by
      rw [List.getD_eq_getElem?_getD, List.getElem?_eq_getElem hk2]
      rfl
    have e2 : xs.take (k + 1) = xs.take k ++ [xs[k]] := by
      rw [List.take_add_one, List.getElem?_eq_getElem hk2]
      rfl
    have no : ((xs.take k).any (· == xs[k])) = false := by
      rw [List.any_eq_false]
      intro y hy ey
      have ey2 : y = xs[k] := eq_of_beq ey
      obtain ⟨j, hj, ej⟩ := List.getElem_of_mem hy
      rw [List.length_take] at hj
      rw [List.getElem_take] at ej
      exact List.pairwise_iff_getElem.mp h j k (by omega) hk2 (by omega) (ej.trans ey2)
    rw [show onceS (fun i => xs.getD i Str.empty) (k + 1) = if (onceS (fun i => xs.getD i Str.empty) k).any (· == xs.getD k Str.empty) then onceS (fun i => xs.getD i Str.empty) k else onceS (fun i => xs.getD i Str.empty) k ++ [xs.getD k Str.empty] from rfl]
    rw [onceS_nodup h k (Nat.le_of_lt hk2), e1, no, e2]
    rfl
section
variable {prog : Program} {w : World} {A : Around} {R : Result → Shared → Prop} {I : Addr} {fp wr : List Addr} {G : Array GenState → Array GenState → Prop} {n : Nat} {P : Nat → Value → Prop} {St : Nat → Shared → Prop}
abbrev SetHas (prog : Program) (w : World) (h : Heap) (S : Addr) (l : List Str) : Prop := h.SetOf (PySem.strKind prog w) S (fun z => l.any (· == z)) l.length
theorem set_loop_str (W : WalksS prog w A.in1 I fp wr G n P St) (S : Addr) (out : S ∉ fp) (val : Nat → Str) (isv : ∀ i v, P i v → ∃ t, v = .str (val i) t) (small : n + 1 < scanBound) :
    ∀ (m i : Nat) (s : Shared), n - i = m → i ≤ n → St i s → SetHas prog w s.heap S (onceS val i) →
      (∀ s', Moved (S :: wr) G s s' → SetHas prog w s'.heap S (onceS val n) → R (.ok (.ret .none)) s') →
      codeAny (model prog w) A (.builtin "set.update.loop" ⟨[.ref S, .ref I], []⟩) R s := by
  have outw : S ∉ wr := fun z => out (W.sub _ z)
  have more : ∀ b ∈ wr, b ∈ S :: wr := fun b z => List.mem_cons_of_mem _ z
  intro m
  induction m with
  | zero =>
    intro i s hm hi st hs fin
    have ei : i = n := by omega
    subst ei
    refine codeAny_builtin PyProof.Rows.F.entry_set_update_loop ?_
    rw [Around.under_plainId PyProof.Rows.F.plain_set_update_loop _]
    show wpAny _ A.in1 (pyNext (.ref I) >>= _) _ _ s
    refine wpAny_bind (W.done s _ _ st fun s' mv => ?_)
    show wpAny _ A.in1 (ret Value.none) _ _ s'
    refine wpAny_pure (fin s' (mv.mono more) ?_)
    obtain ⟨o, es, ep, t, ho, rest⟩ := hs
    exact ⟨o, es, ep, t, mv.heap S _ outw ho, rest⟩
  | succ m ih =>
    intro i s hm hi st hs fin
    have lt : i < n := by omega
    refine codeAny_builtin PyProof.Rows.F.entry_set_update_loop ?_
    rw [Around.under_plainId PyProof.Rows.F.plain_set_update_loop _]
    show wpAny _ A.in1 (pyNext (.ref I) >>= _) _ _ s
    refine wpAny_bind (W.item i s _ _ lt st fun v s' pv st' mv => ?_)
    obtain ⟨t, rfl⟩ := isv i v pv
    have hs1 : SetHas prog w s'.heap S (onceS val i) := by
      obtain ⟨o, es, ep, tb, ho, rest⟩ := hs
      exact ⟨o, es, ep, tb, mv.heap S _ outw ho, rest⟩
    show wpAny _ A.in1 (holding [Value.str (val i) t] (setAdd S (.str (val i) t)) >>= _) _ _ s'
    refine wpAny_bind (wpAny_holding ?_)
    unfold setAdd
    refine wpAny_holding (wpAny_bind ((PySem.strKind prog w).pyHash (k := val i) (PySem.strKind_is _ _ _ _) ?_))
    have room : (onceS val i).length + 1 < scanBound := Nat.lt_of_le_of_lt (Nat.add_le_add_right (onceS_len val i) 1) (by omega)
    refine wpAny_setAddHashed_of (knd := PySem.strKind prog w) (s := { s' with toks := s'.toks + 1 }) (PySem.strKind_is _ _ _ _) rfl hs1 room fun h' sb hs2 => ?_
    have hs3 : SetHas prog w h' S (onceS val (i + 1)) := PyProof.Rows.SetOf_congr hs2 (fun z => (onceS_any val i z).symm) (onceS_size val i).symm
    refine wpAny_pure ⟨plainId_quiet PyProof.Rows.F.plain_set_update_loop _, ih (i + 1) _ (by omega) lt (W.frame _ s' _ _ st' (Nat.le_succ _) fun b hb o e => ?_) hs3 fun s'' mv2 hs4 => ?_⟩
    · rw [sb.2 b fun z : b = S => out (z ▸ hb)]
      exact e
    · refine fin s'' (Moved.trans W.gtrans ((mv.mono more).then_heap (Nat.le_succ _) fun b o hb e => ?_) mv2) hs4
      rw [sb.2 b fun z : b = S => hb (z ▸ List.mem_cons_self)]
      exact e
end
end PW

namespace PySem
open PySem.Spec
section
variable {prog : Program} {w : World} {A : Around} {E : Value → Shared → Prop} {s : Shared}
def strsAre (items : Array Value) (xs : List Str) : Prop := ∀ (i : Nat) (v : Value), items[i]? = some v → ∃ t, v = .str (xs.getD i Str.empty) t
set_option maxHeartbeats 3200000 in
theorem pw_set_list {l : Addr} {items : Array Value} {xs : List Str} {Q : Value → Shared → Prop} (quiet : A.handled = none) (il : s.heap.IsList l items) (isv : strsAre items xs) (small : items.size + 1 < scanBound)
    (fin : ∀ (h' : Heap) (tk : Nat), PW.SetHas prog w h' s.heap.objs.size (PW.onceS (fun i => xs.getD i Str.empty) items.size) → (∀ b o, b < s.heap.objs.size → s.heap.get? b = some o → h'.get? b = some o) → Q (.ref s.heap.objs.size) { s with heap := h', toks := tk }) :
    wpAny (model prog w) A (call (.type "set") [.ref l]) Q E s := by
  obtain ⟨c, tl, hmro⟩ := F.called_set.mro
  have z1 := F.called_set.made
  have z2 := F.called_set.sub
  refine wpAny_call (codeAny_of_tree ?_)
  show wpAny _ _ (callAny (.type "set") _) _ _ _
  refine wpAny_pure ⟨Code.quiet_builtin _ (by decide +kernel), codeAny_builtin F.entry_type_call ?_⟩
  rw [Around.under_plain (weight_type_call_type "set" [.ref l] []) rfl]
  have z3 := F.called_set.notType
  have z4 := F.called_set.canCreate
  have z5 := F.typeCall_set_1 (.ref l)
  repeat (any_goals (first | assumption | wp_step))
  refine codeAny_mono (code_set_new_1 (.ref l) (E := E) (Q₁ := fun obj s₁ => ∃ led : Bool, obj = .ref s.heap.objs.size ∧
    s₁ = { s with heap := s.heap.push { cls := .type "set", dict := none, data := .set #[] 0 (.fresh 0 0 led) } }) fun led => ⟨led, rfl, rfl⟩) fun r s₁ hr => ?_
  cases r with
  | error e => exact hr
  | ok fl =>
    cases fl with
    | ret obj =>
      obtain ⟨led, rfl, rfl⟩ := hr
      have gS : (s.heap.push { cls := .type "set", dict := none, data := .set #[] 0 (.fresh 0 0 led) }).get? s.heap.objs.size = some { cls := .type "set", dict := none, data := .set #[] 0 (.fresh 0 0 led) } := by
        exact Heap.get?_push_size _ rfl
      have hT : Shared.TypeIs { s with heap := s.heap.push { cls := .type "set", dict := none, data := .set #[] 0 (.fresh 0 0 led) } } (.ref s.heap.objs.size) "set" := ⟨_, gS, rfl⟩
      have y1 := F.called_set.init.lookup
      have y2 := F.called_set.init.bind (.ref s.heap.objs.size)
      repeat (any_goals (first | assumption | wp_step))
      refine codeAny_mono (codeAny_call_builtin (R := wants (fun r s₂ => r = .none ∧ ∃ h' tk, s₂ = { s with heap := h', toks := tk } ∧ PW.SetHas prog w h' s.heap.objs.size (PW.onceS (fun i => xs.getD i Str.empty) items.size) ∧
          (∀ b o, b < s.heap.objs.size → s.heap.get? b = some o → h'.get? b = some o)) E) F.called_set.init.plain F.entry_set_init (check_set_init_1 hT ?_)) fun r₂ s₂ hr₂ => ?_
      · obtain ⟨ol, hol, hcl, nl, hdl⟩ := il
        obtain ⟨ocls, odict, odata, oslots⟩ := ol
        simp only at hcl hdl
        subst hcl
        subst hdl
        have hol1 : (s.heap.push { cls := .type "set", dict := none, data := .set #[] 0 (.fresh 0 0 led) }).get? l = some { cls := .type "list", dict := odict, data := .seq items nl, slots := oslots } := Heap.get?_push_of_some _ hol
        have y3 := F.sub_list_set
        have y4 := F.sub_list_frozenset
        have y5 : (Value.type "list" == Value.type "dict") = false := by decide
        have il1 : (s.heap.push { cls := .type "set", dict := none, data := .set #[] 0 (.fresh 0 0 led) }).IsList l items := ⟨_, hol1, rfl, nl, rfl⟩
        unfold Builtin.«set.__init__» noKeywords Builtin.Frozenset.updateFrom
        generalize hPI : pyIter = PI
        wp_walk
        subst hPI
        refine wpAny_pyIter_list il1 ?_
        refine wpAny_bind (wpAny_runValue ?_)
        have lS : l < s.heap.objs.size := Heap.lt_size hol
        have quiet3 : A.in1.in1.in1.handled = none := by simp [quiet]
        have nI : l ≠ (s.heap.push { cls := .type "set", dict := none, data := .set #[] 0 (.fresh 0 0 led) }).objs.size := by
          rw [Heap.size_push]
          exact Nat.ne_of_lt (Nat.lt_succ_of_lt lS)
        have outS : s.heap.objs.size ∉ [(s.heap.push { cls := .type "set", dict := none, data := .set #[] 0 (.fresh 0 0 led) }).objs.size, l] := by
          rw [Heap.size_push]
          simp only [List.mem_cons, List.not_mem_nil, or_false, not_or]
          exact ⟨Nat.ne_of_lt (Nat.lt_succ_self _), Nat.ne_of_gt lS⟩
        refine PW.set_loop_str ((Walks.list quiet3 _ l nI items).toS) s.heap.objs.size outS (fun i => xs.getD i Str.empty) isv small (items.size - 0) 0 _ (by omega) (Nat.zero_le _)
          ⟨⟨_, Heap.get?_push_size _ rfl, rfl, rfl⟩, (il1.push _)⟩ ?first ?last
        case first =>
          have gS2 : ((s.heap.push { cls := .type "set", dict := none, data := .set #[] 0 (.fresh 0 0 led) }).push { cls := .type "list_iterator", data := .fields #[.ref l, .int 0 0] }).get? s.heap.objs.size = some { cls := .type "set", dict := none, data := .set #[] 0 (.fresh 0 0 led) } := Heap.get?_push_of_some _ gS
          exact PyProof.Rows.SetOf_congr ((PyProof.Rows.setObjOf_fresh (knd := PySem.strKind prog w) led).setOf gS2 (by unfold scanBound; omega)) (fun _ => rfl) rfl
        case last =>
          intro s' mv hs'
          obtain ⟨h', g', d', tk', os'⟩ := s'
          have eg : g' = s.gens := mv.gens
          have ed : d' = s.drawn := mv.drawn
          have eo : os' = s.os := mv.os
          subst eg
          subst ed
          subst eo
          show wpAny _ _ _ _ _ _
          refine wpAny_pure ?_
          show wpAny _ _ (ret Value.none) _ _ _
          refine wpAny_pure ⟨rfl, h', tk', rfl, hs', fun b o hb e => ?_⟩
          refine mv.heap b o ?_ (Heap.get?_push_of_some _ (Heap.get?_push_of_some _ e))
          rw [Heap.size_push]
          simp only [List.mem_cons, List.not_mem_nil, or_false, not_or]
          exact ⟨Nat.ne_of_lt hb, Nat.ne_of_lt (Nat.lt_succ_of_lt hb)⟩
      · cases r₂ with
        | error e => exact hr₂
        | ok fl₂ =>
          cases fl₂ with
          | ret r =>
            obtain ⟨rfl, h', tk, rfl, hS', hk'⟩ := hr₂
            repeat (any_goals (first | assumption | wp_step))
            exact fin _ _ hS' hk'
          | _ => exact hr₂.elim
    | _ => exact hr.elim
end
end PySem
namespace PW
open PySem PySem.Spec PyProof.Rows L2
theorem strsAre_vals {xs : List Str} {us : List Value} (h : Vals (xs.map V.str) us) : strsAre us.toArray xs := fun i v e => by
  have e1 : us[i]? = some v := by simpa using e
  have hl := h.length
  rw [List.length_map] at hl
  have hi : i < xs.length := by
    have := (List.getElem?_eq_some_iff.mp e1).1
    omega
  have e2 : (xs.map V.str)[i]? = some (.str xs[i]) := by
    rw [List.getElem?_map, List.getElem?_eq_getElem hi]
    rfl
  obtain ⟨u, e3, r⟩ := h.get e2
  rw [e1] at e3
  have eu : v = u := Option.some.inj e3
  obtain ⟨t, rfl⟩ := r
  refine ⟨t, ?_⟩
  rw [eu, List.getD_eq_getElem?_getD, List.getElem?_eq_getElem hi]
  rfl
/-- how many unlike ones a list of texts has -/
def manyS (xs : List Str) : Nat := (onceS (fun i => xs.getD i Str.empty) xs.length).length
theorem manyS_nodup {xs : List Str} (h : xs.Nodup) : manyS xs = xs.length := by
  unfold manyS
  rw [onceS_nodup h xs.length (Nat.le_refl _), List.take_length]
def tLenSetS (K : PySem.W.Frag) (ta : TE) : TE := fun σ H Q => ta σ H fun x H1 => ∃ (l : Addr) (xs : List Str), x = .ref l ∧ SqL K H1 l (xs.map V.str) ∧ xs.length ≤ 1000 ∧ Q (.int (manyS xs : Nat)) H1
theorem pe_lenSetS {X : Cx} {K : PySem.W.Frag} {a : Expr} {ta : TE} {p p2 q pos : Pos} (hg : Gl X "len") (hm : X.mg "len" = none) (hg2 : Gl X "set") (hm2 : X.mg "set" = none) (ha : PE X a ta) (hc : X.calm = true := by rfl) (hK : X.K = K := by rfl)
    (na : starEach [a] X.env = (false, eval a X.env) :: starEach [] X.env := by rfl) : PE X (.Call (.Name "len" p) [.Call (.Name "set" p2) [a] [] q] [] pos) (tLenSetS K ta) := by
  subst hK
  refine ⟨fun pins s σ H Q I h => Call_ (ld_blt I hg hm boot_len ?_)⟩
  refine PyProof.Rows.callWith_builtin1 (PyProof.Rows.args_cons (Call_ (ld_blt I hg2 hm2 boot_set ?_)) rfl) rfl rfl
  refine PyProof.Rows.callWith_type1 (PyProof.Rows.args_cons (thn (ha.run pins s σ H _ I h) fun v s1 ⟨x, H1, I1, r1, q1⟩ => PyProof.Rows.args_nil ?_) na) na rfl
  obtain ⟨l, xs, rfl, sq, hl, q1⟩ := q1
  cases r1
  obtain ⟨its, r, pl, hz⟩ := I1.list sq
  have el : its.toArray.size = xs.length := by rw [List.size_toArray, ← r.length, List.length_map]
  refine pw_set_list (I1.ok.hd hc) pl.isList (strsAre_vals r) (by rw [el]; unfold scanBound; omega) fun h' tk hS hk => PyProof.Rows.args_nil ?_
  rw [el] at hS
  obtain ⟨o, es, ep, t, ho, hex, hd, _, _, _, hf, hn⟩ := hS
  have I2 : Inv X pins σ H1 { s1 with heap := h', toks := tk } := I1.kept fun b o e => hk b o (Heap.lt_size e) e
  have hml : manyS xs ≤ xs.length := onceS_len _ _
  exact call_len_set ho hex hd hf (by rw [hn]; show ((manyS xs : Nat) : Int) < 2 ^ 63; omega) ⟨.int (manyS xs : Nat), H1, I2.tok _, ⟨_, by rw [hn]; rfl⟩, q1⟩
end PW

namespace PySem
open PySem.Spec
section
variable {prog : Program} {w : World} {A : Around} {E : Value → Shared → Prop} {s : Shared}
set_option maxHeartbeats 3200000 in
theorem pw_set_tuple {l : Addr} {items : Array Value} {xs : List Str} {Q : Value → Shared → Prop} (quiet : A.handled = none) (il : s.heap.IsTuple l items) (isv : strsAre items xs) (small : items.size + 1 < scanBound)
    (fin : ∀ (h' : Heap) (tk : Nat), PW.SetHas prog w h' s.heap.objs.size (PW.onceS (fun i => xs.getD i Str.empty) items.size) → (∀ b o, b < s.heap.objs.size → s.heap.get? b = some o → h'.get? b = some o) → Q (.ref s.heap.objs.size) { s with heap := h', toks := tk }) :
    wpAny (model prog w) A (call (.type "set") [.ref l]) Q E s := by
  obtain ⟨c, tl, hmro⟩ := F.called_set.mro
  have z1 := F.called_set.made
  have z2 := F.called_set.sub
  refine wpAny_call (codeAny_of_tree ?_)
  show wpAny _ _ (callAny (.type "set") _) _ _ _
  refine wpAny_pure ⟨Code.quiet_builtin _ (by decide +kernel), codeAny_builtin F.entry_type_call ?_⟩
  rw [Around.under_plain (weight_type_call_type "set" [.ref l] []) rfl]
  have z3 := F.called_set.notType
  have z4 := F.called_set.canCreate
  have z5 := F.typeCall_set_1 (.ref l)
  repeat (any_goals (first | assumption | wp_step))
  refine codeAny_mono (code_set_new_1 (.ref l) (E := E) (Q₁ := fun obj s₁ => ∃ led : Bool, obj = .ref s.heap.objs.size ∧
    s₁ = { s with heap := s.heap.push { cls := .type "set", dict := none, data := .set #[] 0 (.fresh 0 0 led) } }) fun led => ⟨led, rfl, rfl⟩) fun r s₁ hr => ?_
  cases r with
  | error e => exact hr
  | ok fl =>
    cases fl with
    | ret obj =>
      obtain ⟨led, rfl, rfl⟩ := hr
      have gS : (s.heap.push { cls := .type "set", dict := none, data := .set #[] 0 (.fresh 0 0 led) }).get? s.heap.objs.size = some { cls := .type "set", dict := none, data := .set #[] 0 (.fresh 0 0 led) } := by
        exact Heap.get?_push_size _ rfl
      have hT : Shared.TypeIs { s with heap := s.heap.push { cls := .type "set", dict := none, data := .set #[] 0 (.fresh 0 0 led) } } (.ref s.heap.objs.size) "set" := ⟨_, gS, rfl⟩
      have y1 := F.called_set.init.lookup
      have y2 := F.called_set.init.bind (.ref s.heap.objs.size)
      repeat (any_goals (first | assumption | wp_step))
      refine codeAny_mono (codeAny_call_builtin (R := wants (fun r s₂ => r = .none ∧ ∃ h' tk, s₂ = { s with heap := h', toks := tk } ∧ PW.SetHas prog w h' s.heap.objs.size (PW.onceS (fun i => xs.getD i Str.empty) items.size) ∧
          (∀ b o, b < s.heap.objs.size → s.heap.get? b = some o → h'.get? b = some o)) E) F.called_set.init.plain F.entry_set_init (check_set_init_1 hT ?_)) fun r₂ s₂ hr₂ => ?_
      · obtain ⟨ol, hol, hcl, nl, hdl⟩ := il
        obtain ⟨ocls, odict, odata, oslots⟩ := ol
        simp only at hcl hdl
        subst hcl
        subst hdl
        have hol1 : (s.heap.push { cls := .type "set", dict := none, data := .set #[] 0 (.fresh 0 0 led) }).get? l = some { cls := .type "tuple", dict := odict, data := .seq items nl, slots := oslots } := Heap.get?_push_of_some _ hol
        have y3 := F.sub_tuple_set
        have y4 := F.sub_tuple_frozenset
        have y5 : (Value.type "tuple" == Value.type "dict") = false := by decide
        have il1 : (s.heap.push { cls := .type "set", dict := none, data := .set #[] 0 (.fresh 0 0 led) }).IsTuple l items := ⟨_, hol1, rfl, nl, rfl⟩
        unfold Builtin.«set.__init__» noKeywords Builtin.Frozenset.updateFrom
        generalize hPI : pyIter = PI
        wp_walk
        subst hPI
        refine wpAny_pyIter_tuple il1 ?_
        refine wpAny_bind (wpAny_runValue ?_)
        have lS : l < s.heap.objs.size := Heap.lt_size hol
        have quiet3 : A.in1.in1.in1.handled = none := by simp [quiet]
        have nI : l ≠ (s.heap.push { cls := .type "set", dict := none, data := .set #[] 0 (.fresh 0 0 led) }).objs.size := by
          rw [Heap.size_push]
          exact Nat.ne_of_lt (Nat.lt_succ_of_lt lS)
        have outS : s.heap.objs.size ∉ [(s.heap.push { cls := .type "set", dict := none, data := .set #[] 0 (.fresh 0 0 led) }).objs.size, l] := by
          rw [Heap.size_push]
          simp only [List.mem_cons, List.not_mem_nil, or_false, not_or]
          exact ⟨Nat.ne_of_lt (Nat.lt_succ_self _), Nat.ne_of_gt lS⟩
        refine PW.set_loop_str ((Walks.tuple quiet3 _ l nI items).toS) s.heap.objs.size outS (fun i => xs.getD i Str.empty) isv small (items.size - 0) 0 _ (by omega) (Nat.zero_le _)
          ⟨⟨_, Heap.get?_push_size _ rfl, rfl, rfl⟩, (il1.push _)⟩ ?first ?last
        case first =>
          have gS2 : ((s.heap.push { cls := .type "set", dict := none, data := .set #[] 0 (.fresh 0 0 led) }).push { cls := .type "tuple_iterator", data := .fields #[.ref l, .int 0 0] }).get? s.heap.objs.size = some { cls := .type "set", dict := none, data := .set #[] 0 (.fresh 0 0 led) } := Heap.get?_push_of_some _ gS
          exact PyProof.Rows.SetOf_congr ((PyProof.Rows.setObjOf_fresh (knd := PySem.strKind prog w) led).setOf gS2 (by unfold scanBound; omega)) (fun _ => rfl) rfl
        case last =>
          intro s' mv hs'
          obtain ⟨h', g', d', tk', os'⟩ := s'
          have eg : g' = s.gens := mv.gens
          have ed : d' = s.drawn := mv.drawn
          have eo : os' = s.os := mv.os
          subst eg
          subst ed
          subst eo
          show wpAny _ _ _ _ _ _
          refine wpAny_pure ?_
          show wpAny _ _ (ret Value.none) _ _ _
          refine wpAny_pure ⟨rfl, h', tk', rfl, hs', fun b o hb e => ?_⟩
          refine mv.heap b o ?_ (Heap.get?_push_of_some _ (Heap.get?_push_of_some _ e))
          rw [Heap.size_push]
          simp only [List.mem_cons, List.not_mem_nil, or_false, not_or]
          exact ⟨Nat.ne_of_lt hb, Nat.ne_of_lt (Nat.lt_succ_of_lt hb)⟩
      · cases r₂ with
        | error e => exact hr₂
        | ok fl₂ =>
          cases fl₂ with
          | ret r =>
            obtain ⟨rfl, h', tk, rfl, hS', hk'⟩ := hr₂
            repeat (any_goals (first | assumption | wp_step))
            exact fin _ _ hS' hk'
          | _ => exact hr₂.elim
    | _ => exact hr.elim
end
end PySem
namespace PW
open PySem PySem.Spec PyProof.Rows L2
def tLenSetT (K : PySem.W.Frag) (ta : TE) : TE := fun σ H Q => ta σ H fun x H1 => ∃ (l : Addr) (xs : List Str), x = .ref l ∧ SqT K H1 l (xs.map V.str) ∧ xs.length ≤ 1000 ∧ Q (.int (manyS xs : Nat)) H1
theorem pe_lenSetT {X : Cx} {K : PySem.W.Frag} {a : Expr} {ta : TE} {p p2 q pos : Pos} (hg : Gl X "len") (hm : X.mg "len" = none) (hg2 : Gl X "set") (hm2 : X.mg "set" = none) (ha : PE X a ta) (hc : X.calm = true := by rfl) (hK : X.K = K := by rfl)
    (na : starEach [a] X.env = (false, eval a X.env) :: starEach [] X.env := by rfl) : PE X (.Call (.Name "len" p) [.Call (.Name "set" p2) [a] [] q] [] pos) (tLenSetT K ta) := by
  subst hK
  refine ⟨fun pins s σ H Q I h => Call_ (ld_blt I hg hm boot_len ?_)⟩
  refine PyProof.Rows.callWith_builtin1 (PyProof.Rows.args_cons (Call_ (ld_blt I hg2 hm2 boot_set ?_)) rfl) rfl rfl
  refine PyProof.Rows.callWith_type1 (PyProof.Rows.args_cons (thn (ha.run pins s σ H _ I h) fun v s1 ⟨x, H1, I1, r1, q1⟩ => PyProof.Rows.args_nil ?_) na) na rfl
  obtain ⟨l, xs, rfl, sq, hl, q1⟩ := q1
  cases r1
  obtain ⟨its, r, pl, hz⟩ := I1.tuple sq
  have el : its.toArray.size = xs.length := by rw [List.size_toArray, ← r.length, List.length_map]
  refine pw_set_tuple (I1.ok.hd hc) pl (strsAre_vals r) (by rw [el]; unfold scanBound; omega) fun h' tk hS hk => PyProof.Rows.args_nil ?_
  rw [el] at hS
  obtain ⟨o, es, ep, t, ho, hex, hd, _, _, _, hf, hn⟩ := hS
  have I2 : Inv X pins σ H1 { s1 with heap := h', toks := tk } := I1.kept fun b o e => hk b o (Heap.lt_size e) e
  have hml : manyS xs ≤ xs.length := onceS_len _ _
  exact call_len_set ho hex hd hf (by rw [hn]; show ((manyS xs : Nat) : Int) < 2 ^ 63; omega) ⟨.int (manyS xs : Nat), H1, I2.tok _, ⟨_, by rw [hn]; rfl⟩, q1⟩
/-- of a list or a tuple -/
theorem pe_lenSetR {X : Cx} {K : PySem.W.Frag} {a : Expr} {ta : TE} {p p2 q pos : Pos} (hg : Gl X "len") (hm : X.mg "len" = none) (hg2 : Gl X "set") (hm2 : X.mg "set" = none) (ha : PE X a ta) (hc : X.calm = true := by rfl) (hK : X.K = K := by rfl)
    (na : starEach [a] X.env = (false, eval a X.env) :: starEach [] X.env := by rfl) : PE X (.Call (.Name "len" p) [.Call (.Name "set" p2) [a] [] q] [] pos) (tOrE (tLenSetS K ta) (tLenSetT K ta)) :=
  pe_orE (pe_lenSetS hg hm hg2 hm2 ha hc hK na) (pe_lenSetT hg hm hg2 hm2 ha hc hK na)
end PW

namespace PW
open PySem PySem.Spec PyProof.Rows L2
/-! ### small facts -/
theorem _root_.L2.TyX.same {K : PySem.W.Frag} {H H' : Hp} {v : V} {t : Value} (h : TyX K H v t) (e : Same H H') : TyX K H' v t := by
  cases h with
  | base b =>
    cases b with
    | non => exact .base .non
    | bl x => exact .base (.bl x)
    | int x => exact .base (.int x)
    | str x => exact .base (.str x)
    | flt x => exact .base (.flt x)
    | lst z => exact .base (.lst (e _ _ z))
    | frz z => exact .base (.frz (e _ _ z))
    | tup z => exact .base (.tup (e _ _ z))
    | dK z => exact .base (.dK (e _ _ z))
    | dT z => exact .base (.dT (e _ _ z))
    | ins z a b c d f => exact .base (.ins (e _ _ z) a b c d f)
  | byt b => exact .byt b
  | set z => exact .set (e _ _ z)
  | kList a b => exact .kList a b
  | kTuple a b => exact .kTuple a b
  | kDict a b => exact .kDict a b
  | fTuple z => exact .fTuple (e _ _ z)
  | fDict z => exact .fDict (e _ _ z)
theorem _root_.L2.Same.seqT {K : PySem.W.Frag} {H H' : Hp} {a : Addr} {xs : List V} (e : Same H H') (h : SqT K H a xs) : SqT K H' a xs := by
  rcases h with (h | ⟨o, h⟩) | h
  · exact .inl (.inl (e _ _ h))
  · exact .inl (.inr ⟨o, e _ _ h⟩)
  · exact .inr h
theorem flat_strs (xs : List Str) : (xs.map V.str).all flatV = true := by
  rw [List.all_eq_true]
  intro v hv
  obtain ⟨x, _, rfl⟩ := List.mem_map.mp hv
  rfl
theorem inV_strs (x : Str) (xs : List Str) : inV (.str x) (xs.map V.str) = decide (x ∈ xs) := by
  unfold inV
  rw [List.any_map]
  induction xs with
  | nil => rfl
  | cons y r ih =>
    rw [List.any_cons, ih]
    show ((y == x) || decide (x ∈ r)) = decide (x ∈ y :: r)
    by_cases h : y = x
    · subst h
      simp
    · have h2 : (y == x) = false := beq_eq_false_iff_ne.mpr h
      rw [h2, Bool.false_or]
      have : (x ∈ y :: r) ↔ x ∈ r := by
        rw [List.mem_cons]
        exact ⟨fun z => z.resolve_left fun q => h q.symm, Or.inr⟩
      exact decide_eq_decide.mpr this.symm
theorem bT {p : Prop} [Decidable p] (h : p) : V.bl (decide p) = .bl true := by rw [decide_eq_true h]
theorem bF {p : Prop} [Decidable p] (h : ¬ p) : V.bl (decide p) = .bl false := by rw [decide_eq_false h]
/-! ### the web's object -/
def wf (a b : Addr) : List (Str × V) := putF "own_ties" (.ref b) (putF "own_points" (.ref a) [])
theorem wf_ne : ¬ (("own_points" : Str) = "own_ties") := by decide +kernel
theorem wf_points (a b : Addr) : (wf a b).lookup ("own_points" : Str) = some (.ref a) := by
  unfold wf
  rw [lookup_putF, if_neg wf_ne, lookup_putF, if_pos rfl]
theorem wf_ties (a b : Addr) : (wf a b).lookup ("own_ties" : Str) = some (.ref b) := by
  unfold wf
  rw [lookup_putF, if_pos rfl]
theorem wf_no (a b : Addr) {m : Str} (h1 : ¬ m = "own_ties") (h2 : ¬ m = "own_points") : (wf a b).lookup m = none := by
  unfold wf
  rw [lookup_putF, if_neg h1, lookup_putF, if_neg h2]
  rfl
theorem wf_mp (a b : Addr) : (wf a b).lookup ("points" : Str) = none := wf_no a b (by decide +kernel) (by decide +kernel)
theorem wf_mt (a b : Addr) : (wf a b).lookup ("ties" : Str) = none := wf_no a b (by decide +kernel) (by decide +kernel)
theorem wf_mm (a b : Addr) : (wf a b).lookup ("many" : Str) = none := wf_no a b (by decide +kernel) (by decide +kernel)
def WebAt (K : PySem.W.Frag) (H : Hp) (x : Addr) (ns : List Str) (ats : Ats) : Prop :=
  ∃ dx a b, H x = some (.ins (He.ga K "Web") dx (wf a b)) ∧ H a = some (.lst (ns.map V.str)) ∧ H b = some (.lst ats.vals) ∧ TupsAt H ats
theorem WebAt.same {K : PySem.W.Frag} {H H' : Hp} {x : Addr} {ns : List Str} {ats : Ats} (h : WebAt K H x ns ats) (e : Same H H') : WebAt K H' x ns ats := by
  obtain ⟨dx, a, b, h1, h2, h3, h4⟩ := h
  exact ⟨dx, a, b, e _ _ h1, e _ _ h2, e _ _ h3, h4.same e⟩
theorem WebAt.kp {K : PySem.W.Frag} {H H' : Hp} {x p : Addr} {ns : List Str} {ats : Ats} (h : WebAt K H x ns ats) (hp : Pot H p) (n1 : 1 ≤ ns.length) (e : Kp p H H') : WebAt K H' x ns ats := by
  obtain ⟨dx, a, b, g1, g2, g3, g4⟩ := h
  obtain ⟨u1, u2, h1, h2, u3⟩ := id hp
  refine ⟨dx, a, b, e _ _ (ne_of g1 u3 (by intro z; cases z)) g1, e _ _ ?_ g2, e _ _ ?_ g3, g4.kp hp e⟩
  · intro z
    rw [z, u3] at g2
    have := HO.lst.inj (Option.some.inj g2)
    cases ns with
    | nil => simp at n1
    | cons y r => cases this
  · intro z
    rw [z, u3] at g3
    have := HO.lst.inj (Option.some.inj g3)
    unfold Ats.vals at this
    cases ats with
    | nil => cases this
    | cons y r => cases this
structure WebOk (ns : List Str) (ats : Ats) : Prop where
  names : NamesOk ns
  n1 : 1 ≤ ns.length
  n9 : ns.length ≤ 9
  t20 : ats.length ≤ 20
  ties : ∀ x ∈ ats, TieOk ns x.2
/-! ### promises -/
def spIsRow (K : PySem.W.Frag) : Sp := fun vs H Q _ => ∃ (v : V) (t : Value) (b : Bool), vs = [v] ∧ TyX K H v t ∧ PySem.W.kitAny K t [.type "list", .type "tuple"] = some b ∧ ∀ H', Same H H' → Q (.bl b) H'
def spIsName : Sp := fun vs H Q _ => ∃ x : Str, vs = [.str x] ∧ IsName x ∧ ∀ H', Same H H' → Q (.bl true) H'
def spAreNames (K : PySem.W.Frag) : Sp := fun vs H Q _ => ∃ (a : Addr) (ns : List Str), vs = [.ref a] ∧ H a = some (.lst (ns.map V.str)) ∧ NamesOk ns ∧ 1 ≤ ns.length ∧ ns.length ≤ 9 ∧ ∀ H', Same H H' → Q (.bl true) H'
def spIsPair (K : PySem.W.Frag) : Sp := fun vs H Q _ => ∃ (a t : Addr) (ns : List Str) (x y : Str), vs = [.ref a, .ref t] ∧ H a = some (.lst (ns.map V.str)) ∧ H t = some (.tup [.str x, .str y]) ∧ (∀ z ∈ ns, IsName z) ∧ TieOk ns (x, y) ∧ ∀ H', Same H H' → Q (.bl true) H'
def spWebInit (K : PySem.W.Frag) : Sp := fun vs H Q _ => ∃ (x dx a b : Addr) (ns : List Str) (ats : Ats), vs = [.ref x, .ref a, .ref b] ∧ H x = some (.ins (He.ga K "Web") dx []) ∧ H a = some (.lst (ns.map V.str)) ∧ H b = some (.lst ats.vals) ∧ TupsAt H ats ∧ WebOk ns ats ∧
  ∀ H', (∀ c o, H c = some o → c ≠ x → H' c = some o) → WebAt K H' x ns ats → Q .non H'
def spPoints (K : PySem.W.Frag) : Sp := fun vs H Q _ => ∃ (x : Addr) (ns : List Str) (ats : Ats), vs = [.ref x] ∧ WebAt K H x ns ats ∧ ∀ l, H l = none → Q (.ref l) (upd H l (.lst (ns.map V.str)))
def spTies (K : PySem.W.Frag) : Sp := fun vs H Q _ => ∃ (x : Addr) (ns : List Str) (ats : Ats), vs = [.ref x] ∧ WebAt K H x ns ats ∧ ∀ l, H l = none → Q (.ref l) (upd H l (.lst ats.vals))
def spMany (K : PySem.W.Frag) : Sp := fun vs H Q _ => ∃ (x : Addr) (ns : List Str) (ats : Ats), vs = [.ref x] ∧ WebAt K H x ns ats ∧ Q (.int (ats.length : Nat)) H
theorem small_eq : ("abcdefghijklmnopqrstuvwxyz" : Str).cps.toList = List.range' 97 26 := letters_eq
theorem code_in {c : Nat} (h : Code c) : decide (c ∈ ("abcdefghijklmnopqrstuvwxyz" : Str).cps.toList) = true := by
  rw [letters_eq]
  refine decide_eq_true (List.mem_range'.mpr ⟨c - 97, ?_, ?_⟩)
  · have := h.2
    have := h.1
    omega
  · have := h.1
    omega
/-- making a web -/
theorem make_web {K : PySem.W.Frag} {H : Hp} {a b : Addr} {ns : List Str} {ats : Ats} {Q : Addr → Hp → Prop} {E : XK} (ea : H a = some (.lst (ns.map V.str))) (eb : H b = some (.lst ats.vals)) (hT : TupsAt H ats) (ok : WebOk ns ats)
    (k : ∀ x H', H x = none → Same H H' → WebAt K H' x ns ats → Q x H') :
    ∀ x dx, H x = none → H dx = none → dx ≠ x → spWebInit K [.ref x, .ref a, .ref b] (upd (upd H dx (.own x)) x (.ins (He.ga K "Web") dx [])) (fun v H2 => v = .non ∧ Q x H2) E := fun x dx nx ndx ne => by
  have sM : Same H (upd (upd H dx (.own x)) x (.ins (He.ga K "Web") dx [])) := fun z o h => by
    rw [upd_ne (ne_of_none h nx), upd_ne (ne_of_none h ndx)]
    exact h
  exact ⟨x, dx, a, b, ns, ats, rfl, upd_same, sM _ _ ea, sM _ _ eb, hT.same sM, ok, fun H' k' hW => ⟨rfl, k x H' nx (Same.made nx ndx k') hW⟩⟩
theorem name_of {x : Str} (l : List Nat) (e : x = SX.S l) (h1 : 1 ≤ l.length) (h4 : l.length ≤ 4) (h : l.all (fun c => decide (97 ≤ c ∧ c ≤ 122)) = true) : IsName x :=
  ⟨l, e, h1, h4, fun c hc => (of_decide_eq_true (List.all_eq_true.mp h c hc) : 97 ≤ c ∧ c ≤ 122)⟩
theorem names_lit {ns : List Str} (h : ∀ x ∈ ns, IsName x) (nd : ns.Nodup) : NamesOk ns := ⟨nd, h⟩
end PW

namespace PW
open PySem PySem.Spec PyProof.Rows L2
/-! ### plain data: texts, ints, None, lists and tuples of such -/
inductive Plain : Nat → PyData → Prop
  | str {n : Nat} {x : Str} : PyData.strOk x = true → Plain n (.str x)
  | int {n : Nat} (i : Int) : Plain n (.int i)
  | non {n : Nat} : Plain n .none
  | list {n : Nat} {ds : List PyData} : (∀ d, d ∈ ds → Plain n d) → Plain (n + 1) (.list ds)
  | tuple {n : Nat} {ds : List PyData} : (∀ d, d ∈ ds → Plain n d) → Plain (n + 1) (.tuple ds)
theorem lay_all {ds : List PyData} (h : ∀ d, d ∈ ds → d.canLay0 = true) : PyData.canLayAll0 ds = true := by
  induction ds with
  | nil => rfl
  | cons x r ih =>
    show (x.canLay0 && PyData.canLayAll0 r) = true
    rw [h x List.mem_cons_self, ih fun d hd => h d (List.mem_cons_of_mem _ hd)]
    rfl
theorem depth_all {n : Nat} {ds : List PyData} (h : ∀ d, d ∈ ds → d.depth ≤ n) : PyData.depthAll ds ≤ n := by
  induction ds with
  | nil => exact Nat.zero_le _
  | cons x r ih =>
    show max x.depth (PyData.depthAll r) ≤ n
    exact Nat.max_le.mpr ⟨h x List.mem_cons_self, ih fun d hd => h d (List.mem_cons_of_mem _ hd)⟩
theorem Plain.lay {n : Nat} {d : PyData} (h : Plain n d) : d.canLay0 = true := by
  induction h with
  | str e => exact e
  | int i => rfl
  | non => rfl
  | list _ ih => exact lay_all ih
  | tuple _ ih => exact lay_all ih
theorem Plain.depth_le {n : Nat} {d : PyData} (h : Plain n d) : d.depth ≤ n := by
  induction h with
  | str e => exact Nat.zero_le _
  | int i => exact Nat.zero_le _
  | non => exact Nat.zero_le _
  | list _ ih => exact Nat.succ_le_succ (depth_all ih)
  | tuple _ ih => exact Nat.succ_le_succ (depth_all ih)
theorem Plain.shaped {n : Nat} {d : PyData} (h : Plain n d) (hn : n ≤ 64 := by decide) : SeqAt.shaped d = true := by
  unfold SeqAt.shaped
  rw [h.lay, decide_eq_true (Nat.le_trans h.depth_le hn)]
  rfl
theorem eqvAll_iff {ds es : List PyData} (h : ∀ d, d ∈ ds → ∀ e, e ∈ es → (PyData.eqv d e = true ↔ d = e)) : PyData.eqvAll ds es = true ↔ ds = es := by
  induction ds generalizing es with
  | nil =>
    cases es with
    | nil => exact ⟨fun _ => rfl, fun _ => rfl⟩
    | cons y r => exact ⟨fun z => by simp [PyData.eqvAll] at z, fun z => by cases z⟩
  | cons x r ih =>
    cases es with
    | nil => exact ⟨fun z => by simp [PyData.eqvAll] at z, fun z => by cases z⟩
    | cons y q =>
      rw [PyData.eqvAll, Bool.and_eq_true, h x List.mem_cons_self y List.mem_cons_self, ih fun d hd e he => h d (List.mem_cons_of_mem _ hd) e (List.mem_cons_of_mem _ he)]
      exact ⟨fun ⟨a, b⟩ => by rw [a, b], fun z => ⟨(List.cons.inj z).1, (List.cons.inj z).2⟩⟩
theorem Plain.eqv_iff {n : Nat} {d : PyData} (h : Plain n d) : ∀ {m : Nat} {e : PyData}, Plain m e → (PyData.eqv d e = true ↔ d = e) := by
  induction h with
  | @str n x hx =>
    intro m e g
    cases g with
    | @str _ y _ =>
      rw [PyData.eqv, beq_iff_eq]
      exact ⟨fun z => by rw [z], fun z => PyData.str.inj z⟩
    | int i => exact ⟨fun z => by simp [PyData.eqv] at z, fun z => by cases z⟩
    | non => exact ⟨fun z => by simp [PyData.eqv] at z, fun z => by cases z⟩
    | list _ => exact ⟨fun z => by simp [PyData.eqv] at z, fun z => by cases z⟩
    | tuple _ => exact ⟨fun z => by simp [PyData.eqv] at z, fun z => by cases z⟩
  | @int n i =>
    intro m e g
    cases g with
    | str _ => exact ⟨fun z => by simp [PyData.eqv] at z, fun z => by cases z⟩
    | int j =>
      rw [PyData.eqv, beq_iff_eq]
      exact ⟨fun z => by rw [z], fun z => PyData.int.inj z⟩
    | non => exact ⟨fun z => by simp [PyData.eqv] at z, fun z => by cases z⟩
    | list _ => exact ⟨fun z => by simp [PyData.eqv] at z, fun z => by cases z⟩
    | tuple _ => exact ⟨fun z => by simp [PyData.eqv] at z, fun z => by cases z⟩
  | non =>
    intro m e g
    cases g with
    | str _ => exact ⟨fun z => by simp [PyData.eqv] at z, fun z => by cases z⟩
    | int j => exact ⟨fun z => by simp [PyData.eqv] at z, fun z => by cases z⟩
    | non => exact ⟨fun _ => rfl, fun _ => rfl⟩
    | list _ => exact ⟨fun z => by simp [PyData.eqv] at z, fun z => by cases z⟩
    | tuple _ => exact ⟨fun z => by simp [PyData.eqv] at z, fun z => by cases z⟩
  | @list n ds hd ih =>
    intro m e g
    cases g with
    | str _ => exact ⟨fun z => by simp [PyData.eqv] at z, fun z => by cases z⟩
    | int j => exact ⟨fun z => by simp [PyData.eqv] at z, fun z => by cases z⟩
    | non => exact ⟨fun z => by simp [PyData.eqv] at z, fun z => by cases z⟩
    | @list m es he =>
      rw [PyData.eqv, eqvAll_iff fun d hd e he' => ih d hd (he e he')]
      exact ⟨fun z => by rw [z], fun z => PyData.list.inj z⟩
    | tuple _ => exact ⟨fun z => by simp [PyData.eqv] at z, fun z => by cases z⟩
  | @tuple n ds hd ih =>
    intro m e g
    cases g with
    | str _ => exact ⟨fun z => by simp [PyData.eqv] at z, fun z => by cases z⟩
    | int j => exact ⟨fun z => by simp [PyData.eqv] at z, fun z => by cases z⟩
    | non => exact ⟨fun z => by simp [PyData.eqv] at z, fun z => by cases z⟩
    | list _ => exact ⟨fun z => by simp [PyData.eqv] at z, fun z => by cases z⟩
    | @tuple m es he =>
      rw [PyData.eqv, eqvAll_iff fun d hd e he' => ih d hd (he e he')]
      exact ⟨fun z => by rw [z], fun z => PyData.tuple.inj z⟩
theorem Plain.eqv_self {n : Nat} {d : PyData} (h : Plain n d) : PyData.eqv d d = true := (h.eqv_iff h).mpr rfl
theorem Plain.eqv_ne {n m : Nat} {d e : PyData} (h : Plain n d) (g : Plain m e) (ne : d ≠ e) : PyData.eqv d e = false := by
  cases z : PyData.eqv d e with
  | false => rfl
  | true => exact absurd ((h.eqv_iff g).mp z) ne
/-! ### what stands in the heap, as data -/
theorem dp_map {α : Type} {K : PySem.W.Frag} {H : Hp} {f : α → V} {g : α → PyData} : ∀ {xs : List α}, (∀ x, x ∈ xs → Dp K H (f x) (g x)) → DpAll K H (xs.map f) (xs.map g)
  | [], _ => .nil
  | x :: r, h => .cons (h x List.mem_cons_self) (dp_map fun y hy => h y (List.mem_cons_of_mem _ hy))
def dS (xs : List Str) : PyData := .list (xs.map PyData.str)
def dSS (xs : List (List Str)) : PyData := .list (xs.map dS)
theorem dp_strs {K : PySem.W.Frag} {H : Hp} {a : Addr} {xs : List Str} (h : SqL K H a (xs.map V.str)) : Dp K H (.ref a) (dS xs) := .lst h (dp_map fun x _ => .str x)
theorem strOk_name {x : Str} (h : IsName x) : PyData.strOk x = true := by
  obtain ⟨l, rfl, _, _, hc⟩ := h
  unfold PyData.strOk
  have : (SX.S l).cps = l.toArray := rfl
  simp only [this]
  rw [Array.all_eq_true_iff_forall_mem]
  intro c hcm
  have := hc c (by simpa using hcm)
  unfold Code at this
  simp
  omega
theorem plain_dS {xs : List Str} (h : ∀ x ∈ xs, IsName x) : Plain 1 (dS xs) := .list fun d hd => by
  obtain ⟨x, hx, rfl⟩ := List.mem_map.mp hd
  exact .str (strOk_name (h x hx))
theorem plain_dSS {xs : List (List Str)} (h : ∀ l ∈ xs, ∀ x ∈ l, IsName x) : Plain 2 (dSS xs) := .list fun d hd => by
  obtain ⟨x, hx, rfl⟩ := List.mem_map.mp hd
  exact plain_dS (h x hx)
theorem map_inj {α β : Type} {f : α → β} (hf : ∀ a b, f a = f b → a = b) : ∀ {xs ys : List α}, xs.map f = ys.map f → xs = ys
  | [], [], _ => rfl
  | [], _ :: _, h => by cases h
  | _ :: _, [], h => by cases h
  | x :: xs, y :: ys, h => by
    rw [List.map_cons, List.map_cons] at h
    obtain ⟨h1, h2⟩ := List.cons.inj h
    rw [hf _ _ h1, map_inj hf h2]
theorem dS_inj {xs ys : List Str} (h : dS xs = dS ys) : xs = ys := map_inj (fun _ _ z => PyData.str.inj z) (PyData.list.inj h)
theorem dSS_inj {xs ys : List (List Str)} (h : dSS xs = dSS ys) : xs = ys := map_inj (fun _ _ z => dS_inj z) (PyData.list.inj h)
/-- lists of texts at addresses -/
abbrev Als := List (Addr × List Str)
def Als.vals (l : Als) : List V := l.map fun c => V.ref c.1
def Als.lists (l : Als) : List (List Str) := l.map fun c => c.2
def LstsAt (H : Hp) (l : Als) : Prop := ∀ c ∈ l, H c.1 = some (.lst (c.2.map V.str))
theorem LstsAt.same {H H' : Hp} {l : Als} (h : LstsAt H l) (e : Same H H') : LstsAt H' l := fun c hc => e _ _ (h c hc)
theorem dp_als {K : PySem.W.Frag} {H : Hp} {a : Addr} {l : Als} (h : SqL K H a l.vals) (g : LstsAt H l) : Dp K H (.ref a) (dSS l.lists) := by
  unfold dSS Als.lists
  rw [List.map_map]
  exact .lst h (dp_map fun c hc => dp_strs (SqL.of (g c hc)))
theorem Als.vals_len (l : Als) : l.vals.length = l.length := by
  unfold Als.vals
  rw [List.length_map]
theorem Als.vals_snoc (l : Als) (x : Addr × List Str) : Als.vals (l ++ [x]) = l.vals ++ [V.ref x.1] := by
  unfold Als.vals
  rw [List.map_append]
  rfl
theorem Als.lists_snoc (l : Als) (x : Addr × List Str) : Als.lists (l ++ [x]) = l.lists ++ [x.2] := by
  unfold Als.lists
  rw [List.map_append]
  rfl
theorem Als.vals_at {l : Als} {i : Nat} {v : V} (h : l.vals[i]? = some v) : ∃ x, l[i]? = some x ∧ v = V.ref x.1 := by
  unfold Als.vals at h
  rw [List.getElem?_map] at h
  cases e : l[i]? with
  | none =>
    rw [e] at h
    cases h
  | some x =>
    rw [e] at h
    exact ⟨x, rfl, (Option.some.inj h).symm⟩
def dI (xs : List Int) : PyData := .list (xs.map PyData.int)
theorem dp_ints {K : PySem.W.Frag} {H : Hp} {a : Addr} {xs : List Int} (h : SqL K H a (xs.map V.int)) : Dp K H (.ref a) (dI xs) := .lst h (dp_map fun x _ => .int x)
theorem plain_dI (xs : List Int) : Plain 1 (dI xs) := .list fun d hd => by
  obtain ⟨x, _, rfl⟩ := List.mem_map.mp hd
  exact .int x
theorem dI_inj {xs ys : List Int} (h : dI xs = dI ys) : xs = ys := map_inj (fun _ _ z => PyData.int.inj z) (PyData.list.inj h)
def dBar (p : Nat × List Str) : PyData := .tuple [.int (p.1 : Nat), dS p.2]
def dBars (l : List (Nat × List Str)) : PyData := .list (l.map dBar)
theorem plain_dBar {p : Nat × List Str} (h : ∀ x ∈ p.2, IsName x) : Plain 2 (dBar p) := .tuple fun d hd => by
  rcases List.mem_cons.mp hd with rfl | hd
  · exact .int _
  · rw [List.mem_singleton.mp hd]
    exact plain_dS h
theorem plain_dBars {l : List (Nat × List Str)} (h : ∀ p ∈ l, ∀ x ∈ p.2, IsName x) : Plain 3 (dBars l) := .list fun d hd => by
  obtain ⟨p, hp, rfl⟩ := List.mem_map.mp hd
  exact plain_dBar (h p hp)
end PW

namespace PW
open PySem PySem.Spec PyProof.Rows L2
/-! ### loops by what holds at each turn -/
theorem loop_inv {α : Type} {g : DGW} {tb : DSW} {X : XC} {E : DEnds} (f : α → Bool × D) (xs : List α) (Pv : Nat → DEnv → Prop) {ρ : DEnv} (h0 : Pv 0 ρ)
    (hs : ∀ (i : Nat) (x : α) (ρ : DEnv) (k : DEnv → Prop), xs[i]? = some x → Pv i ρ → (∀ ρ', Pv (i + 1) ρ' → k ρ') → g (f x) ρ fun ρ1 => tb X { E with nx := k, ct := k, bk := E.nx } ρ1)
    (hd : ∀ ρ, Pv xs.length ρ → E.nx ρ) : loopC g tb X E (xs.map f) ρ := by
  rw [loopC_eq]
  have key : ∀ (n i : Nat) (ρ : DEnv), xs.length - i = n → i ≤ xs.length → Pv i ρ → dLoop g tb X E ((xs.drop i).map f) ρ := by
    intro n
    induction n with
    | zero =>
      intro i ρ e hi h
      have : i = xs.length := by omega
      subst this
      rw [List.drop_length]
      exact hd ρ h
    | succ n ih =>
      intro i ρ e hi h
      have hlt : i < xs.length := by omega
      rw [List.drop_eq_getElem_cons hlt, List.map_cons]
      exact hs i xs[i] ρ _ (List.getElem?_eq_getElem hlt) h fun ρ' h' => ih (i + 1) ρ' (by omega) hlt h'
  exact key _ 0 ρ rfl (Nat.zero_le _) h0
/-- .. over numbers -/
theorem range_inv {g : DGW} {tb : DSW} {X : XC} {E : DEnds} (lo : Int) (n : Nat) (Pv : Nat → DEnv → Prop) {ρ : DEnv} (h0 : Pv 0 ρ)
    (hs : ∀ (i : Nat) (ρ : DEnv) (k : DEnv → Prop), i < n → Pv i ρ → (∀ ρ', Pv (i + 1) ρ' → k ρ') → g (true, .int (lo + (i : Nat))) ρ fun ρ1 => tb X { E with nx := k, ct := k, bk := E.nx } ρ1)
    (hd : ∀ ρ, Pv n ρ → E.nx ρ) : loopC g tb X E (rangeD lo n) ρ := by
  unfold rangeD
  refine loop_inv (fun i : Nat => (true, D.int (lo + (i : Nat)))) (List.range n) Pv h0 (fun i x ρ k hx h hk => ?_) fun ρ h => hd ρ (by rw [List.length_range] at h; exact h)
  obtain ⟨hl, e⟩ := List.getElem?_eq_some_iff.mp hx
  rw [List.getElem_range] at e
  subst e
  exact hs i ρ k (by rw [List.length_range] at hl; exact hl) h hk
/-! ### comprehensions -/
/-- one turn -/
def lcTurn (g : DGW) (tt : DTW) (te : DW) (vs : List Nat) (p : Bool × D) (ρ : DEnv) (k1 : Bool → D → DEnv → Prop) (k2 : DEnv → Prop) : Prop :=
  g p ρ fun ρ2 => tt noX ρ2 fun b ρ3 => ifC b (te noX ρ3 fun y ρ4 => match st ρ4 y.tmp with
      | some (r, d, ρ5) => noPots ρ5 vs = true ∧ k1 r d (wipeD ρ5 vs)
      | none => False)
    (noPots ρ3 vs = true ∧ k2 (wipeD ρ3 vs))
/-- by what holds of the list made so far -/
theorem lc_inv {α : Type} {g : DGW} {tt : DTW} {te : DW} {vs : List Nat} {kk : Bool → List D → DEnv → Prop} (f : α → Bool × D) (xs : List α) (Pv : Nat → Bool → List D → DEnv → Prop) {ra : Bool} {acc : List D} {ρ : DEnv} (h0 : Pv 0 ra acc ρ)
    (hs : ∀ (i : Nat) (x : α) (ra : Bool) (acc : List D) (ρ : DEnv) (k1 : Bool → D → DEnv → Prop) (k2 : DEnv → Prop), xs[i]? = some x → Pv i ra acc ρ → (∀ r d ρ', Pv (i + 1) (ra && r) (acc ++ [d]) ρ' → k1 r d ρ') → (∀ ρ', Pv (i + 1) ra acc ρ' → k2 ρ') → lcTurn g tt te vs (f x) ρ k1 k2)
    (hd : ∀ ra acc ρ, Pv xs.length ra acc ρ → kk ra acc ρ) : dLcL g tt te vs kk (xs.map f) ra acc ρ := by
  have key : ∀ (n i : Nat) (ra : Bool) (acc : List D) (ρ : DEnv), xs.length - i = n → i ≤ xs.length → Pv i ra acc ρ → dLcL g tt te vs kk ((xs.drop i).map f) ra acc ρ := by
    intro n
    induction n with
    | zero =>
      intro i ra acc ρ e hi h
      have : i = xs.length := by omega
      subst this
      rw [List.drop_length]
      exact hd ra acc ρ h
    | succ n ih =>
      intro i ra acc ρ e hi h
      have hlt : i < xs.length := by omega
      rw [List.drop_eq_getElem_cons hlt, List.map_cons]
      exact hs i xs[i] ra acc ρ (fun r d ρ' => dLcL g tt te vs kk ((xs.drop (i + 1)).map f) (ra && r) (acc ++ [d]) ρ') (fun ρ' => dLcL g tt te vs kk ((xs.drop (i + 1)).map f) ra acc ρ') (List.getElem?_eq_getElem hlt) h
        (fun r d ρ' h' => ih (i + 1) _ _ ρ' (by omega) hlt h') fun ρ' h' => ih (i + 1) _ _ ρ' (by omega) hlt h'
  exact key _ 0 ra acc ρ rfl (Nat.zero_le _) h0
/-- [h(x) for x in xs if p(x)], nothing else changes -/
theorem lc_pure {α : Type} {g : DGW} {tt : DTW} {te : DW} {vs : List Nat} {kk : Bool → List D → DEnv → Prop} (f : α → Bool × D) (xs : List α) (p : α → Bool) (h : α → D) {ρ : DEnv}
    (hs : ∀ x, x ∈ xs → ∀ (k1 : Bool → D → DEnv → Prop) (k2 : DEnv → Prop), (p x = true → k1 true (h x) ρ) → (p x = false → k2 ρ) → lcTurn g tt te vs (f x) ρ k1 k2)
    (hd : kk true ((xs.filter p).map h) ρ) : lcC g tt te vs kk (xs.map f) ρ := by
  rw [lcC_eq]
  refine lc_inv f xs (fun i ra acc ρ' => ra = true ∧ acc = ((xs.take i).filter p).map h ∧ ρ' = ρ) ⟨rfl, rfl, rfl⟩ (fun i x ra acc ρ' k1 k2 hx ⟨e1, e2, e3⟩ h1 h2 => ?_) fun ra acc ρ' ⟨e1, e2, e3⟩ => ?_
  · subst e1 e2 e3
    have tk : xs.take (i + 1) = xs.take i ++ [x] := by
      rw [List.take_add_one, hx]
      rfl
    refine hs x (List.mem_of_getElem? hx) k1 k2 (fun e => h1 _ _ _ ⟨rfl, ?_, rfl⟩) fun e => h2 _ ⟨rfl, ?_, rfl⟩
    · rw [tk, List.filter_append, List.filter_cons_of_pos e, List.filter_nil, List.map_append]
      rfl
    · rw [tk, List.filter_append, List.filter_cons_of_neg (by rw [e]; exact Bool.false_ne_true), List.filter_nil, List.append_nil]
  · subst e1 e2 e3
    rw [List.take_length]
    exact hd
/-- [h(x) for x in xs] -/
theorem lc_map {α : Type} {g : DGW} {tt : DTW} {te : DW} {vs : List Nat} {kk : Bool → List D → DEnv → Prop} (f : α → Bool × D) (xs : List α) (h : α → D) {ρ : DEnv}
    (hs : ∀ x, x ∈ xs → ∀ (k1 : Bool → D → DEnv → Prop) (k2 : DEnv → Prop), k1 true (h x) ρ → lcTurn g tt te vs (f x) ρ k1 k2)
    (hd : kk true (xs.map h) ρ) : lcC g tt te vs kk (xs.map f) ρ := by
  refine lc_pure f xs (fun _ => true) h (fun x hx k1 k2 h1 _ => hs x hx k1 k2 (h1 rfl)) ?_
  rw [List.filter_eq_self.mpr fun _ _ => rfl]
  exact hd
/-- .. the things as a list of data -/
theorem lcm {α : Type} {g : DGW} {tt : DTW} {te : DW} {vs : List Nat} {kk : Bool → List D → DEnv → Prop} {e : α → D} {xs : List α} {r : Bool} {ρ : DEnv} (h : lcC g tt te vs kk (xs.map fun x => (r, e x)) ρ) : lcC g tt te vs kk ((xs.map e).map fun d => (r, d)) ρ := by
  rw [List.map_map]
  exact h
theorem loopm {α : Type} {g : DGW} {tb : DSW} {X : XC} {E : DEnds} {e : α → D} {xs : List α} {r : Bool} {ρ : DEnv} (h : loopC g tb X E (xs.map fun x => (r, e x)) ρ) : loopC g tb X E ((xs.map e).map fun d => (r, d)) ρ := by
  rw [List.map_map]
  exact h
/-- each by a draw: Rl tells what may come of x -/
theorem lc_drawn {α β : Type} {g : DGW} {tt : DTW} {te : DW} {vs : List Nat} {kk : Bool → List D → DEnv → Prop} (f : α → Bool × D) (xs : List α) (Rl : α → β → Prop) (h : β → D) {ρ : DEnv}
    (hs : ∀ x, x ∈ xs → ∀ (k1 : Bool → D → DEnv → Prop) (k2 : DEnv → Prop), (∀ y, Rl x y → k1 true (h y) ρ) → lcTurn g tt te vs (f x) ρ k1 k2)
    (hd : ∀ ys : List β, ys.length = xs.length → (∀ (i : Nat) (x : α) (y : β), xs[i]? = some x → ys[i]? = some y → Rl x y) → kk true (ys.map h) ρ) : lcC g tt te vs kk (xs.map f) ρ := by
  rw [lcC_eq]
  refine lc_inv f xs (fun i ra acc ρ' => ra = true ∧ ρ' = ρ ∧ i ≤ xs.length ∧ ∃ ys : List β, acc = ys.map h ∧ ys.length = i ∧ ∀ (j : Nat) (x : α) (y : β), xs[j]? = some x → ys[j]? = some y → Rl x y) ⟨rfl, rfl, Nat.zero_le _, [], rfl, rfl, fun _ _ _ _ z => by cases z⟩ (fun i x ra acc ρ' k1 k2 hx ⟨e1, e3, hi, ys, e2, e4, e5⟩ h1 h2 => ?_) fun ra acc ρ' ⟨e1, e3, hi, ys, e2, e4, e5⟩ => ?_
  · subst e1 e2 e3
    refine hs x (List.mem_of_getElem? hx) k1 k2 fun y hy => h1 _ _ _ ⟨rfl, rfl, (List.getElem?_eq_some_iff.mp hx).1, ys ++ [y], by rw [List.map_append]; rfl, by rw [List.length_append, List.length_singleton, e4], fun j x' y' hj hj' => ?_⟩
    by_cases z : j < ys.length
    · rw [List.getElem?_append_left z] at hj'
      exact e5 j x' y' hj hj'
    · rw [List.getElem?_append_right (by omega)] at hj'
      have hji : j = i := by
        have : j - ys.length = 0 := by
          cases q : j - ys.length with
          | zero => rfl
          | succ m =>
            rw [q] at hj'
            cases hj'
        omega
      subst hji
      rw [e4, Nat.sub_self] at hj'
      cases hj'
      rw [hx] at hj
      cases hj
      exact hy
  · subst e1 e2 e3
    exact hd ys e4 e5
/-! ### small facts of data -/
theorem immL_map {α : Type} {f : α → D} (h : ∀ x, (f x).imm = true) : ∀ xs : List α, D.immL (xs.map f) = true
  | [] => by rw [List.map_nil, D.immL]
  | x :: xs => by rw [List.map_cons, D.immL, h x, immL_map h xs]; rfl
theorem imm_str (s : Str) : (D.str s).imm = true := by simp [D.imm]
theorem imm_int (s : Int) : (D.int s).imm = true := by simp [D.imm]
theorem imm_bl (s : Bool) : (D.bl s).imm = true := by simp [D.imm]
theorem immL_str (ns : List Str) : D.immL (ns.map D.str) = true := immL_map imm_str ns
theorem immL_int (ns : List Int) : D.immL (ns.map D.int) = true := immL_map imm_int ns
theorem immL_bl (ns : List Bool) : D.immL (ns.map D.bl) = true := immL_map imm_bl ns
def nmsD (ns : List Str) : D := .lst (ns.map D.str)
def tieD (t : Str × Str) : D := .tup [.str t.1, .str t.2]
def tiesD (ts : List (Str × Str)) : D := .lst (ts.map tieD)
def intsL (ns : List Int) : D := .lst (ns.map D.int)
def webD (ns : List Str) (ts : List (Str × Str)) : D := .ins "Web" [("own_points", nmsD ns), ("own_ties", tiesD ts)]
theorem imm_tie (t : Str × Str) : (tieD t).imm = true := by simp [tieD, D.imm, D.immL]
theorem immL_tie (ts : List (Str × Str)) : D.immL (ts.map tieD) = true := immL_map imm_tie ts
theorem immL_app : ∀ xs ys : List D, D.immL (xs ++ ys) = (D.immL xs && D.immL ys)
  | [], ys => by rw [List.nil_append, D.immL, Bool.true_and]
  | x :: xs, ys => by rw [List.cons_append, D.immL, D.immL, immL_app xs ys, Bool.and_assoc]
theorem flat_str (ns : List Str) : (ns.map D.str).all D.flat = true := by
  rw [List.all_map]
  exact List.all_eq_true.mpr fun _ _ => rfl
theorem flat_int (ns : List Int) : (ns.map D.int).all D.flat = true := by
  rw [List.all_map]
  exact List.all_eq_true.mpr fun _ _ => rfl
theorem inF_str (s : Str) (ns : List Str) : inF (.str s) (ns.map D.str) = decide (s ∈ ns) := by
  unfold inF inV
  rw [List.map_map, List.any_map, Bool.eq_iff_iff, List.any_eq_true, decide_eq_true_iff]
  constructor
  · rintro ⟨x, hx, e⟩
    have e : (x == s) = true := e
    rw [beq_iff_eq] at e
    exact e ▸ hx
  · intro h
    exact ⟨s, h, (beq_self_eq_true s : (s == s) = true)⟩
theorem inF_int (s : Int) (ns : List Int) : inF (.int s) (ns.map D.int) = decide (s ∈ ns) := by
  unfold inF inV
  rw [List.map_map, List.any_map, Bool.eq_iff_iff, List.any_eq_true, decide_eq_true_iff]
  constructor
  · rintro ⟨x, hx, e⟩
    have e : (x == s) = true := e
    rw [beq_iff_eq] at e
    exact e ▸ hx
  · intro h
    exact ⟨s, h, (beq_self_eq_true s : (s == s) = true)⟩
theorem boolsD_map (bs : List Bool) : boolsD (bs.map D.bl) = some bs := by
  induction bs with
  | nil => rfl
  | cons b bs ih => rw [List.map_cons, boolsD, ih]; rfl
theorem boolsD_fn {α : Type} (f : α → Bool) (xs : List α) : boolsD (xs.map fun x => D.bl (f x)) = some (xs.map f) := by
  have := boolsD_map (xs.map f)
  rw [List.map_map] at this
  exact this
theorem all_fn {α : Type} (f : α → Bool) (xs : List α) : (xs.map f).all id = xs.all f := by
  rw [List.all_map]
  rfl
theorem all_t {α : Type} (xs : List α) : (xs.map fun _ => true).all id = true := by
  rw [List.all_map]
  exact List.all_eq_true.mpr fun _ _ => rfl
theorem intsD_map (bs : List Int) : intsD (bs.map D.int) = some bs := by
  induction bs with
  | nil => rfl
  | cons b bs ih => rw [List.map_cons, intsD, ih]; rfl
theorem isi_NoneType_int : isiN "NoneType" "int" = false := by decide
theorem isi_NoneType_bool : isiN "NoneType" "bool" = false := by decide
theorem isi_NoneType_str : isiN "NoneType" "str" = false := by decide
theorem isi_NoneType_list : isiN "NoneType" "list" = false := by decide
theorem isi_NoneType_tuple : isiN "NoneType" "tuple" = false := by decide
theorem isi_NoneType_dict : isiN "NoneType" "dict" = false := by decide
theorem isi_bool_int : isiN "bool" "int" = true := by decide
theorem isi_bool_bool : isiN "bool" "bool" = true := by decide
theorem isi_bool_str : isiN "bool" "str" = false := by decide
theorem isi_bool_list : isiN "bool" "list" = false := by decide
theorem isi_bool_tuple : isiN "bool" "tuple" = false := by decide
theorem isi_bool_dict : isiN "bool" "dict" = false := by decide
theorem isi_int_int : isiN "int" "int" = true := by decide
theorem isi_int_bool : isiN "int" "bool" = false := by decide
theorem isi_int_str : isiN "int" "str" = false := by decide
theorem isi_int_list : isiN "int" "list" = false := by decide
theorem isi_int_tuple : isiN "int" "tuple" = false := by decide
theorem isi_int_dict : isiN "int" "dict" = false := by decide
theorem isi_str_int : isiN "str" "int" = false := by decide
theorem isi_str_bool : isiN "str" "bool" = false := by decide
theorem isi_str_str : isiN "str" "str" = true := by decide
theorem isi_str_list : isiN "str" "list" = false := by decide
theorem isi_str_tuple : isiN "str" "tuple" = false := by decide
theorem isi_str_dict : isiN "str" "dict" = false := by decide
theorem isi_list_int : isiN "list" "int" = false := by decide
theorem isi_list_bool : isiN "list" "bool" = false := by decide
theorem isi_list_str : isiN "list" "str" = false := by decide
theorem isi_list_list : isiN "list" "list" = true := by decide
theorem isi_list_tuple : isiN "list" "tuple" = false := by decide
theorem isi_list_dict : isiN "list" "dict" = false := by decide
theorem isi_tuple_int : isiN "tuple" "int" = false := by decide
theorem isi_tuple_bool : isiN "tuple" "bool" = false := by decide
theorem isi_tuple_str : isiN "tuple" "str" = false := by decide
theorem isi_tuple_list : isiN "tuple" "list" = false := by decide
theorem isi_tuple_tuple : isiN "tuple" "tuple" = true := by decide
theorem isi_tuple_dict : isiN "tuple" "dict" = false := by decide
theorem isi_dict_int : isiN "dict" "int" = false := by decide
theorem isi_dict_bool : isiN "dict" "bool" = false := by decide
theorem isi_dict_str : isiN "dict" "str" = false := by decide
theorem isi_dict_list : isiN "dict" "list" = false := by decide
theorem isi_dict_tuple : isiN "dict" "tuple" = false := by decide
theorem isi_dict_dict : isiN "dict" "dict" = true := by decide
theorem known_int : known "int" = true := by decide
theorem known_bool : known "bool" = true := by decide
theorem known_str : known "str" = true := by decide
theorem known_list : known "list" = true := by decide
theorem known_tuple : known "tuple" = true := by decide
theorem known_dict : known "dict" = true := by decide
theorem tyN_non : tyN .non = some "NoneType" := rfl
theorem tyN_bl (b : Bool) : tyN (.bl b) = some "bool" := rfl
theorem tyN_int (b : Int) : tyN (.int b) = some "int" := rfl
theorem tyN_str (b : Str) : tyN (.str b) = some "str" := rfl
theorem tyN_lst (b : List D) : tyN (.lst b) = some "list" := rfl
theorem tyN_tup (b : List D) : tyN (.tup b) = some "tuple" := rfl
theorem tyN_dK (b : List (Key × D)) : tyN (.dK b) = some "dict" := rfl
theorem notT_non : notT .non = true := rfl
theorem notT_bl (b : Bool) : notT (.bl b) = true := rfl
theorem notT_int (b : Int) : notT (.int b) = true := rfl
theorem notT_str (b : Str) : notT (.str b) = true := rfl
theorem notT_lst (b : List D) : notT (.lst b) = true := rfl
theorem notT_tup (b : List D) : notT (.tup b) = true := rfl
theorem notT_dK (b : List (Key × D)) : notT (.dK b) = true := rfl
theorem ps_fldK {X : Cx} {K : PySem.W.Frag} {o value : Expr} {f : Str} {ta tv : TE} {pos pos' : Pos} (ho : PE X o ta) (hv : PE X value tv) (hs : swapsWith value (some (.Attribute o f pos')) pos.line X.env = pure false) (h : X.K = K := by rfl) : PS X (.Assign [.Attribute o f pos'] value pos) (sFld K ta tv f) := by
  subst h
  exact ps_fld ho hv hs
def strsOf : List D → Option (List Str)
  | [] => some []
  | .str b :: ds => (strsOf ds).map (b :: ·)
  | _ => none
theorem strsOf_v {K : PySem.W.Frag} {H : Hp} : ∀ {vs : List V} {ds : List D} {bs : List Str}, RepL K H vs ds → strsOf ds = some bs → vs = bs.map V.str
  | _, _, _, .nil, e => by cases e; rfl
  | _, _, _, .cons (d := d) h g, e => by
    cases d with
    | str b =>
      simp only [strsOf, Option.map_eq_some_iff] at e
      obtain ⟨bs, e, rfl⟩ := e
      rw [strsOf_v g e]
      cases h
      rfl
    | _ => cases e
theorem strsOf_map (bs : List Str) : strsOf (bs.map D.str) = some bs := by
  induction bs with
  | nil => rfl
  | cons b bs ih => rw [List.map_cons, strsOf, ih]; rfl
theorem small {n : Nat} (h : n ≤ 100000) : n ≤ sizeLine := by
  have : sizeLine = 16777216 := by decide
  omega
theorem smallL {n : Nat} (h : n ≤ 100000) : n < sizeLine := by
  have : sizeLine = 16777216 := by decide
  omega
theorem r62a {j : Int} (h : -1000000 ≤ j) : -(2 ^ 62) ≤ j := by omega
theorem r62b {j : Int} (h : j ≤ 1000000) : j < 2 ^ 62 := by omega
theorem r63a {j : Int} (h : -1000000 ≤ j) : -(2 ^ 63) ≤ j := by omega
theorem r63b {j : Int} (h : j ≤ 1000000) : j < 2 ^ 63 := by omega
theorem rangeD_len (lo : Int) (n : Nat) : (rangeD lo n).length = n := by
  unfold rangeD
  rw [List.length_map, List.length_range]
theorem signs_len (z : Str) : (signs z).length = z.length := by
  unfold signs
  rw [List.length_map, Array.length_toList]
  rfl
theorem ex_some {α : Type} {o : Option α} {a : α} {P : α → Prop} (h : o = some a) (p : P a) : ∃ x, o = some x ∧ P x := ⟨a, h, p⟩
theorem nd_f {p : Prop} [Decidable p] (h : p) : (!decide p) = false := by rw [decide_eq_true h]; rfl
theorem nd_t {p : Prop} [Decidable p] (h : ¬ p) : (!decide p) = true := by rw [decide_eq_false h]; rfl
theorem callC_of {fs : FS} {ds : List D} {k : D → Prop} {x : Exn → Prop} (h : fs ds k x) : callC fs ds k x := callC_eq.mpr h
theorem takeC_of {n : Int} {k : Int → Prop} (h1 : 0 < n) (h2 : n < 1073741824) (h3 : ∀ i, 0 ≤ i → i < n → k i) : takeC n k := takeC_eq.mpr ⟨h1, h2, h3⟩
/-! ### in and == of things of known kinds -/
theorem inC_strs {s : Str} {ns : List Str} {k : Bool → Prop} (h : k (decide (s ∈ ns))) : inC (.str s) (.lst (ns.map D.str)) k := by
  unfold inC
  exact .inl ⟨_, rfl, rfl, flat_str ns, by rw [inF_str]; exact h⟩
theorem inC_strsT {s : Str} {ns : List Str} {k : Bool → Prop} (h : k (decide (s ∈ ns))) : inC (.str s) (.tup (ns.map D.str)) k := by
  unfold inC
  exact .inl ⟨_, rfl, rfl, flat_str ns, by rw [inF_str]; exact h⟩
theorem inC_tie {s : Str} {t : Str × Str} {k : Bool → Prop} (h : k (decide (s = t.1 ∨ s = t.2))) : inC (.str s) (tieD t) k := by
  have : inC (.str s) (.tup ([t.1, t.2].map D.str)) k := inC_strsT (by simpa using h)
  exact this
theorem inC_ints {s : Int} {ns : List Int} {k : Bool → Prop} (h : k (decide (s ∈ ns))) : inC (.int s) (.lst (ns.map D.int)) k := by
  unfold inC
  exact .inl ⟨_, rfl, rfl, flat_int ns, by rw [inF_int]; exact h⟩
theorem inC_intsT {s : Int} {ns : List Int} {k : Bool → Prop} (h : k (decide (s ∈ ns))) : inC (.int s) (.tup (ns.map D.int)) k := by
  unfold inC
  exact .inl ⟨_, rfl, rfl, flat_int ns, by rw [inF_int]; exact h⟩
theorem inC_sign {c : Nat} {z : Str} {k : Bool → Prop} (h : k (decide (c ∈ z.cps.toList))) : inC (.str ⟨#[c]⟩) (.str z) k := by
  unfold inC
  exact .inr (.inl ⟨c, z, rfl, rfl, h⟩)
theorem eqC_str {a b : Str} {k : Bool → Prop} (h : k (decide (a = b))) : eqC (.str a) (.str b) k := by
  unfold eqC
  refine .inl ⟨rfl, rfl, rfl, ?_⟩
  have : decide (toV (.str a) = toV (.str b)) = decide (a = b) := by
    rw [Bool.eq_iff_iff, decide_eq_true_iff, decide_eq_true_iff]
    exact ⟨fun e => V.str.inj e, fun e => by rw [e]⟩
  rw [this]
  exact h
theorem eqC_int {a b : Int} {k : Bool → Prop} (h : k (decide (a = b))) : eqC (.int a) (.int b) k := by
  unfold eqC
  refine .inl ⟨rfl, rfl, rfl, ?_⟩
  have : decide (toV (.int a) = toV (.int b)) = decide (a = b) := by
    rw [Bool.eq_iff_iff, decide_eq_true_iff, decide_eq_true_iff]
    exact ⟨fun e => V.int.inj e, fun e => by rw [e]⟩
  rw [this]
  exact h
theorem eqC_bl {a b : Bool} {k : Bool → Prop} (h : k (decide (a = b))) : eqC (.bl a) (.bl b) k := by
  unfold eqC
  refine .inl ⟨rfl, rfl, rfl, ?_⟩
  have : decide (toV (.bl a) = toV (.bl b)) = decide (a = b) := by
    rw [Bool.eq_iff_iff, decide_eq_true_iff, decide_eq_true_iff]
    exact ⟨fun e => V.bl.inj e, fun e => by rw [e]⟩
  rw [this]
  exact h
/-- data for data: Plain tells when == is = -/
theorem eqC_plain {d e : D} {n m : Nat} {k : Bool → Prop} (h1 : d.pl = true) (h2 : e.pl = true) (g1 : Plain n d.py) (g2 : Plain m e.py) (hn : n ≤ 64) (hm : m ≤ 64) (h : ∀ b : Bool, (b = true ↔ d.py = e.py) → k b) : eqC d e k := by
  unfold eqC
  exact .inr ⟨⟨h1, g1.shaped hn⟩, ⟨h2, g2.shaped hm⟩, h _ (g1.eqv_iff g2)⟩
end PW

namespace PW
open PySem PySem.Spec PyProof.Rows L2
/-! ### what is proved of the draws and of Web, by data -/
theorem cal_imp {P : Program} {w : World} {K : PySem.W.Frag} {mg : Str → Option Value} {base : Heap} {k : Nat} {x : Str} {sp sp' : Sp} {dvs : List V} (c : C8.Cal P w K mg base k x sp dvs) (h : ∀ vs H Q E, sp' vs H Q E → sp vs H Q E) : C8.Cal P w K mg base k x sp' dvs := by
  obtain ⟨f, fd, ps, ds, F, r⟩ := c.ex
  exact ⟨f, fd, ps, ds, F.imp h, r⟩
theorem met_imp {P : Program} {w : World} {K : PySem.W.Frag} {mg : Str → Option Value} {base : Heap} {k : Nat} {C : Addr} {m : Str} {sp sp' : Sp} {dvs : List V} (c : C8.Met P w K mg base k C m sp dvs) (h : ∀ vs H Q E, sp' vs H Q E → sp vs H Q E) : C8.Met P w K mg base k C m sp' dvs := by
  obtain ⟨f, fd, ps, ds, c1, c2, F, r⟩ := c.ex
  exact ⟨f, fd, ps, ds, c1, c2, F.imp h, r⟩
structure OkWeb (ns : List Str) (ts : List (Str × Str)) : Prop where
  names : NamesOk ns
  n1 : 1 ≤ ns.length
  n9 : ns.length ≤ 9
  t20 : ts.length ≤ 20
  ties : ∀ t ∈ ts, TieOk ns t
section
variable {K : PySem.W.Frag} {H H' : Hp}
theorem rep_strs {vs : List V} {ns : List Str} (h : RepL K H vs (ns.map D.str)) : vs = ns.map V.str := by
  have := flat_all h (flat_str ns)
  rw [this, List.map_map]
  rfl
theorem strs_rep : ∀ ns : List Str, RepL K H (ns.map V.str) (ns.map D.str)
  | [] => .nil
  | x :: r => .cons (.str x) (strs_rep r)
theorem ints_rep : ∀ ns : List Int, RepL K H (ns.map V.int) (ns.map D.int)
  | [] => .nil
  | x :: r => .cons (.int x) (ints_rep r)
theorem rep_nms {v : V} {ns : List Str} (h : Rep K H v (nmsD ns)) : ∃ a, v = .ref a ∧ H a = some (.lst (ns.map V.str)) := by
  cases h with
  | lst h1 h2 =>
    rw [rep_strs h2] at h1
    exact ⟨_, rfl, h1⟩
theorem rep_tie {v : V} {t : Str × Str} (h : Rep K H v (tieD t)) : ∃ a, v = .ref a ∧ H a = some (.tup [.str t.1, .str t.2]) := by
  cases h with
  | tup h1 h2 =>
    cases h2 with
    | cons a b =>
      cases b with
      | cons b c =>
        cases c
        cases a
        cases b
        exact ⟨_, rfl, h1⟩
theorem rep_ties : ∀ {vs : List V} {ts : List (Str × Str)}, RepL K H vs (ts.map tieD) → ∃ ats : Ats, vs = ats.vals ∧ ats.ties = ts ∧ TupsAt H ats
  | _, [], h => by
    cases h
    exact ⟨[], rfl, rfl, TupsAt.nil H⟩
  | _, t :: ts, h => by
    cases h with
    | cons h1 h2 =>
      obtain ⟨a, rfl, ha⟩ := rep_tie h1
      obtain ⟨ats, rfl, rfl, h3⟩ := rep_ties h2
      refine ⟨(a, t) :: ats, rfl, rfl, fun x hx => ?_⟩
      rcases List.mem_cons.mp hx with rfl | hx
      · exact ha
      · exact h3 x hx
theorem ties_rep {ats : Ats} (h : TupsAt H ats) : RepL K H ats.vals (ats.ties.map tieD) := by
  induction ats with
  | nil => exact .nil
  | cons x r ih => exact .cons (.tup (h x List.mem_cons_self) (.cons (.str _) (.one (.str _)))) (ih fun y hy => h y (List.mem_cons_of_mem _ hy))
end
def fsNames : FS := fun ds Q _ => ∃ n : Int, ds = [.int n] ∧ 1 ≤ n ∧ n ≤ 9 ∧ ∀ ns : List Str, NamesOk ns → ns.length = n.toNat → Q (nmsD ns)
def fsMixed : FS := fun ds Q _ => ∃ xs : List D, ds = [.lst xs] ∧ xs.length ≤ 1000 ∧ D.immL xs = true ∧ ∀ ys : List D, ys.Perm xs → Q (.lst ys)
def fsTie : FS := fun ds Q _ => ∃ ns : List Str, ds = [nmsD ns] ∧ ns.Nodup ∧ 2 ≤ ns.length ∧ ns.length ≤ 1000 ∧ ∀ t, TieOk ns t → Q (tieD t)
def fsWeb : FS := fun ds Q _ => ∃ pts most : Int, ds = [.int pts, .int most] ∧ 1 ≤ pts ∧ pts ≤ 9 ∧ pts ≤ most ∧ most ≤ 20 ∧ ∀ ns ts, OkWeb ns ts → (ns.length : Int) ≤ pts → (ts.length : Int) ≤ most → Q (.tup [nmsD ns, tiesD ts])
theorem new_cut {H H' : Hp} {a : Addr} {o : HO} (h : H a = none) (h' : H' a = some o) : newH H H' a = some o := cut_of h' fun z => z h
theorem sp_names {K : PySem.W.Frag} : ∀ vs H Q E, spP K fsNames vs H Q E → spNames vs H Q E := by
  rintro vs H Q E ⟨p, us, ds, R, Xd, rfl, hp, h1, ⟨n, rfl, n1, n2, h2⟩, h3, _⟩
  cases h1 with
  | cons a b =>
    cases b
    cases a
    exact ⟨p, n, rfl, hp, n1, n2, fun r ns H' ok hl hr k hp' e => h3 _ _ H' (h2 ns ok hl) k hp' (.lst (new_cut hr e) (strs_rep ns))⟩
theorem sp_tie {K : PySem.W.Frag} : ∀ vs H Q E, spP K fsTie vs H Q E → spTie vs H Q E := by
  rintro vs H Q E ⟨p, us, ds, R, Xd, rfl, hp, h1, ⟨ns, rfl, n1, n2, n3, h2⟩, h3, _⟩
  cases h1 with
  | cons a b =>
    cases b
    obtain ⟨l, rfl, hl⟩ := rep_nms a
    obtain ⟨z1, z2⟩ := cut_inv hl
    refine ⟨p, l, ns, rfl, hp, ?_, z1, n1, n2, n3, fun t x y H' ok ht k hp' e => h3 _ _ H' (h2 (x, y) ok) k hp' (.tup (new_cut ht e) (.cons (.str _) (.one (.str _))))⟩
    rcases z2 with z2 | ⟨_, z⟩
    · exact z2
    · cases z
theorem perm_rep {K : PySem.W.Frag} {H : Hp} {ys xs : List V} (h : ys.Perm xs) : ∀ {ds : List D}, RepL K H xs ds → ∃ es : List D, es.Perm ds ∧ RepL K H ys es := by
  induction h with
  | nil =>
    intro ds g
    cases g
    exact ⟨[], .nil, .nil⟩
  | cons x _ ih =>
    intro ds g
    cases g with
    | cons g1 g2 =>
      obtain ⟨es, e1, e2⟩ := ih g2
      exact ⟨_, e1.cons _, .cons g1 e2⟩
  | swap x y l =>
    intro ds g
    cases g with
    | cons g1 g2 =>
      cases g2 with
      | cons g2 g3 => exact ⟨_, .swap _ _ _, .cons g2 (.cons g1 g3)⟩
  | trans _ _ ih1 ih2 =>
    intro ds g
    obtain ⟨es, e1, e2⟩ := ih2 g
    obtain ⟨fs, f1, f2⟩ := ih1 e2
    exact ⟨fs, f1.trans e1, f2⟩
theorem sp_mixed {K : PySem.W.Frag} : ∀ vs H Q E, spP K fsMixed vs H Q E → spMixed vs H Q E := by
  rintro vs H Q E ⟨p, us, ds, R, Xd, rfl, hp, h1, ⟨xs, rfl, n1, n2, h2⟩, h3, _⟩
  cases h1 with
  | cons a b =>
    cases b
    cases a with
    | @lst l ws _ g1 g2 =>
      obtain ⟨z1, z2⟩ := cut_inv g1
      refine ⟨p, l, ws, rfl, hp, ?_, z1, by rw [g2.len]; exact n1, fun r ys H' pm hr k hp' e => ?_⟩
      · rcases z2 with z2 | ⟨_, z⟩
        · exact z2
        · cases z
      · obtain ⟨es, e1, e2⟩ := perm_rep pm g2
        have im : D.immL es = true := by
          have key : ∀ (l : List D), D.immL l = l.all D.imm := fun l => by
            induction l with
            | nil => rfl
            | cons d r ih => rw [D.immL, List.all_cons, ih]
          rw [key] at n2 ⊢
          exact List.all_eq_true.mpr fun d hd => List.all_eq_true.mp n2 d (e1.mem_iff.mp hd)
        refine h3 _ _ H' (h2 es e1) k hp' (.lst (new_cut hr e) ?_)
        have e3 : RepL K (cut (· = p) H') ys es := (e2.imm (bad := fun _ => True) im).mono fun c o hc => by
          obtain ⟨k1, k2⟩ := cut_inv hc
          rcases k2 with k2 | ⟨zs, rfl⟩
          · exact absurd trivial k2
          · have hc1 := cut_le _ _ k1
            exact cut_tup (k c _ (fun z => by
              subst z
              obtain ⟨x, y, _, _, q⟩ := hp
              rw [hc1] at q
              cases q) hc1)
        exact (e3.mono cut_le).imm im
theorem sp_web {K : PySem.W.Frag} : ∀ vs H Q E, spP K fsWeb vs H Q E → spWeb vs H Q E := by
  rintro vs H Q E ⟨p, us, ds, R, Xd, rfl, hp, h1, ⟨pts, most, rfl, n1, n2, n3, n4, h2⟩, h3, _⟩
  cases h1 with
  | cons a b =>
    cases b with
    | cons b c =>
      cases c
      cases a
      cases b
      refine ⟨p, pts, most, rfl, hp, n1, n2, n3, n4, fun t a b ns ats H' ok l1 l2 l3 ti ht ha hb ne k hp' e1 e2 e3 e4 => ?_⟩
      have hl : ats.ties.length = ats.length := Ats.ties_len ats
      refine h3 _ _ H' (h2 ns ats.ties ⟨ok, l1, by omega, by omega, fun t ht => ?_⟩ l2 (by rw [hl]; exact l3)) k hp' (.tup (new_cut ht e1) (.cons (.lst (new_cut ha e2) (strs_rep ns)) (.one (.lst (new_cut hb e3) ?_))))
      · obtain ⟨x, hx, rfl⟩ := List.mem_map.mp ht
        exact ti x hx
      · exact (ties_rep e4).imm (immL_tie _)
end PW

namespace PW
open PySem PySem.Spec PyProof.Rows L2
/-! ### len(set(..)) -/
def manyI (ns : List Int) : Nat := (PyProof.Rows.firstMet (fun i => ns.getD i 0) ns.length).length
theorem any_beqI {l : List Int} {v : Int} : (l.any (· == v)) = true ↔ v ∈ l := by
  rw [List.any_eq_true]
  exact ⟨fun ⟨x, hx, e⟩ => (beq_iff_eq.mp e : x = v) ▸ hx, fun h => ⟨v, h, beq_iff_eq.mpr rfl⟩⟩
theorem fm_in (val : Nat → Int) : ∀ k i, i < k → val i ∈ PyProof.Rows.firstMet val k
  | 0, i, h => by omega
  | k + 1, i, h => by
    rw [PyProof.Rows.firstMet_succ]
    unfold PyProof.Rows.step_dedup
    by_cases e : i = k
    · subst e
      split
      · rename_i z
        exact any_beqI.mp z
      · exact List.mem_append_right _ (List.mem_singleton.mpr rfl)
    · have := fm_in val k i (by omega)
      split
      · exact this
      · exact List.mem_append_left _ this
theorem fm_full (val : Nat → Int) : ∀ k, (PyProof.Rows.firstMet val k).length = k → ∀ i j, i < j → j < k → val i ≠ val j
  | 0, _, i, j, _, h => by omega
  | k + 1, e, i, j, hij, h => by
    have hl := PyProof.Rows.firstMet_length_le val k
    rw [PyProof.Rows.firstMet_succ] at e
    unfold PyProof.Rows.step_dedup at e
    split at e
    · omega
    · rename_i hn
      rw [List.length_append, List.length_singleton] at e
      by_cases z : j = k
      · subst z
        intro y
        exact hn (any_beqI.mpr (y ▸ fm_in val j i hij))
      · exact fm_full val k (by omega) i j hij (by omega)
theorem manyI_le (ns : List Int) : manyI ns ≤ ns.length := PyProof.Rows.firstMet_length_le _ _
theorem manyI_iff {ns : List Int} : manyI ns = ns.length ↔ ns.Nodup := by
  constructor
  · intro h
    have := fm_full _ _ h
    refine List.pairwise_iff_getElem.mpr fun i j hi hj hij z => this i j hij hj ?_
    show ns.getD i 0 = ns.getD j 0
    rw [List.getD_eq_getElem?_getD, List.getD_eq_getElem?_getD, List.getElem?_eq_getElem hi, List.getElem?_eq_getElem hj, z]
  · intro h
    unfold manyI
    rw [RZ.firstMet_nodup h ns.length (Nat.le_refl _), List.take_length]
theorem fm_sub (val : Nat → Int) : ∀ k v, v ∈ PyProof.Rows.firstMet val k → ∃ i, i < k ∧ v = val i
  | 0, v, h => by
    have h' : v ∈ ([] : List Int) := h
    cases h'
  | k + 1, v, h => by
    rw [PyProof.Rows.firstMet_succ] at h
    unfold PyProof.Rows.step_dedup at h
    split at h
    · obtain ⟨i, h1, h2⟩ := fm_sub val k v h
      exact ⟨i, by omega, h2⟩
    · rcases List.mem_append.mp h with h | h
      · obtain ⟨i, h1, h2⟩ := fm_sub val k v h
        exact ⟨i, by omega, h2⟩
      · exact ⟨k, by omega, List.mem_singleton.mp h⟩
theorem fm_nd (val : Nat → Int) : ∀ k, (PyProof.Rows.firstMet val k).Nodup
  | 0 => List.nodup_nil
  | k + 1 => by
    rw [PyProof.Rows.firstMet_succ]
    unfold PyProof.Rows.step_dedup
    split
    · exact fm_nd val k
    · rename_i hn
      refine List.nodup_append.mpr ⟨fm_nd val k, List.pairwise_singleton _ _, fun a ha b hb e => ?_⟩
      rw [List.mem_singleton.mp hb] at e
      exact hn (any_beqI.mpr (e ▸ ha))
theorem manyI_of {ns ks : List Int} (nd : ks.Nodup) (h : ∀ k, k ∈ ns ↔ k ∈ ks) : ks.length = manyI ns := by
  refine ((List.perm_ext_iff_of_nodup nd (fm_nd _ _)).mpr fun a => ⟨fun ha => ?_, fun ha => ?_⟩).length_eq
  · obtain ⟨i, hi, e⟩ := List.mem_iff_getElem.mp ((h a).mpr ha)
    have := fm_in (fun i => ns.getD i 0) ns.length i hi
    rw [List.getD_eq_getElem?_getD, List.getElem?_eq_getElem hi, e] at this
    exact this
  · obtain ⟨i, hi, e⟩ := fm_sub _ _ a ha
    rw [List.getD_eq_getElem?_getD, List.getElem?_eq_getElem hi] at e
    exact (h a).mp (e ▸ List.getElem_mem hi)
def tLenSetG (K : PySem.W.Frag) (ta : TE) : TE := fun σ H Q => ta σ H fun x H1 => (∃ (l : Addr) (xs : List Str), x = .ref l ∧ SqL K H1 l (xs.map V.str) ∧ xs.length ≤ 1000 ∧ Q (.int (manyS xs : Nat)) H1) ∨ (∃ (l : Addr) (xs : List Str), x = .ref l ∧ SqT K H1 l (xs.map V.str) ∧ xs.length ≤ 1000 ∧ Q (.int (manyS xs : Nat)) H1) ∨ (∃ (l : Addr) (ns : List Int), x = .ref l ∧ SqL K H1 l (ns.map V.int) ∧ ns.length ≤ 1000 ∧ Q (.int (manyI ns : Nat)) H1) ∨ (∃ (l : Addr) (ns : List Int), x = .ref l ∧ SqT K H1 l (ns.map V.int) ∧ ns.length ≤ 1000 ∧ Q (.int (manyI ns : Nat)) H1)
theorem pe_lenSetG {X : Cx} {K : PySem.W.Frag} {a : Expr} {ta : TE} {p p2 q pos : Pos} (hg : Gl X "len") (hm : X.mg "len" = none) (hg2 : Gl X "set") (hm2 : X.mg "set" = none) (ha : PE X a ta) (hc : X.calm = true := by rfl) (hK : X.K = K := by rfl)
    (na : starEach [a] X.env = (false, eval a X.env) :: starEach [] X.env := by rfl) : PE X (.Call (.Name "len" p) [.Call (.Name "set" p2) [a] [] q] [] pos) (tLenSetG K ta) := by
  subst hK
  refine ⟨fun pins s σ H Q I h => Call_ (ld_blt I hg hm boot_len ?_)⟩
  refine PyProof.Rows.callWith_builtin1 (PyProof.Rows.args_cons (Call_ (ld_blt I hg2 hm2 boot_set ?_)) rfl) rfl rfl
  refine PyProof.Rows.callWith_type1 (PyProof.Rows.args_cons (thn (ha.run pins s σ H _ I h) fun v s1 ⟨x, H1, I1, r1, q1⟩ => PyProof.Rows.args_nil ?_) na) na rfl
  rcases q1 with ⟨l, xs, rfl, sq, hl, q1⟩ | ⟨l, xs, rfl, sq, hl, q1⟩ | ⟨l, ns, rfl, sq, hl, q1⟩ | ⟨l, ns, rfl, sq, hl, q1⟩
  · cases r1
    obtain ⟨its, r, pl, hz⟩ := I1.list sq
    have el : its.toArray.size = xs.length := by rw [List.size_toArray, ← r.length, List.length_map]
    refine pw_set_list (I1.ok.hd hc) pl.isList (strsAre_vals r) (by rw [el]; unfold scanBound; omega) fun h' tk hS hk => PyProof.Rows.args_nil ?_
    rw [el] at hS
    obtain ⟨o, es, ep, t, ho, hex, hd, _, _, _, hf, hn⟩ := hS
    have I2 : Inv X pins σ H1 { s1 with heap := h', toks := tk } := I1.kept fun b o e => hk b o (Heap.lt_size e) e
    have hml : manyS xs ≤ xs.length := onceS_len _ _
    exact call_len_set ho hex hd hf (by rw [hn]; show ((manyS xs : Nat) : Int) < 2 ^ 63; omega) ⟨.int (manyS xs : Nat), H1, I2.tok _, ⟨_, by rw [hn]; rfl⟩, q1⟩
  · cases r1
    obtain ⟨its, r, pl, hz⟩ := I1.tuple sq
    have el : its.toArray.size = xs.length := by rw [List.size_toArray, ← r.length, List.length_map]
    refine pw_set_tuple (I1.ok.hd hc) pl (strsAre_vals r) (by rw [el]; unfold scanBound; omega) fun h' tk hS hk => PyProof.Rows.args_nil ?_
    rw [el] at hS
    obtain ⟨o, es, ep, t, ho, hex, hd, _, _, _, hf, hn⟩ := hS
    have I2 : Inv X pins σ H1 { s1 with heap := h', toks := tk } := I1.kept fun b o e => hk b o (Heap.lt_size e) e
    have hml : manyS xs ≤ xs.length := onceS_len _ _
    exact call_len_set ho hex hd hf (by rw [hn]; show ((manyS xs : Nat) : Int) < 2 ^ 63; omega) ⟨.int (manyS xs : Nat), H1, I2.tok _, ⟨_, by rw [hn]; rfl⟩, q1⟩
  · cases r1
    obtain ⟨its, r, pl, hz⟩ := I1.list sq
    have el : its.toArray.size = ns.length := by rw [List.size_toArray, ← r.length, List.length_map]
    refine PySem.call_set_list (I1.ok.hd hc) pl.isList (by simpa using RZ.intsAre_vals r) (by rw [el]; unfold scanBound; omega) fun h' tk hS hk => PyProof.Rows.args_nil ?_
    rw [el] at hS
    obtain ⟨o, es, ep, t, ho, hex, hd, _, _, _, hf, hn⟩ := hS
    have I2 : Inv X pins σ H1 { s1 with heap := h', toks := tk } := I1.kept fun b o e => hk b o (Heap.lt_size e) e
    have hml := manyI_le ns
    exact call_len_set ho hex hd hf (by rw [hn]; show ((manyI ns : Nat) : Int) < 2 ^ 63; omega) ⟨.int (manyI ns : Nat), H1, I2.tok _, ⟨_, by rw [hn]; rfl⟩, q1⟩
  · cases r1
    obtain ⟨its, r, pl, hz⟩ := I1.tuple sq
    refine call_set_tupI ns (I1.ok.hd hc) pl (by simpa using RZ.intsAre_vals r) (by unfold scanBound; omega) fun h' tk c hS hcn hk => PyProof.Rows.args_nil ?_
    obtain ⟨o, es, ep, t, ho, hex, hd, _, nd, mem, _, hf, hn, _⟩ := hS
    have I2 : Inv X pins σ H1 { s1 with heap := h', toks := tk } := I1.kept hk
    have e1 : manyI ns = c := by
      have z := manyI_of (ns := ns) nd fun k => by rw [← mem k, decide_eq_true_iff]
      rw [List.length_map, Array.length_toList, hn] at z
      exact z.symm
    rw [e1] at q1
    exact call_len_set ho hex hd hf (by rw [hn]; show ((c : Nat) : Int) < 2 ^ 63; omega) ⟨.int (c : Nat), H1, I2.tok _, ⟨_, by rw [hn]⟩, q1⟩
def dLenSet (w : DW) : DW := fun X ρ R => w X ρ fun x ρ1 => match rd ρ1 x with
  | some (_, .lst ds) => (∃ ns, strsOf ds = some ns ∧ ns.length ≤ 1000 ∧ R (.v true (.int (manyS ns : Nat))) ρ1) ∨ (∃ ns, intsD ds = some ns ∧ ns.length ≤ 1000 ∧ R (.v true (.int (manyI ns : Nat))) ρ1)
  | some (_, .tup ds) => (∃ ns, strsOf ds = some ns ∧ ns.length ≤ 1000 ∧ R (.v true (.int (manyS ns : Nat))) ρ1) ∨ (∃ ns, intsD ds = some ns ∧ ns.length ≤ 1000 ∧ R (.v true (.int (manyI ns : Nat))) ρ1)
  | _ => False
instance {K : PySem.W.Frag} {W : WXT} {t : TE} {w : DW} [A : DE K W t w] : DE K W (tLenSetG K t) (dLenSet w) where
  ok := fun {F σ H ρ X R Q} hK E L h q => A.ok hK E L h fun x ρ1 v H1 h1 E1 s1 r1 => by
    subst hK
    split at h1
    · rename_i r ds e
      obtain ⟨a, vs, rfl, g1, g2⟩ := r1.top E1 e
      rcases h1 with ⟨ns, hn, hl, h1⟩ | ⟨ns, hn, hl, h1⟩
      · rw [strsOf_v g2 hn] at g1
        exact .inl ⟨a, ns, rfl, SqL.of g1, hl, q _ ρ1 _ H1 h1 E1 s1 (.int _)⟩
      · rw [ints_v g2 hn] at g1
        exact .inr (.inr (.inl ⟨a, ns, rfl, SqL.of g1, hl, q _ ρ1 _ H1 h1 E1 s1 (.int _)⟩))
    · rename_i r ds e
      obtain ⟨a, vs, rfl, g1, g2⟩ := r1.top E1 e
      rcases h1 with ⟨ns, hn, hl, h1⟩ | ⟨ns, hn, hl, h1⟩
      · rw [strsOf_v g2 hn] at g1
        exact .inr (.inl ⟨a, ns, rfl, SqT.of g1, hl, q _ ρ1 _ H1 h1 E1 s1 (.int _)⟩)
      · rw [ints_v g2 hn] at g1
        exact .inr (.inr (.inr ⟨a, ns, rfl, SqT.of g1, hl, q _ ρ1 _ H1 h1 E1 s1 (.int _)⟩))
    · exact h1.elim
end PW

namespace PW
open PySem PySem.Spec PyProof.Rows L2
/-! ### zip of a list and a tuple -/
def ItzM (K : PySem.W.Frag) (a b : Addr) : It where
  go := fun i H => ∃ (us vs : List V) (u v : V), SqL K H a us ∧ SqT K H b vs ∧ us[i]? = some u ∧ vs[i]? = some v
  yld := fun i H r H' => ∃ T u v, r = .ref T ∧ H T = none ∧ H' = upd H T (.tup [u, v]) ∧ (∀ us, SqL K H a us → us[i]? = some u) ∧ ∀ vs, SqT K H b vs → vs[i]? = some v
  stop := fun i H => ∃ us vs : List V, SqL K H a us ∧ SqT K H b vs ∧ us.length = vs.length ∧ us.length = i
theorem five {c z t o i j : Addr} (h : c ∈ [z, t, o, i, j]) : c = z ∨ c = t ∨ c = o ∨ c = i ∨ c = j := by
  simpa using h
theorem turn_zipM {P : Program} {w : World} {K : PySem.W.Frag} {elts : List Expr} {kk : Nat} {tpos : Pos} {a b z TI TO i1 i2 : Addr} (S : ZipSep2 z TI TO i1 i2 [i1, a] [i2, b]) (na : a ≠ i1) (nb : b ≠ i2) :
    Turn P w K (.Tuple elts kk tpos) (ItzM K a b) [z, TI, TO, i1, i2] z (fun i h => IsZip h z TI TO .none ∧ IsTupOf2 h TI (.ref i1) (.ref i2) ∧ (∃ p q, IsTupOf2 h TO p q) ∧ h.IsListIter i1 a i ∧ h.IsTupleIter i2 b i) where
  mem := by simp
  obj := fun i h st c hc => by
    obtain ⟨e0, e1, ⟨p, q, e2⟩, ⟨o3, e3, _, d3⟩, ⟨o4, e4, _, d4⟩⟩ := st
    rcases five hc with rfl | rfl | rfl | rfl | rfl
    · exact ⟨_, e0, fun v r => nomatch r⟩
    · exact ⟨_, e1, fun v r => nomatch r⟩
    · exact ⟨_, e2, fun v r => nomatch r⟩
    · exact ⟨o3, e3, fun v r => by rw [d3] at r; cases r⟩
    · exact ⟨o4, e4, fun v r => by rw [d4] at r; cases r⟩
  keep := fun i h h' st k => by
    obtain ⟨e0, e1, ⟨p, q, e2⟩, e3, e4⟩ := st
    exact ⟨k z (by simp) _ e0, k TI (by simp) _ e1, ⟨p, q, k TO (by simp) _ e2⟩, e3.at fun o r => k i1 (by simp) o r, e4.at fun o r => k i2 (by simp) o r⟩
  item := by
    intro X hP hw hK hc i pins s σ H E I hf st hg
    subst hP hw hK
    obtain ⟨e0, e1, e2, e3, e4⟩ := st
    obtain ⟨us, vs, u, v, qu, qv, hu, hv⟩ := hg
    obtain ⟨l1, r1, p1, _⟩ := I.list qu
    obtain ⟨l2, r2, p2, _⟩ := I.tuple qv
    obtain ⟨y1, g1, t1⟩ := r1.get hu
    obtain ⟨y2, g2, t2⟩ := r2.get hv
    have hh : X.A.in1.handled = none := I.ok.hd hc
    have W := WalksT.zipD2 (prog := X.prog) (w := X.w) (A := X.A) S (Draws.list hh i1 a na l1.toArray) (Draws.tuple hh i2 b nb l2.toArray)
    have i1l : i < l1.toArray.size := by
      have := (List.getElem?_eq_some_iff.mp g1).1
      simpa using this
    have i2l : i < l2.toArray.size := by
      have := (List.getElem?_eq_some_iff.mp g2).1
      simpa using this
    have five_lt : ∀ c ∈ [z, TI, TO, i1, i2], c < s.heap.objs.size := fun c hcm => by
      obtain ⟨_, _, e2'⟩ := id e2
      obtain ⟨_, e3', _⟩ := id e3
      obtain ⟨_, e4', _⟩ := id e4
      rcases five hcm with rfl | rfl | rfl | rfl | rfl
      · exact Heap.lt_size e0
      · exact Heap.lt_size e1
      · exact Heap.lt_size e2'
      · exact Heap.lt_size e3'
      · exact Heap.lt_size e4'
    refine W.item i s _ _ (by omega) ⟨e0, e1, e2, ⟨e3, p1.isList⟩, ⟨e4, p2⟩⟩ fun T vals h' tk hPt hTl hT hMid hk => ?_
    obtain ⟨x1, x2, hx1, hx2, rfl⟩ := hPt
    have ex1 : x1 = y1 := by
      have e : l1[i]? = some x1 := by simpa using hx1
      rw [g1] at e
      exact (Option.some.inj e).symm
    have ex2 : x2 = y2 := by
      have e : l2[i]? = some x2 := by simpa using hx2
      rw [g2] at e
      exact (Option.some.inj e).symm
    subst ex1 ex2
    refine ⟨_, rfl, W.go elts kk tpos i T { s with heap := h', toks := tk } _ _ hMid fun h'' st'' hk'' => ?_⟩
    have nT : T ∉ [z, TO, i1, i2] := W.apart i T h' hMid
    have hT'' : h''.IsTuple T #[x1, x2] := hT.at fun o e => hk'' T o nT e
    have new : ObjOk X.prog X.w (upd H T (.tup [u, v])) h'' T (.tup [u, v]) := ⟨by show 2 ≤ sizeLine; decide, [x1, x2], .cons t1 (.cons t2 .nil), hT''⟩
    have kk' : ∀ c o, c ∉ [z, TI, TO, i1, i2] → s.heap.get? c = some o → h''.get? c = some o := fun c o hb e => by
      have n4 : c ∉ [z, TO, i1, i2] := fun m => hb (by
        have : c = z ∨ c = TO ∨ c = i1 ∨ c = i2 := by simpa using m
        rcases this with r | r | r | r <;> simp [r])
      exact hk'' c o n4 (hk c o n4 e)
    have I1 : Inv X pins σ (upd H T (.tup [u, v])) { s with heap := h'', toks := tk } := I.turnedNew (t' := tk) (ch := [z, TI, TO, i1, i2]) kk' hf hTl new
    obtain ⟨f0, f1, f2, f3, f4⟩ := st''
    refine ⟨.ref T, _, I1, rfl, ⟨T, u, v, rfl, I.hok.fresh hTl, rfl, fun l hl => by rw [I.list_inj hl qu]; exact hu, fun l hl => by rw [I.tuple_inj hl qv]; exact hv⟩, ⟨f0, f1, f2, f3.1, f4.1⟩, fun c hcm => ?_⟩
    rw [upd_ne (Nat.ne_of_lt (Nat.lt_of_lt_of_le (five_lt c hcm) hTl))]
    exact (hf c hcm).1
  done := by
    intro X hP hw hK hc i pins s σ H E I hf st hg
    subst hP hw hK
    obtain ⟨e0, e1, e2, e3, e4⟩ := st
    obtain ⟨us, vs, qu, qv, hl, hi⟩ := hg
    obtain ⟨l1, r1, p1, _⟩ := I.list qu
    obtain ⟨l2, r2, p2, _⟩ := I.tuple qv
    have hh : X.A.in1.handled = none := I.ok.hd hc
    have W := WalksT.zipD2 (prog := X.prog) (w := X.w) (A := X.A) S (Draws.list hh i1 a na l1.toArray) (Draws.tuple hh i2 b nb l2.toArray)
    have n1 := r1.length
    have n2 := r2.length
    have en : i = min l1.toArray.size l2.toArray.size := by
      simp
      omega
    refine W.done s _ _ (by rw [← en]; exact ⟨e0, e1, e2, ⟨e3, p1.isList⟩, ⟨e4, p2⟩⟩) fun h' tk hk => ⟨rfl, I.turnedL (t' := tk) (ch := [z, TI, TO, i1, i2]) (fun c o hb e => hk c o (fun m => hb ?_) e) hf⟩
    have : c = z ∨ c = TO ∨ c = i1 ∨ c = i2 := by simpa using m
    rcases this with r | r | r | r <;> simp [r]
  self := fun A i s Q E st h => wpAny_pyIter_zip st.1 h
def iZipM (K : PySem.W.Frag) (ta : TA) : TI := fun σ H R => ta σ H fun ws H1 => ∃ a b us vs, ws = [.ref a, .ref b] ∧ SqL K H1 a us ∧ SqT K H1 b vs ∧ R (ItzM K a b) H1
theorem neM {m n : Nat} (h : m ≠ n) : (m : Addr) ≠ n := h
theorem notin2 {x y z : Addr} (h1 : x ≠ y) (h2 : x ≠ z) : x ∉ [y, z] := fun h => by
  rcases List.mem_cons.mp h with h | h
  · exact h1 h
  · exact h2 (List.mem_singleton.mp h)
theorem pi_zipM {X : Cx} {K : PySem.W.Frag} {e e2 : Expr} {ta : TA} {p pos tpos : Pos} {elts : List Expr} {kk : Nat} (hg : Gl X "zip") (hm : X.mg "zip" = none) (ha : PA X [e, e2] ta) (hK : X.K = K := by rfl)
    (hs : starEach [e, e2] X.env = (false, eval e X.env) :: starEach [e2] X.env := by rfl) (hpl : (backTo pos (starEach [e2] X.env)).any (·.1) = false := by rfl) : PI X (.Tuple elts kk tpos) (.Call (.Name "zip" p) [e, e2] [] pos) (iZipM K ta) := by
  subst hK
  refine ⟨fun pins s σ H R I h => Call_ (ld_blt I hg hm PyProof.Rows.boot_zip (PyProof.Rows.callWith_type1 (thn (ha.run pos pins s σ H _ I h) fun us s1 ⟨vs, H1, I1, r1, q1⟩ => ?_) hs hpl))⟩
  obtain ⟨a, b, xs, ys, rfl, qu, qv, q⟩ := q1
  cases r1 with
  | cons r rr => cases rr with
    | cons r' rr =>
      cases rr
      cases r
      cases r'
      obtain ⟨l1, k1, p1, _⟩ := I1.list qu
      obtain ⟨l2, k2, p2, _⟩ := I1.tuple qv
      obtain ⟨o2, ho2, _⟩ := id p2
      have la : a < s1.heap.objs.size := p1.lt
      have lb : b < s1.heap.objs.size := Heap.lt_size ho2
      refine zip_begins2 (begins_list a l1.toArray) (begins_tuple b l2.toArray) p1.isList p2 fun h' hz hTI hTO g1 g2 hsz hk => wpAny_pyIter_zip hz ?_
      have I2 : Inv X pins σ H1 { s1 with heap := h' } := I1.kept (t' := s1.toks) hk
      have S : ZipSep2 (s1.heap.objs.size + 4) (s1.heap.objs.size + 2) (s1.heap.objs.size + 3) s1.heap.objs.size (s1.heap.objs.size + 1) [s1.heap.objs.size, a] [s1.heap.objs.size + 1, b] := by
        generalize s1.heap.objs.size = n at la lb
        have la' : (a : Nat) < n := la
        have lb' : (b : Nat) < n := lb
        have e1 : ∀ k : Nat, n + k ≠ a := fun k e => Nat.lt_irrefl a (Nat.lt_of_lt_of_le la (e ▸ Nat.le_add_right n k))
        have e2 : ∀ k : Nat, n + k ≠ b := fun k e => Nat.lt_irrefl b (Nat.lt_of_lt_of_le lb (e ▸ Nat.le_add_right n k))
        exact ⟨neM (by omega), neM (by omega), neM (by omega), neM (by omega), List.mem_cons_self, notin2 (neM (by omega)) (e1 4), notin2 (neM (by omega)) (e1 3), neM (by omega), List.mem_cons_self, notin2 (neM (by omega)) (e2 4), notin2 (neM (by omega)) (e2 3), notin2 (neM (by omega)) (e2 0), notin2 (neM (by omega)) (e1 1)⟩
      refine ⟨s1.heap.objs.size + 4, [s1.heap.objs.size + 4, s1.heap.objs.size + 2, s1.heap.objs.size + 3, s1.heap.objs.size, s1.heap.objs.size + 1], _, _, H1, rfl, I2, turn_zipM S (Nat.ne_of_lt la) (Nat.ne_of_lt (Nat.lt_succ_of_lt lb)), ⟨hz, hTI, ⟨_, _, hTO⟩, ⟨_, g1, rfl, rfl⟩, ⟨_, g2, rfl, rfl⟩⟩, fun c hcm => ?_, q⟩
      have hle : s1.heap.objs.size ≤ c := by
        rcases five hcm with r | r | r | r | r <;> rw [r] <;> first | exact Nat.le_refl _ | exact Nat.le_add_right _ _
      exact I1.fpOk hle (I1.hok.fresh hle)
theorem walk_zipM {K : PySem.W.Frag} {a b : Addr} {xs ys : List V} {n : Nat} (h1 : xs.length = n) (h2 : ys.length = n) : Walk (ItzM K a b) n (fun H => SqL K H a xs ∧ SqT K H b ys) (YPair (fun i => xs[i]?) (fun i => ys[i]?)) where
  goes := fun i H hi ⟨q1, q2⟩ => ⟨xs, ys, xs[i]'(by omega), ys[i]'(by omega), q1, q2, by simp, by simp⟩
  stops := fun H ⟨q1, q2⟩ => ⟨xs, ys, q1, q2, by omega, h1⟩
  yields := fun i H x H' hi ⟨q1, q2⟩ ⟨T, u, v, e, n, e2, z1, z2⟩ => ⟨T, u, v, e, n, e2, z1 xs q1, z2 ys q2⟩
end PW

namespace PW
open PySem PySem.Spec PyProof.Rows L2
/-! ### zip of a list and a list or a tuple -/
def iZipG (K : PySem.W.Frag) (ta : TA) : TI := fun σ H R => ta σ H fun ws H1 => ∃ a b us vs, ws = [.ref a, .ref b] ∧ SqL K H1 a us ∧ ((SqL K H1 b vs ∧ R (Itz K a b) H1) ∨ (SqT K H1 b vs ∧ R (ItzM K a b) H1))
theorem pi_zipG {X : Cx} {K : PySem.W.Frag} {e e2 : Expr} {ta : TA} {p pos tpos : Pos} {elts : List Expr} {kk : Nat} (hg : Gl X "zip") (hm : X.mg "zip" = none) (ha : PA X [e, e2] ta) (hK : X.K = K := by rfl)
    (hs : starEach [e, e2] X.env = (false, eval e X.env) :: starEach [e2] X.env := by rfl) (hpl : (backTo pos (starEach [e2] X.env)).any (·.1) = false := by rfl) : PI X (.Tuple elts kk tpos) (.Call (.Name "zip" p) [e, e2] [] pos) (iZipG K ta) := by
  subst hK
  refine ⟨fun pins s σ H R I h => Call_ (ld_blt I hg hm PyProof.Rows.boot_zip (PyProof.Rows.callWith_type1 (thn (ha.run pos pins s σ H _ I h) fun us s1 ⟨vs, H1, I1, r1, q1⟩ => ?_) hs hpl))⟩
  obtain ⟨a, b, xs, ys, rfl, qu, q1⟩ := q1
  obtain ⟨ua, ub, rfl, ra, rb⟩ := vals2 r1
  cases ra
  cases rb
  obtain ⟨l1, k1, p1, _⟩ := I1.list qu
  have la : a < s1.heap.objs.size := p1.lt
  rcases q1 with ⟨qv, q⟩ | ⟨qv, q⟩
  · obtain ⟨l2, k2, p2, _⟩ := I1.list qv
    have lb : b < s1.heap.objs.size := p2.lt
    refine call_zip_2 p1.isList p2.isList fun h' hz hTI hTO g1 g2 hsz hk => wpAny_pyIter_zip hz ?_
    have I2 : Inv X pins σ H1 { s1 with heap := h' } := I1.kept (t' := s1.toks) hk
    refine ⟨s1.heap.objs.size + 4, [s1.heap.objs.size + 4, s1.heap.objs.size + 2, s1.heap.objs.size + 3, s1.heap.objs.size, s1.heap.objs.size + 1], _, _, H1, rfl, I2, turn_zip (PySem.W.ktu_apart _ a b la lb), ⟨hz, hTI, ⟨_, _, hTO⟩, g1, g2⟩, fun c hcm => ?_, q⟩
    have hle : s1.heap.objs.size ≤ c := by
      rcases five hcm with r | r | r | r | r <;> rw [r] <;> first | exact Nat.le_refl _ | exact Nat.le_add_right _ _
    exact I1.fpOk hle (I1.hok.fresh hle)
  · obtain ⟨l2, k2, p2, _⟩ := I1.tuple qv
    obtain ⟨o2, ho2, _⟩ := id p2
    have lb : b < s1.heap.objs.size := Heap.lt_size ho2
    refine zip_begins2 (begins_list a l1.toArray) (begins_tuple b l2.toArray) p1.isList p2 fun h' hz hTI hTO g1 g2 hsz hk => wpAny_pyIter_zip hz ?_
    have I2 : Inv X pins σ H1 { s1 with heap := h' } := I1.kept (t' := s1.toks) hk
    have S : ZipSep2 (s1.heap.objs.size + 4) (s1.heap.objs.size + 2) (s1.heap.objs.size + 3) s1.heap.objs.size (s1.heap.objs.size + 1) [s1.heap.objs.size, a] [s1.heap.objs.size + 1, b] := by
      generalize s1.heap.objs.size = n at la lb
      have la' : (a : Nat) < n := la
      have lb' : (b : Nat) < n := lb
      have e1 : ∀ k : Nat, n + k ≠ a := fun k e => Nat.lt_irrefl a (Nat.lt_of_lt_of_le la (e ▸ Nat.le_add_right n k))
      have e2 : ∀ k : Nat, n + k ≠ b := fun k e => Nat.lt_irrefl b (Nat.lt_of_lt_of_le lb (e ▸ Nat.le_add_right n k))
      exact ⟨neM (by omega), neM (by omega), neM (by omega), neM (by omega), List.mem_cons_self, notin2 (neM (by omega)) (e1 4), notin2 (neM (by omega)) (e1 3), neM (by omega), List.mem_cons_self, notin2 (neM (by omega)) (e2 4), notin2 (neM (by omega)) (e2 3), notin2 (neM (by omega)) (e2 0), notin2 (neM (by omega)) (e1 1)⟩
    refine ⟨s1.heap.objs.size + 4, [s1.heap.objs.size + 4, s1.heap.objs.size + 2, s1.heap.objs.size + 3, s1.heap.objs.size, s1.heap.objs.size + 1], _, _, H1, rfl, I2, turn_zipM S (Nat.ne_of_lt la) (Nat.ne_of_lt (Nat.lt_succ_of_lt lb)), ⟨hz, hTI, ⟨_, _, hTO⟩, ⟨_, g1, rfl, rfl⟩, ⟨_, g2, rfl, rfl⟩⟩, fun c hcm => ?_, q⟩
    have hle : s1.heap.objs.size ≤ c := by
      rcases five hcm with r | r | r | r | r <;> rw [r] <;> first | exact Nat.le_refl _ | exact Nat.le_add_right _ _
    exact I1.fpOk hle (I1.hok.fresh hle)
theorem wk_zipM {F : Fr} {O : Addr → Prop} {H : Hp} {a b : Addr} {vs ws : List V} {ds es : List D} {r : Bool} (hl : ds.length = es.length) (h1 : F.RH O H r a = some (.lst vs)) (h2 : RepL F.K (F.RH O H r) vs ds) (h3 : F.RH O H r b = some (.tup ws)) (h4 : RepL F.K (F.RH O H r) ws es) : Wk (ItzM F.K a b) (zipD r ds es) F O H := by
  have hz : (zipD r ds es).length = ds.length := by simp [zipD, hl]
  refine ⟨fun G O H => G.K = F.K ∧ (G.RH O H r a = some (.lst vs) ∧ RepL F.K (G.RH O H r) vs ds) ∧ G.RH O H r b = some (.tup ws) ∧ RepL F.K (G.RH O H r) ws es, ⟨rfl, ⟨h1, h2⟩, h3, h4⟩, fun G O H O' H' h s _ => ⟨h.1, ⟨s r _ _ h.2.1.1, h.2.1.2.mono (s r)⟩, s r _ _ h.2.2.1, h.2.2.2.mono (s r)⟩,
    fun G O H b o h hb => ⟨h.1, ⟨rh_hide hb r _ _ h.2.1.1, h.2.1.2.mono (rh_hide hb r)⟩, rh_hide hb r _ _ h.2.2.1, h.2.2.2.mono (rh_hide hb r)⟩,
    fun G O H b u o h hh hb nt => ⟨h.1, ⟨rh_hid hh hb nt r _ _ h.2.1.1, h.2.1.2.mono (rh_hid hh hb nt r)⟩, rh_hid hh hb nt r _ _ h.2.2.1, h.2.2.2.mono (rh_hid hh hb nt r)⟩, fun G O H i h hi => ?_, fun G O H i h hi => ?_, fun G O H i r' d x H' h hi y => ?_⟩
  · rw [hz, ← h2.len] at hi
    exact ⟨vs, ws, SqL.of (cut_le _ _ h.2.1.1), SqT.of (cut_le _ _ h.2.2.1), by rw [h2.len, h4.len, hl], hi.symm⟩
  · rw [hz, ← h2.len] at hi
    have g2 : i < ws.length := by
      rw [h4.len, ← hl, ← h2.len]
      exact hi
    exact ⟨vs, ws, vs[i], ws[i], SqL.of (cut_le _ _ h.2.1.1), SqT.of (cut_le _ _ h.2.2.1), by simp [hi], by simp [g2]⟩
  · obtain ⟨T, v, u, rfl, nT, rfl, y1, y2⟩ := y
    have sm : Same H (upd H T (.tup [v, u])) := same_new nT
    refine ⟨sm, ?_⟩
    unfold zipD at hi
    rw [List.getElem?_zipWith] at hi
    cases e1 : ds[i]? with
    | none =>
      rw [e1] at hi
      cases hi
    | some d1 =>
      cases e2 : es[i]? with
      | none =>
        rw [e1, e2] at hi
        cases hi
      | some d2 =>
        rw [e1, e2] at hi
        cases hi
        obtain ⟨w1, g1, g2⟩ := h.2.1.2.get e1
        obtain ⟨w2, g3, g4⟩ := h.2.2.2.get e2
        have z1 := y1 vs (SqL.of (cut_le _ _ h.2.1.1))
        have z2 := y2 ws (SqT.of (cut_le _ _ h.2.2.1))
        rw [g1] at z1
        cases z1
        rw [g3] at z2
        cases z2
        have up : Same (G.RH O H r) (G.RH O (upd H T (.tup [v, u])) r) := cut_mono (fun b u hb nb => ⟨sm _ _ hb, nb⟩) fun b xs hb _ => sm _ _ hb
        rw [h.1]
        exact .tup (cut_tup upd_same) (.cons (g2.mono up) (.one (g4.mono up)))
def dZipG (u : DAW) : DIW := fun X ρ R => u X ρ fun xs ρ1 => match sts ρ1 (xs.map DV.tmp) with
  | some (r, [.lst ds, .lst es], ρ2) => R (zipD r ds es) ρ2
  | some (r, [.lst ds, .tup es], ρ2) => ds.length = es.length ∧ R (zipD r ds es) ρ2
  | _ => False
instance {K : PySem.W.Frag} {W : WXT} {t : TA} {u : DAW} [A : DA K W t u] : DI K W (iZipG K t) (dZipG u) where
  ok := fun {F σ H ρ X R Q} hK E L h q => A.ok hK E L h fun xs ρ1 vs H1 h1 E1 s1 r1 => by
    subst hK
    split at h1
    · rename_i r ds es ρ2 e
      obtain ⟨E2, s2, p2⟩ := sts_rep E1 (dCons_tmp r1) e
      cases p2 with
      | cons g g' =>
        cases g' with
        | cons g' g'' =>
          cases g''
          cases g with
          | lst g1 g2 =>
            cases g' with
            | lst g3 g4 => exact ⟨_, _, _, _, rfl, SqL.of (cut_le _ _ g1), .inl ⟨SqL.of (cut_le _ _ g3), q _ ρ2 H1 _ h1 E2 (s1.trans s2) (wk_zip g1 g2 g3 g4)⟩⟩
    · rename_i r ds es ρ2 e
      obtain ⟨E2, s2, p2⟩ := sts_rep E1 (dCons_tmp r1) e
      cases p2 with
      | cons g g' =>
        cases g' with
        | cons g' g'' =>
          cases g''
          cases g with
          | lst g1 g2 =>
            cases g' with
            | tup g3 g4 => exact ⟨_, _, _, _, rfl, SqL.of (cut_le _ _ g1), .inr ⟨SqT.of (cut_le _ _ g3), q _ ρ2 H1 _ h1.2 E2 (s1.trans s2) (wk_zipM h1.1 g1 g2 g3 g4)⟩⟩
    · exact h1.elim
theorem pg_tupG {X : Cx} {K : PySem.W.Frag} {pos : Pos} {es : List Expr} {k : Nat} {t : TGs} {n : Nat} (hc : X.calm = true) (h : PGs X es t)
    (hn : (assignEach es X.env).length = n := by rfl) (hst : (assignEach es X.env).findIdx? (·.1) = none := by rfl) (hK : X.K = K := by rfl) : PG X (.Tuple es k pos) (gTup K n t) := by
  subst hK
  exact pg_tup hc h hn hst
/-! ### {k: v, ..} -/
abbrev DPW := XC → DEnv → (List (DV × DV) → DEnv → Prop) → Prop
class DPr (K : PySem.W.Frag) (W : WXT) (t : List (TE × TE)) (w : outParam DPW) : Prop where
  ok : ∀ {F : Fr} {σ : L2.St} {H : Hp} {ρ : DEnv} {X : XC} {R : List (DV × DV) → DEnv → Prop} {Q : List (V × V) → Hp → Prop}, F.K = K → Env F σ ρ H → XLink F W X σ ρ H → w X ρ R →
    (∀ ps ρ' vs H', R ps ρ' → Env F σ ρ' H' → Stp (OwnA σ ρ) H (OwnA σ ρ') H' → Paired (fun v p => RepV F H σ ρ' H' v.1 p.1 ∧ RepV F H σ ρ' H' v.2 p.2) vs ps → Q vs H') → tPairs t σ H Q
def dpNil : DPW := fun _ ρ R => R [] ρ
def dpCons (wk wv : DW) (u : DPW) : DPW := fun X ρ R => wk X ρ fun x ρ1 => wv X ρ1 fun y ρ2 => u X ρ2 fun ps ρ3 => R ((x.tmp, y.tmp) :: ps) ρ3
section
variable {K : PySem.W.Frag} {W : WXT}
instance : DPr K W [] dpNil where
  ok := fun {F σ H ρ X R Q} hK E L h q => q [] ρ [] H h E (.refl _ _) .nil
instance {tk tv : TE} {r : List (TE × TE)} {wk wv : DW} {u : DPW} [A : DE K W tk wk] [B : DE K W tv wv] [C : DPr K W r u] : DPr K W ((tk, tv) :: r) (dpCons wk wv u) where
  ok := fun {F σ H ρ X R Q} hK E L h q => by
    refine A.ok hK E L h fun x ρ1 v H1 h1 E1 s1 r1 => ?_
    refine B.ok hK E1 (L.stp s1) h1 fun y ρ2 w H2 h2 E2 s2 r2 => ?_
    refine C.ok hK E2 (L.stp (s1.trans s2)) h2 fun ps ρ3 vs H3 h3 E3 s3 r3 => ?_
    refine q _ ρ3 _ H3 h3 E3 ((s1.trans s2).trans s3) (.cons ⟨r1.stp E1 (s2.trans s3), r2.stp E2 s3⟩ (paired_imp (fun a b z => ⟨z.1.early (s1.trans s2), z.2.early (s1.trans s2)⟩) r3))
/-- the pairs, stored -/
def stp2 (ρ : DEnv) : List (DV × DV) → Option (Bool × List (Key × D) × DEnv)
  | [] => some (true, [], ρ)
  | (x, y) :: ps => match rd ρ x with
    | some (_, dx) => match keyOf dx with
      | some k => match st ρ y with
        | some (r, d, ρ1) => match stp2 ρ1 ps with
          | some (r', es, ρ2) => some (r && r', (k, d) :: es, ρ2)
          | none => none
        | none => none
      | none => none
    | none => none
def mergeD (es more : List (Key × D)) : List (Key × D) := more.foldl (fun acc kv => putD acc kv.1 kv.2) es
theorem merge_rep {K : PySem.W.Frag} {H : Hp} : ∀ {more : List (Key × V)} {more' : List (Key × D)}, KRep K H more more' → ∀ {kvs : List (Key × V)} {es : List (Key × D)}, KRep K H kvs es → KRep K H (mergeK kvs more) (mergeD es more') := fun {more more'} h => by
  refine h.ind (P := fun more more' => ∀ {kvs : List (Key × V)} {es : List (Key × D)}, KRep K H kvs es → KRep K H (mergeK kvs more) (mergeD es more')) (fun g => g) fun k v d m m' hv _ ih kvs es g => ?_
  exact ih (g.put k hv)
theorem stp2_rep {F : Fr} {Hs : Hp} {σ : L2.St} {H : Hp} : ∀ {vs : List (V × V)} {ps : List (DV × DV)} {ρ : DEnv} {r : Bool} {es : List (Key × D)} {ρ' : DEnv}, Env F σ ρ H → Paired (fun v p => (RepV F Hs σ ρ H v.1 p.1 ∧ p.1.tmp = p.1) ∧ RepV F Hs σ ρ H v.2 p.2 ∧ p.2.tmp = p.2) vs ps → stp2 ρ ps = some (r, es, ρ') →
    Env F σ ρ' H ∧ Stp (OwnA σ ρ) H (OwnA σ ρ') H ∧ ∃ kvs : List (Key × V), vs = kvs.map (fun kv => (kV kv.1, kv.2)) ∧ KRep F.K (F.RH (OwnA σ ρ') H r) kvs es
  | _, _, ρ, _, _, _, E, .nil, e => by
    cases e
    exact ⟨E, .refl _ _, [], rfl, .nil⟩
  | _, _, ρ, _, _, _, E, .cons (a := v) (b := p) h g, e => by
    obtain ⟨x, y⟩ := p
    obtain ⟨v1, v2⟩ := v
    simp only [stp2] at e
    split at e
    · rename_i rx dx hx
      split at e
      · rename_i k hk
        split at e
        · rename_i r d ρ1 h1
          split at e
          · rename_i r' es ρ2 h2
            cases e
            obtain ⟨E1, s1, p1⟩ := h.2.1.st E h1
            have hv1 : v1 = kV k := keyOf_v (h.1.1.top E hx) hk
            obtain ⟨E2, s2, kvs, ek, kr⟩ := stp2_rep E1 (paired_imp (fun v dv z => ⟨⟨RepV.stp0 E z.1.1 s1 z.1.2, z.1.2⟩, RepV.stp0 E z.2.1 s1 z.2.2, z.2.2⟩) g) h2
            refine ⟨E2, s1.trans s2, (k, v2) :: kvs, by rw [List.map_cons, ek, hv1], .cons ((p1.mono (E1.rh s2)).weak fun z => ?_) ⟨kr.1, kr.2.weak fun z => ?_⟩⟩
            · rw [Bool.and_eq_true] at z
              exact z.1
            · rw [Bool.and_eq_true] at z
              exact z.2
          · cases e
        · cases e
      · cases e
    · cases e
@[irreducible] def mergeC (es : List (Key × D)) : List (Key × D) := mergeD [] es
theorem mergeC_eq (es : List (Key × D)) : mergeC es = mergeD [] es := by unfold mergeC; rfl
def dDisp (u : DPW) : DW := fun X ρ R => u noX ρ fun ps ρ1 => match stp2 ρ1 (ps.map fun p => (p.1.tmp, p.2.tmp)) with
  | some (r, es, ρ2) => es.length ≤ 15 ∧ R (.fr r (.dK (mergeC es))) ρ2
  | none => False
theorem pairs_tmp {F : Fr} {Hs : Hp} {σ : L2.St} {ρ : DEnv} {H : Hp} : ∀ {vs : List (V × V)} {ps : List (DV × DV)}, Paired (fun v p => RepV F Hs σ ρ H v.1 p.1 ∧ RepV F Hs σ ρ H v.2 p.2) vs ps → Paired (fun v p => (RepV F Hs σ ρ H v.1 p.1 ∧ p.1.tmp = p.1) ∧ RepV F Hs σ ρ H v.2 p.2 ∧ p.2.tmp = p.2) vs (ps.map fun p => (p.1.tmp, p.2.tmp))
  | _, _, .nil => .nil
  | _, _, .cons (b := p) h g => by
    have one : ∀ {v : V} {x : DV}, RepV F Hs σ ρ H v x → RepV F Hs σ ρ H v x.tmp ∧ x.tmp.tmp = x.tmp := fun {v x} z => by
      cases x with
      | v r d => exact ⟨z, rfl⟩
      | al i => exact ⟨z, rfl⟩
      | fr r d => exact ⟨z.fr_rep, rfl⟩
    exact .cons ⟨one h.1, one h.2⟩ (pairs_tmp g)
instance {t : List (TE × TE)} {u : DPW} [A : DPr K W t u] : DE K W (tDisp t) (dDisp u) where
  ok := fun {F σ H ρ X R Q} hK E L h q => fun a ha => by
    obtain ⟨n0, nh, nO, npt⟩ := E.new ha
    have E1 : Env (F.hide a) σ ρ (upd H a (.dK [])) := E.hideNew ha (same_new ha) ⟨_, upd_same⟩
    refine A.ok (F := F.hide a) hK E1 XLink.no h fun ps ρ1 vs H1 h1 E2 s2 r2 => ?_
    obtain ⟨k1, k2⟩ := s2.kp a _ upd_same nO
    refine ⟨k1, ?_⟩
    split at h1
    · rename_i r es ρ2 e
      obtain ⟨E3, s3, kvs, rfl, kr⟩ := stp2_rep E2 (pairs_tmp r2) e
      refine ⟨kvs, rfl, by rw [kr.len]; exact h1.1, ?_⟩
      have nt : ∀ xs, HO.dK [] ≠ .tup xs := fun _ z => by cases z
      have E4 : Env (F.hide a) σ ρ2 (upd H1 a (.dK (mergeK [] kvs))) := E3.hidUpd n0 k1 nt
      have mr := (merge_rep kr .nil).mono (rh_hid (F := F.hide a) (o := .dK (mergeK [] kvs)) (Or.inl rfl) k1 nt r)
      have st : Stp (OwnA σ ρ) H (OwnA σ ρ2) (upd H1 a (.dK (mergeK [] kvs))) := by
        have s1 : Stp (OwnA σ ρ) H (OwnA σ ρ) (upd H a (.dK [])) := .same (same_new ha)
        exact ((s1.trans s2).trans s3).updNew ha
      refine q _ ρ2 _ _ h1.2 E4.unhide st ⟨a, rfl, ha, nh, n0, rfl, E4, ?_⟩
      rw [upd_same]
      rw [mergeC_eq]
      exact ⟨_, rfl, mr.1, mr.2⟩
    · exact h1.elim
end
end PW

namespace PW
open PySem PySem.Spec PyProof.Rows L2
/-! ### dicts by texts -/
def strE {α : Type} (f : α → D) (l : List (Str × α)) : List (Key × D) := l.map fun e => ((Sum.inr e.1 : Key), f e.2)
section
variable {α : Type} {f : α → D} {l : List (Str × α)}
theorem strE_val (nd : (l.map Prod.fst).Nodup) {e : Str × α} (h : e ∈ l) : valC (strE f l) (Sum.inr e.1) = some (f e.2) := by
  rw [valC_eq]
  unfold valD strE
  induction l with
  | nil => cases h
  | cons a l ih =>
    rw [List.map_cons, List.nodup_cons] at nd
    rw [List.map_cons, List.find?_cons]
    rcases List.mem_cons.mp h with rfl | h
    · rw [decide_eq_true (rfl : (Sum.inr e.1 : Key) = Sum.inr e.1)]
      rfl
    · have ne : ¬ (Sum.inr a.1 : Key) = Sum.inr e.1 := fun z => nd.1 (by rw [Sum.inr.inj z]; exact List.mem_map_of_mem h)
      rw [decide_eq_false ne]
      exact ih nd.2 h
theorem strE_none {x : Str} (h : x ∉ l.map Prod.fst) : valC (strE f l) (Sum.inr x) = none := by
  rw [valC_eq]
  unfold valD strE
  induction l with
  | nil => rfl
  | cons a l ih =>
    rw [List.map_cons, List.mem_cons, not_or] at h
    rw [List.map_cons, List.find?_cons, decide_eq_false (fun z => h.1 (Sum.inr.inj z).symm : ¬ (Sum.inr a.1 : Key) = Sum.inr x)]
    exact ih h.2
theorem strE_put {x : Str} {a : α} {d : D} (hd : d = f a) (h : x ∉ l.map Prod.fst) : putC (strE f l) (Sum.inr x) d = strE f (l ++ [(x, a)]) := by
  subst hd
  rw [putC_eq]
  unfold putD strE
  rw [if_neg, List.map_append]
  · rfl
  · intro z
    obtain ⟨e, he, z⟩ := List.any_eq_true.mp z
    obtain ⟨e', he', rfl⟩ := List.mem_map.mp he
    exact h (by rw [← Sum.inr.inj (of_decide_eq_true z)]; exact List.mem_map_of_mem he')
theorem strE_len : (strE f l).length = l.length := by
  unfold strE
  rw [List.length_map]
end
theorem getD_some {α : Type} {f : α → D} {l : List (Str × α)} (nd : (l.map Prod.fst).Nodup) {e : Str × α} (h : e ∈ l) (r r' : Bool) : getD (r, .dK (strE f l)) (r', .str e.1) = some (some (f e.2)) := by
  show some (valC (strE f l) (Sum.inr e.1)) = _
  rw [strE_val nd h]
theorem getD_none {α : Type} {f : α → D} {l : List (Str × α)} {x : Str} (h : x ∉ l.map Prod.fst) (r r' : Bool) : getD (r, .dK (strE f l)) (r', .str x) = some none := by
  show some (valC (strE f l) (Sum.inr x)) = _
  rw [strE_none h]
theorem while_inv {c : DTW} {tb : DSW} {X : XC} {E : DEnds} {ρ : DEnv} (V : Nat → DEnv → Prop) (m : Nat) (h0 : V m ρ) (turn : ∀ m ρ, V m ρ → c X ρ fun b ρ1 =>
  ifC b (tb X { E with nx := fun ρ' => ∃ m', m' < m ∧ V m' ρ', ct := fun ρ' => ∃ m', m' < m ∧ V m' ρ', bk := E.nx } ρ1) (E.nx ρ1)) : whileC c tb X E ρ := by
  unfold whileC
  exact ⟨V, ⟨m, h0⟩, turn⟩
/-! ### more ways on -/
theorem ifC_d {p : Prop} [Decidable p] {A B : Prop} (h1 : p → A) (h2 : ¬ p → B) : ifC (decide p) A B := ifC_of (fun e => h1 (of_decide_eq_true e)) fun e => h2 (of_decide_eq_false e)
theorem ifC_nd {p : Prop} [Decidable p] {A B : Prop} (h1 : ¬ p → A) (h2 : p → B) : ifC (!decide p) A B := ifC_of (fun e => h1 fun z => by rw [decide_eq_true z] at e; cases e) fun e => h2 (Classical.byContradiction fun z => by rw [decide_eq_false z] at e; cases e)
/-- a test of several parts: what follows where one of them fails is shown once -/
theorem ifC_s {b : Bool} {A B : Prop} {c : Prop} (hB : ¬ c → B) (hb : b = false → ¬ c) (hA : b = true → A) : ifC b A B := ifC_of hA fun e => hB (hb e)
theorem ifC_o {b : Bool} {A B : Prop} {c : Prop} (hA : c → A) (hb : b = true → c) (hB : b = false → B) : ifC b A B := ifC_of (fun e => hA (hb e)) hB
/-- a walk that carries a state -/
theorem loop_fold {α S : Type} {g : DGW} {tb : DSW} {X : XC} {E : DEnds} (f : α → Bool × D) (xs : List α) (step : S → α → S) (Iv : S → Prop) (Rf : S → DEnv → Prop) (s0 : S) {ρ : DEnv} (hi : Iv s0) (h0 : Rf s0 ρ)
    (hs : ∀ (s : S) (x : α) (ρ : DEnv) (k : DEnv → Prop), x ∈ xs → Iv s → Rf s ρ → (Iv (step s x) → ∀ ρ', Rf (step s x) ρ' → k ρ') → g (f x) ρ fun ρ1 => tb X { E with nx := k, ct := k, bk := E.nx } ρ1)
    (hv : ∀ s x, x ∈ xs → Iv s → Iv (step s x))
    (hd : ∀ ρ, Iv (xs.foldl step s0) → Rf (xs.foldl step s0) ρ → E.nx ρ) : loopC g tb X E (xs.map f) ρ := by
  refine loop_inv f xs (fun i ρ => Iv ((xs.take i).foldl step s0) ∧ Rf ((xs.take i).foldl step s0) ρ) ⟨hi, h0⟩ (fun i x ρ k hx h hk => ?_) fun ρ h => ?_
  · have hm := List.mem_of_getElem? hx
    refine hs _ x ρ k hm h.1 h.2 fun _ ρ' h' => hk ρ' ?_
    rw [List.take_add_one, hx, Option.toList_some, List.foldl_append]
    exact ⟨hv _ x hm h.1, h'⟩
  · rw [List.take_length] at h
    exact hd ρ h.1 h.2
/-- the first thing that ends a walk: found by p -/
theorem loop_find {α : Type} {g : DGW} {tb : DSW} {X : XC} {E : DEnds} (f : α → Bool × D) (xs : List α) (p : α → Bool) (Rf : DEnv → Prop) {ρ : DEnv} (h0 : Rf ρ)
    (hs : ∀ (x : α) (ρ : DEnv) (k : DEnv → Prop), x ∈ xs → Rf ρ → (p x = false → ∀ ρ', Rf ρ' → k ρ') → g (f x) ρ fun ρ1 => tb X { E with nx := k, ct := k, bk := E.nx } ρ1)
    (hd : ∀ ρ, (∀ x ∈ xs, p x = false) → Rf ρ → E.nx ρ) : loopC g tb X E (xs.map f) ρ := by
  refine loop_inv f xs (fun i ρ => (∀ x ∈ xs.take i, p x = false) ∧ Rf ρ) ⟨(fun x hx => by cases hx), h0⟩ (fun i x ρ k hx h hk => ?_) fun ρ h => ?_
  · refine hs x ρ k (List.mem_of_getElem? hx) h.2 fun e ρ' h' => hk ρ' ⟨fun y hy => ?_, h'⟩
    rw [List.take_add_one, hx, Option.toList_some] at hy
    rcases List.mem_append.mp hy with hy | hy
    · exact h.1 y hy
    · rw [List.mem_singleton.mp hy]
      exact e
  · rw [List.take_length] at h
    exact hd ρ h.1 h.2
theorem loopR {α : Type} {g : DGW} {tb : DSW} {X : XC} {E : DEnds} {f : α → Bool × D} {xs : List α} {its : Items} {ρ : DEnv} (e : its = xs.map f) (h : loopC g tb X E (xs.map f) ρ) : loopC g tb X E its ρ := e ▸ h
theorem lcR {α : Type} {g : DGW} {tt : DTW} {te : DW} {vs : List Nat} {kk : Bool → List D → DEnv → Prop} {f : α → Bool × D} {xs : List α} {its : Items} {ρ : DEnv} (e : its = xs.map f) (h : lcC g tt te vs kk (xs.map f) ρ) : lcC g tt te vs kk its ρ := e ▸ h
/-! dicts by texts: whether a text is a key -/
theorem valC_has {α : Type} {f : α → D} {l : List (Str × α)} (x : Str) : (valC (strE f l) (Sum.inr x)).isSome = decide (x ∈ l.map Prod.fst) := by
  rw [valC_eq]
  unfold valD strE
  induction l with
  | nil => rfl
  | cons a l ih =>
    rw [List.map_cons, List.find?_cons]
    by_cases h : a.1 = x
    · rw [decide_eq_true (show (Sum.inr a.1 : Key) = Sum.inr x by rw [h])]
      rw [decide_eq_true]
      · rfl
      · rw [List.map_cons, h]
        exact List.mem_cons_self
    · rw [decide_eq_false (fun z => h (Sum.inr.inj z) : ¬ (Sum.inr a.1 : Key) = Sum.inr x)]
      show (Option.map _ (List.find? _ _)).isSome = _
      rw [ih]
      rw [Bool.eq_iff_iff, decide_eq_true_iff, decide_eq_true_iff, List.map_cons, List.mem_cons]
      exact ⟨.inr, fun z => z.resolve_left fun y => h y.symm⟩
theorem ifC_key {α : Type} {f : α → D} {l : List (Str × α)} {x : Str} {A B : Prop} (h : ifC (decide (x ∈ l.map Prod.fst)) A B) : ifC (valC (strE f l) (Sum.inr x)).isSome A B := by
  rw [valC_has]
  exact h
theorem ifC_nkey {α : Type} {f : α → D} {l : List (Str × α)} {x : Str} {A B : Prop} (h : ifC (!decide (x ∈ l.map Prod.fst)) A B) : ifC (!(valC (strE f l) (Sum.inr x)).isSome) A B := by
  rw [valC_has]
  exact h
theorem atI_hd {α : Type} (x : α) (xs : List α) : atI (x :: xs) 0 = some x := atI_nat (j := 0) rfl
theorem atI_map_hd {α β : Type} (f : α → β) (x : α) (xs : List α) : atI (List.map f (x :: xs)) 0 = some (f x) := atI_nat (j := 0) rfl
def fsPoints : FS := fun ds Q _ => ∃ ns ts, ds = [webD ns ts] ∧ Q (nmsD ns)
def fsTies : FS := fun ds Q _ => ∃ ns ts, ds = [webD ns ts] ∧ Q (tiesD ts)
def fsMany : FS := fun ds Q _ => ∃ ns ts, ds = [webD ns ts] ∧ Q (.int (ts.length : Nat))
theorem call_points {ns : List Str} {ts : List (Str × Str)} {Q : D → Prop} {x : Exn → Prop} (h : Q (nmsD ns)) : fsPoints [webD ns ts] Q x := ⟨ns, ts, rfl, h⟩
theorem call_ties {ns : List Str} {ts : List (Str × Str)} {Q : D → Prop} {x : Exn → Prop} (h : Q (tiesD ts)) : fsTies [webD ns ts] Q x := ⟨ns, ts, rfl, h⟩
theorem call_many {ns : List Str} {ts : List (Str × Str)} {Q : D → Prop} {x : Exn → Prop} (h : Q (.int (ts.length : Nat))) : fsMany [webD ns ts] Q x := ⟨ns, ts, rfl, h⟩
/-! ### == of lists of names, of numbers -/
theorem py_nms (ns : List Str) : (nmsD ns).py = dS ns := by
  unfold nmsD dS
  rw [D.py, pyL_eq, List.map_map]
  have : (D.py ∘ D.str) = PyData.str := funext fun x => by
    show (D.str x).py = _
    rw [D.py]
  rw [this]
theorem pl_map {α : Type} {f : α → D} (h : ∀ x, (f x).pl = true) : ∀ xs : List α, D.plL (xs.map f) = true
  | [] => by rw [List.map_nil, D.plL]
  | x :: xs => by rw [List.map_cons, D.plL, h x, pl_map h xs]; rfl
theorem pl_nms (ns : List Str) : (nmsD ns).pl = true := by
  unfold nmsD
  rw [D.pl]
  exact pl_map (fun x => by rw [D.pl]) ns
theorem eqC_nms {ns ms : List Str} {k : Bool → Prop} (h1 : ∀ x ∈ ns, IsName x) (h2 : ∀ x ∈ ms, IsName x) (h : k (decide (ns = ms))) : eqC (nmsD ns) (nmsD ms) k := by
  refine eqC_plain (n := 1) (m := 1) (pl_nms _) (pl_nms _) (by rw [py_nms]; exact plain_dS h1) (by rw [py_nms]; exact plain_dS h2) (by decide) (by decide) fun b hb => ?_
  have : b = decide (ns = ms) := by
    rw [Bool.eq_iff_iff, hb, decide_eq_true_iff, py_nms, py_nms]
    exact ⟨fun e => map_inj (fun a b e => PyData.str.inj e) (PyData.list.inj e), fun e => by rw [e]⟩
  rw [this]
  exact h
theorem py_ints (ns : List Int) : (intsL ns).py = dI ns := by
  unfold intsL dI
  rw [D.py, pyL_eq, List.map_map]
  have : (D.py ∘ D.int) = PyData.int := funext fun x => by
    show (D.int x).py = _
    rw [D.py]
  rw [this]
theorem pl_ints (ns : List Int) : (intsL ns).pl = true := by
  unfold intsL
  rw [D.pl]
  exact pl_map (fun x => by rw [D.pl]) ns
theorem eqC_intsL {ns ms : List Int} {k : Bool → Prop} (h : k (decide (ns = ms))) : eqC (intsL ns) (intsL ms) k := by
  refine eqC_plain (n := 1) (m := 1) (pl_ints _) (pl_ints _) (by rw [py_ints]; exact plain_dI _) (by rw [py_ints]; exact plain_dI _) (by decide) (by decide) fun b hb => ?_
  have : b = decide (ns = ms) := by
    rw [Bool.eq_iff_iff, hb, decide_eq_true_iff, py_ints, py_ints]
    exact ⟨fun e => map_inj (fun a b e => PyData.int.inj e) (PyData.list.inj e), fun e => by rw [e]⟩
  rw [this]
  exact h
theorem imm_intsT (ps : List Int) : (D.tup (ps.map D.int)).imm = true := by
  rw [D.imm]
  exact immL_int _
theorem seqIx {i : Int} {n : Nat} (h0 : 0 ≤ i) (h1 : i < n) : seqIndex? i n = some i.toNat := by
  unfold seqIndex?
  simp only [Int.not_lt.mpr h0, if_false]
  rw [if_pos (by simp [h0, h1])]
theorem seqIx0 {α : Type} (x : α) (xs : List α) : seqIndex? 0 (x :: xs).length = some 0 := seqIx (by omega) (by rw [List.length_cons]; omega)
theorem zipD_tie (r : Bool) (ts : List (Str × Str)) (ps : List Int) : zipD r (ts.map tieD) (ps.map D.int) = (List.zip ts ps).map fun p => (r, .tup [tieD p.1, .int p.2]) := by
  unfold zipD
  rw [List.zipWith_map, List.zip, List.map_zipWith]
theorem nms_app (xs : List Str) (x : Str) : nmsD (xs ++ [x]) = .lst (xs.map D.str ++ [.str x]) := by
  unfold nmsD
  rw [List.map_append]
  rfl
end PW

namespace PW
open PySem PySem.Spec PyProof.Rows L2
/-! ### small things about data, for the draws -/
theorem atI_mapN {α β : Type} (f : α → β) {xs : List α} {i : Int} {x : α} (h0 : 0 ≤ i) (h : xs[i.toNat]? = some x) : atI (xs.map f) i = some (f x) := by
  refine atI_of (show i = ((i.toNat : Nat) : Int) by omega) ?_
  rw [List.getElem?_map, h]
  rfl
theorem atI_N {α : Type} {xs : List α} {i : Int} {x : α} (h0 : 0 ≤ i) (h : xs[i.toNat]? = some x) : atI xs i = some x := atI_of (show i = ((i.toNat : Nat) : Int) by omega) h
/-- the tie from the one ahead (the last, ahead of the first) to the k-th -/
theorem ring_atD {xs : List Str} (hn : 2 ≤ xs.length) (nd : xs.Nodup) {k : Int} (h0 : 0 ≤ k) (h1 : k < xs.length) :
    ∃ x y, atI (xs.map D.str) (k - 1) = some (.str x) ∧ atI (xs.map D.str) k = some (.str y) ∧ TieOk xs (x, y) := by
  obtain ⟨x, y, e1, e2, ok⟩ := ring_at hn nd h0 h1
  have key : ∀ {i : Int} {z : Str}, atI (xs.map V.str) i = some (.str z) → atI (xs.map D.str) i = some (.str z) := fun {i z} e => by
    unfold atI at e ⊢
    rw [List.length_map] at e ⊢
    cases q : ixN xs.length i with
    | none =>
      rw [q] at e
      cases e
    | some j =>
      rw [q] at e
      have e : (xs.map V.str)[j]? = some (.str z) := e
      show (xs.map D.str)[j]? = some (.str z)
      rw [List.getElem?_map] at e ⊢
      cases w : xs[j]? with
      | none =>
        rw [w] at e
        cases e
      | some u =>
        rw [w] at e
        cases e
        rfl
  exact ⟨x, y, key e1, key e2, ok⟩
theorem cutD_from {α : Type} {xs : List α} {n : Nat} (h : n ≤ xs.length) : cutD xs (some (n : Int)) none = xs.drop n := by
  unfold cutD
  rw [HT.sIx_nat, HT.sIx_none, Nat.min_eq_left h]
  exact List.take_of_length_le (by rw [List.length_drop]; exact Nat.le_refl _)
theorem cutD_to {α : Type} {xs : List α} {n : Nat} : cutD xs none (some (n : Int)) = xs.take n := by
  unfold cutD
  rw [HT.sIx_nat, HT.sIx_none, List.drop_zero, Nat.sub_zero]
  by_cases h : n ≤ xs.length
  · rw [Nat.min_eq_left h]
  · rw [Nat.min_eq_right (by omega), List.take_length, List.take_of_length_le (by omega)]
theorem rep_flat {α : Type} (n : Nat) (x : α) : (List.replicate n [x]).flatten = List.replicate n x := by
  induction n with
  | zero => rfl
  | succ n ih => rw [List.replicate_succ, List.flatten_cons, ih, List.replicate_succ]; rfl
theorem perm_strs {ys : List D} {ns : List Str} (h : ys.Perm (ns.map D.str)) : ∃ rs : List Str, ys = rs.map D.str ∧ rs.Perm ns := perm_of_map h ns rfl
theorem ties_app (ts : List (Str × Str)) (t : Str × Str) : tiesD (ts ++ [t]) = .lst (ts.map tieD ++ [tieD t]) := by
  unfold tiesD
  rw [List.map_append]
  rfl
/-- by a draw for each number -/
theorem lc_drawnR {β : Type} {g : DGW} {tt : DTW} {te : DW} {vs : List Nat} {kk : Bool → List D → DEnv → Prop} (lo : Int) (n : Nat) (Rl : Nat → β → Prop) (h : β → D) {ρ : DEnv}
    (hs : ∀ i, i < n → ∀ (k1 : Bool → D → DEnv → Prop) (k2 : DEnv → Prop), (∀ y, Rl i y → k1 true (h y) ρ) → lcTurn g tt te vs (true, .int (lo + (i : Nat))) ρ k1 k2)
    (hd : ∀ ys : List β, ys.length = n → (∀ (i : Nat) (y : β), ys[i]? = some y → Rl i y) → kk true (ys.map h) ρ) : lcC g tt te vs kk (rangeD lo n) ρ := by
  unfold rangeD
  refine lc_drawn (fun i : Nat => (true, D.int (lo + (i : Nat)))) (List.range n) Rl h (fun i hi k1 k2 z => hs i (List.mem_range.mp hi) k1 k2 z) fun ys hl hy => hd ys (by rw [hl, List.length_range]) fun i y e => ?_
  have hi : i < n := by
    have := (List.getElem?_eq_some_iff.mp e).1
    rw [hl, List.length_range] at this
    exact this
  exact hy i i y (by rw [List.getElem?_range hi]) e
/-- by all numbers -/
theorem lc_mapR {g : DGW} {tt : DTW} {te : DW} {vs : List Nat} {kk : Bool → List D → DEnv → Prop} (lo : Int) (n : Nat) (h : Nat → D) {ρ : DEnv}
    (hs : ∀ i, i < n → ∀ (k1 : Bool → D → DEnv → Prop) (k2 : DEnv → Prop), k1 true (h i) ρ → lcTurn g tt te vs (true, .int (lo + (i : Nat))) ρ k1 k2)
    (hd : kk true ((List.range n).map h) ρ) : lcC g tt te vs kk (rangeD lo n) ρ := by
  unfold rangeD
  exact lc_map (fun i : Nat => (true, D.int (lo + (i : Nat)))) (List.range n) h (fun i hi k1 k2 z => hs i (List.mem_range.mp hi) k1 k2 z) hd
end PW

namespace PW
open PySem PySem.Spec PyProof.Rows L2
/-! ### loops, the frame told by what changes -/
def upF : DEnv → List (Nat × Option Sl) → DEnv
  | ρ, [] => ρ
  | ρ, (i, s) :: l => upF (ρ.set i s) l
theorem loopU {α : Type} {g : DGW} {tb : DSW} {X : XC} {E : DEnds} (f : α → Bool × D) (xs : List α) (Pv : DEnv → Nat → DEnv → Prop) {ρ : DEnv} (h0 : Pv ρ 0 ρ)
    (hs : ∀ (i : Nat) (x : α) (ρ' : DEnv) (k : DEnv → Prop), xs[i]? = some x → Pv ρ i ρ' → (∀ ρ2, Pv ρ (i + 1) ρ2 → k ρ2) → g (f x) ρ' fun ρ1 => tb X { E with nx := k, ct := k, bk := E.nx } ρ1)
    (hd : ∀ ρ', Pv ρ xs.length ρ' → E.nx ρ') : loopC g tb X E (xs.map f) ρ := loop_inv f xs (Pv ρ) h0 hs hd
theorem rangeU {g : DGW} {tb : DSW} {X : XC} {E : DEnds} (lo : Int) (n : Nat) (Pv : DEnv → Nat → DEnv → Prop) {ρ : DEnv} (h0 : Pv ρ 0 ρ)
    (hs : ∀ (i : Nat) (ρ' : DEnv) (k : DEnv → Prop), i < n → Pv ρ i ρ' → (∀ ρ2, Pv ρ (i + 1) ρ2 → k ρ2) → g (true, .int (lo + (i : Nat))) ρ' fun ρ1 => tb X { E with nx := k, ct := k, bk := E.nx } ρ1)
    (hd : ∀ ρ', Pv ρ n ρ' → E.nx ρ') : loopC g tb X E (rangeD lo n) ρ := range_inv lo n (Pv ρ) h0 hs hd
theorem foldU {α S : Type} {g : DGW} {tb : DSW} {X : XC} {E : DEnds} (f : α → Bool × D) (xs : List α) (step : S → α → S) (Iv : S → Prop) (Rf : DEnv → S → DEnv → Prop) (s0 : S) {ρ : DEnv} (hi : Iv s0) (h0 : Rf ρ s0 ρ)
    (hs : ∀ (s : S) (x : α) (ρ' : DEnv) (k : DEnv → Prop), x ∈ xs → Iv s → Rf ρ s ρ' → (Iv (step s x) → ∀ ρ2, Rf ρ (step s x) ρ2 → k ρ2) → g (f x) ρ' fun ρ1 => tb X { E with nx := k, ct := k, bk := E.nx } ρ1)
    (hv : ∀ s x, x ∈ xs → Iv s → Iv (step s x))
    (hd : ∀ ρ', Iv (xs.foldl step s0) → Rf ρ (xs.foldl step s0) ρ' → E.nx ρ') : loopC g tb X E (xs.map f) ρ := loop_fold f xs step Iv (Rf ρ) s0 hi h0 hs hv hd
theorem findU {α : Type} {g : DGW} {tb : DSW} {X : XC} {E : DEnds} (f : α → Bool × D) (xs : List α) (p : α → Bool) (Rf : DEnv → DEnv → Prop) {ρ : DEnv} (h0 : Rf ρ ρ)
    (hs : ∀ (x : α) (ρ' : DEnv) (k : DEnv → Prop), x ∈ xs → Rf ρ ρ' → (p x = false → ∀ ρ2, Rf ρ ρ2 → k ρ2) → g (f x) ρ' fun ρ1 => tb X { E with nx := k, ct := k, bk := E.nx } ρ1)
    (hd : ∀ ρ', (∀ x ∈ xs, p x = false) → Rf ρ ρ' → E.nx ρ') : loopC g tb X E (xs.map f) ρ := loop_find f xs p (Rf ρ) h0 hs hd
theorem whileU {c : DTW} {tb : DSW} {X : XC} {E : DEnds} {ρ : DEnv} (V : DEnv → Nat → DEnv → Prop) (m : Nat) (h0 : V ρ m ρ) (turn : ∀ m ρ', V ρ m ρ' → c X ρ' fun b ρ1 =>
  ifC b (tb X { E with nx := fun ρ2 => ∃ m', m' < m ∧ V ρ m' ρ2, ct := fun ρ2 => ∃ m', m' < m ∧ V ρ m' ρ2, bk := E.nx } ρ1) (E.nx ρ1)) : whileC c tb X E ρ := while_inv (V ρ) m h0 turn
/-! ### truths told -/
theorem blq {R : D → Prop} {b c : Bool} (e : b = c) (q : R (.bl c)) : R (.bl (negB false b)) := by
  rw [e]
  exact q
theorem blqn {R : D → Prop} {b c : Bool} (e : b = !c) (q : R (.bl c)) : R (.bl (negB true b)) := by
  rw [e]
  cases c <;> exact q
theorem blq0 {R : D → Prop} {b c : Bool} (e : b = c) (q : R (.bl c)) : R (.bl b) := by
  rw [e]
  exact q
theorem npx {e : Bool × D} {ps : List (Bool × D)} (h : noPotL [e] = true) (g : noPotL ps = true) : noPotL (e :: ps) = true := by
  unfold noPotL at h g ⊢
  rw [List.all_cons] at h ⊢
  rw [Bool.and_eq_true] at h ⊢
  exact ⟨h.1, g⟩
/-- a slot that has nothing to itself -/
def slN (s : Option Sl) : Bool := match (some s : Option (Option Sl)) with
  | some (some (.ow _ _)) => false
  | _ => true
/-! the frame written out -/
theorem frL {g : DGW} {tb : DSW} {X : XC} {E : DEnds} {items : Items} {ρ : DEnv} (ρ' : DEnv) (e : ρ = ρ') (h : loopC g tb X E items ρ') : loopC g tb X E items ρ := e ▸ h
theorem frWh {c : DTW} {tb : DSW} {X : XC} {E : DEnds} {ρ : DEnv} (ρ' : DEnv) (e : ρ = ρ') (h : whileC c tb X E ρ') : whileC c tb X E ρ := e ▸ h
theorem frS {w : DSW} {X : XC} {E : DEnds} {ρ : DEnv} (ρ' : DEnv) (e : ρ = ρ') (h : w X E ρ') : w X E ρ := e ▸ h
/-! ### enumerate -/
theorem enumD_map {α : Type} (r : Bool) (e : α → D) (xs : List α) : enumD r (xs.map e) = xs.zipIdx.map fun p => (r, D.tup [.int (p.2 : Nat), e p.1]) := by
  unfold enumD
  refine List.ext_getElem? fun i => ?_
  rw [List.getElem?_zipWith, List.getElem?_map, List.getElem?_map, List.getElem?_zipIdx, List.length_map]
  cases h : xs[i]? with
  | none =>
    have hl := List.getElem?_eq_none_iff.mp h
    rw [List.getElem?_eq_none (by rw [List.length_range]; exact hl)]
    rfl
  | some x =>
    have hl := (List.getElem?_eq_some_iff.mp h).1
    rw [List.getElem?_range hl]
    show some _ = some _
    congr 2
    simp
theorem zipIdx_at {α : Type} {xs : List α} {i : Nat} {p : α × Nat} (h : xs.zipIdx[i]? = some p) : xs[i]? = some p.1 ∧ p.2 = i := by
  rw [List.getElem?_zipIdx] at h
  cases e : xs[i]? with
  | none =>
    rw [e] at h
    cases h
  | some x =>
    rw [e] at h
    cases h
    exact ⟨rfl, by simp⟩
theorem loopE {α : Type} {g : DGW} {tb : DSW} {X : XC} {E : DEnds} {r : Bool} (e : α → D) (xs : List α) (Pv : DEnv → Nat → DEnv → Prop) {ρ : DEnv} (h0 : Pv ρ 0 ρ)
    (hs : ∀ (i : Nat) (x : α) (ρ' : DEnv) (k : DEnv → Prop), xs[i]? = some x → Pv ρ i ρ' → (∀ ρ2, Pv ρ (i + 1) ρ2 → k ρ2) → g (r, .tup [.int (i : Nat), e x]) ρ' fun ρ1 => tb X { E with nx := k, ct := k, bk := E.nx } ρ1)
    (hd : ∀ ρ', Pv ρ xs.length ρ' → E.nx ρ') : loopC g tb X E (enumD r (xs.map e)) ρ := by
  rw [enumD_map]
  refine loopU (fun p : α × Nat => (r, D.tup [.int (p.2 : Nat), e p.1])) xs.zipIdx Pv h0 (fun i p ρ' k hp h hk => ?_) fun ρ' h => hd ρ' (by rw [List.length_zipIdx] at h; exact h)
  obtain ⟨h1, h2⟩ := zipIdx_at hp
  have := hs i p.1 ρ' k h1 h hk
  rw [h2]
  exact this
/-- the places at which p holds, rising -/
def idxs {α : Type} (p : Nat → α → Bool) (xs : List α) : List Nat := (xs.zipIdx.filter fun q => p q.2 q.1).map (·.2)
theorem mem_idxs {α : Type} {p : Nat → α → Bool} {xs : List α} {i : Nat} : i ∈ idxs p xs ↔ ∃ x, xs[i]? = some x ∧ p i x = true := by
  unfold idxs
  rw [List.mem_map]
  constructor
  · rintro ⟨q, hq, rfl⟩
    rw [List.mem_filter] at hq
    obtain ⟨j, hj⟩ := List.getElem?_of_mem hq.1
    obtain ⟨h1, h2⟩ := zipIdx_at hj
    exact ⟨q.1, by rw [h2]; exact h1, hq.2⟩
  · rintro ⟨x, hx, hp⟩
    refine ⟨(x, i), List.mem_filter.mpr ⟨List.mem_of_getElem? (i := i) ?_, hp⟩, rfl⟩
    rw [List.getElem?_zipIdx, hx]
    simp
theorem idxs_len {α : Type} (p : Nat → α → Bool) (xs : List α) : (idxs p xs).length ≤ xs.length := by
  unfold idxs
  rw [List.length_map]
  exact Nat.le_trans (List.length_filter_le ..) (by rw [List.length_zipIdx]; exact Nat.le_refl _)
theorem lcE {α : Type} {g : DGW} {tt : DTW} {te : DW} {vs : List Nat} {kk : Bool → List D → DEnv → Prop} {r : Bool} (e : α → D) (xs : List α) (p : Nat → α → Bool) (h : Nat → α → D) {ρ : DEnv}
    (hs : ∀ i x, xs[i]? = some x → ∀ (k1 : Bool → D → DEnv → Prop) (k2 : DEnv → Prop), (p i x = true → k1 true (h i x) ρ) → (p i x = false → k2 ρ) → lcTurn g tt te vs (r, .tup [.int (i : Nat), e x]) ρ k1 k2)
    (hd : kk true ((xs.zipIdx.filter fun q => p q.2 q.1).map fun q => h q.2 q.1) ρ) : lcC g tt te vs kk (enumD r (xs.map e)) ρ := by
  rw [enumD_map]
  refine lc_pure (fun q : α × Nat => (r, D.tup [.int (q.2 : Nat), e q.1])) xs.zipIdx (fun q => p q.2 q.1) (fun q => h q.2 q.1) (fun q hq k1 k2 h1 h2 => ?_) hd
  obtain ⟨i, hi⟩ := List.getElem?_of_mem hq
  obtain ⟨e1, e2⟩ := zipIdx_at hi
  have := hs i q.1 e1 k1 k2
  rw [← e2] at this
  exact this h1 h2
/-- [i for i, x in enumerate(xs) if p] -/
theorem lcEi {α : Type} {g : DGW} {tt : DTW} {te : DW} {vs : List Nat} {kk : Bool → List D → DEnv → Prop} {r : Bool} (e : α → D) (xs : List α) (p : Nat → α → Bool) {ρ : DEnv}
    (hs : ∀ i x, xs[i]? = some x → ∀ (k1 : Bool → D → DEnv → Prop) (k2 : DEnv → Prop), (p i x = true → k1 true (.int (i : Nat)) ρ) → (p i x = false → k2 ρ) → lcTurn g tt te vs (r, .tup [.int (i : Nat), e x]) ρ k1 k2)
    (hd : kk true ((idxs p xs).map fun i : Nat => D.int i) ρ) : lcC g tt te vs kk (enumD r (xs.map e)) ρ := by
  refine lcE e xs p (fun i _ => .int (i : Nat)) hs ?_
  unfold idxs at hd
  rw [List.map_map] at hd
  exact hd
/-- [h(i) for i in range(..) if p(i)] -/
theorem lc_pureR {g : DGW} {tt : DTW} {te : DW} {vs : List Nat} {kk : Bool → List D → DEnv → Prop} (lo : Int) (n : Nat) (p : Nat → Bool) (h : Nat → D) {ρ : DEnv}
    (hs : ∀ i, i < n → ∀ (k1 : Bool → D → DEnv → Prop) (k2 : DEnv → Prop), (p i = true → k1 true (h i) ρ) → (p i = false → k2 ρ) → lcTurn g tt te vs (true, .int (lo + (i : Nat))) ρ k1 k2)
    (hd : kk true (((List.range n).filter p).map h) ρ) : lcC g tt te vs kk (rangeD lo n) ρ := by
  unfold rangeD
  exact lc_pure (fun i : Nat => (true, D.int (lo + (i : Nat)))) (List.range n) p h (fun i hi k1 k2 h1 h2 => hs i (List.mem_range.mp hi) k1 k2 h1 h2) hd
/-! a comprehension's frame written out -/
theorem frC {g : DGW} {tt : DTW} {te : DW} {vs : List Nat} {kk : Bool → List D → DEnv → Prop} {its : Items} {ρ : DEnv} (ρ' : DEnv) (e : ρ = ρ') (h : lcC g tt te vs kk its ρ') : lcC g tt te vs kk its ρ := e ▸ h
theorem frG {g : DGW} {p : Bool × D} {ρ : DEnv} {R : DEnv → Prop} (ρ' : DEnv) (e : ρ = ρ') (h : g p ρ' R) : g p ρ R := e ▸ h
theorem frT {c : DTW} {X : XC} {ρ : DEnv} {R : Bool → DEnv → Prop} (ρ' : DEnv) (e : ρ = ρ') (h : c X ρ' R) : c X ρ R := e ▸ h
end PW

namespace PW
open PySem PySem.Spec PyProof.Rows L2
/-! ### == of plain data is = -/
inductive PlD : Nat → D → Prop
  | str {n : Nat} {x : Str} : PyData.strOk x = true → PlD n (.str x)
  | int {n : Nat} (i : Int) : PlD n (.int i)
  | non {n : Nat} : PlD n .non
  | lst {n : Nat} {ds : List D} : (∀ d, d ∈ ds → PlD n d) → PlD (n + 1) (.lst ds)
  | tup {n : Nat} {ds : List D} : (∀ d, d ∈ ds → PlD n d) → PlD (n + 1) (.tup ds)
theorem plL_all {ds : List D} (h : ∀ d, d ∈ ds → d.pl = true) : D.plL ds = true := by
  induction ds with
  | nil => rw [D.plL]
  | cons x r ih => rw [D.plL, h x List.mem_cons_self, ih fun d hd => h d (List.mem_cons_of_mem _ hd)]; rfl
theorem PlD.ok {n : Nat} {d : D} (h : PlD n d) : d.pl = true ∧ Plain n d.py := by
  induction h with
  | str e => exact ⟨by rw [D.pl], by rw [D.py]; exact .str e⟩
  | int i => exact ⟨by rw [D.pl], by rw [D.py]; exact .int i⟩
  | non => exact ⟨by rw [D.pl], by rw [D.py]; exact .non⟩
  | lst h ih =>
    refine ⟨by rw [D.pl]; exact plL_all fun d hd => (ih d hd).1, ?_⟩
    rw [D.py, pyL_eq]
    exact .list fun p hp => by
      obtain ⟨d, hd, rfl⟩ := List.mem_map.mp hp
      exact (ih d hd).2
  | tup h ih =>
    refine ⟨by rw [D.pl]; exact plL_all fun d hd => (ih d hd).1, ?_⟩
    rw [D.py, pyL_eq]
    exact .tuple fun p hp => by
      obtain ⟨d, hd, rfl⟩ := List.mem_map.mp hp
      exact (ih d hd).2
theorem py_lists {ds es : List D} (h : ∀ d, d ∈ ds → ∀ e, e ∈ es → d.py = e.py → d = e) (q : ds.map D.py = es.map D.py) : ds = es := by
  induction ds generalizing es with
  | nil =>
    cases es with
    | nil => rfl
    | cons e es => cases q
  | cons d ds ih =>
    cases es with
    | nil => cases q
    | cons e es =>
      rw [List.map_cons, List.map_cons] at q
      injection q with q1 q2
      rw [h d List.mem_cons_self e List.mem_cons_self q1, ih (fun x hx y hy => h x (List.mem_cons_of_mem _ hx) y (List.mem_cons_of_mem _ hy)) q2]
theorem PlD.inj {n : Nat} {d : D} (h : PlD n d) : ∀ {m : Nat} {e : D}, PlD m e → d.py = e.py → d = e := by
  induction h with
  | str x => intro m e g q; cases g <;> simp [D.py] at q ⊢ <;> exact q
  | int i => intro m e g q; cases g <;> simp [D.py] at q ⊢ <;> exact q
  | non => intro m e g q; cases g <;> simp [D.py] at q ⊢
  | lst h ih =>
    intro m e g q
    cases g with
    | lst g =>
      rw [D.py, D.py, pyL_eq, pyL_eq] at q
      rw [py_lists (fun d hd e he z => ih d hd (g e he) z) (PyData.list.inj q)]
    | _ => simp [D.py] at q
  | tup h ih =>
    intro m e g q
    cases g with
    | tup g =>
      rw [D.py, D.py, pyL_eq, pyL_eq] at q
      rw [py_lists (fun d hd e he z => ih d hd (g e he) z) (PyData.tuple.inj q)]
    | _ => simp [D.py] at q
theorem eqC_pl {d e : D} {n m : Nat} {k : Bool → Prop} (h1 : PlD n d) (h2 : PlD m e) (hn : n ≤ 64) (hm : m ≤ 64) (h : ∀ b : Bool, (b = true ↔ d = e) → k b) : eqC d e k :=
  eqC_plain h1.ok.1 h2.ok.1 h1.ok.2 h2.ok.2 hn hm fun b hb => h b ⟨fun z => h1.inj h2 (hb.mp z), fun z => hb.mpr (by rw [z])⟩
theorem eqC_t {d : D} {n : Nat} {k : Bool → Prop} (h1 : PlD n d) (hn : n ≤ 64) (h : k true) : eqC d d k := eqC_pl h1 h1 hn hn fun b hb => by
  rw [hb.mpr rfl]
  exact h
theorem eqC_f {d e : D} {n m : Nat} {k : Bool → Prop} (h1 : PlD n d) (h2 : PlD m e) (hn : n ≤ 64) (hm : m ≤ 64) (ne : d ≠ e) (h : k false) : eqC d e k := eqC_pl h1 h2 hn hm fun b hb => by
  cases b with
  | true => exact absurd (hb.mp rfl) ne
  | false => exact h
theorem name_strOk {x : Str} (h : IsName x) : PyData.strOk x = true := by
  have := plain_dS (xs := [x]) fun y hy => by rw [List.mem_singleton.mp hy]; exact h
  cases this with
  | list g =>
    cases g _ (List.mem_cons_self) with
    | str e => exact e
theorem PlD.nms {ns : List Str} (h : ∀ x ∈ ns, IsName x) {n : Nat} : PlD (n + 1) (nmsD ns) := .lst fun d hd => by
  obtain ⟨x, hx, rfl⟩ := List.mem_map.mp hd
  exact .str (name_strOk (h x hx))
theorem PlD.tie {t : Str × Str} (h : IsName t.1 ∧ IsName t.2) {n : Nat} : PlD (n + 1) (tieD t) := .tup fun d hd => by
  rcases List.mem_cons.mp hd with rfl | hd
  · exact .str (name_strOk h.1)
  · rw [List.mem_singleton.mp hd]
    exact .str (name_strOk h.2)
theorem PlD.ties {ts : List (Str × Str)} (h : ∀ t ∈ ts, IsName t.1 ∧ IsName t.2) {n : Nat} : PlD (n + 2) (tiesD ts) := .lst fun d hd => by
  obtain ⟨t, ht, rfl⟩ := List.mem_map.mp hd
  exact .tie (h t ht)
theorem PlD.nil {n : Nat} : PlD (n + 1) (.lst []) := .lst fun d hd => by cases hd
theorem PlD.ints {ns : List Int} {n : Nat} : PlD (n + 1) (intsL ns) := .lst fun d hd => by
  obtain ⟨x, hx, rfl⟩ := List.mem_map.mp hd
  exact .int x
theorem nmsD_inj {ns ms : List Str} (h : nmsD ns = nmsD ms) : ns = ms := by
  unfold nmsD at h
  exact map_inj (fun a b z => by cases z; rfl) (D.lst.inj h)
theorem tieD_inj {t u : Str × Str} (h : tieD t = tieD u) : t = u := by
  unfold tieD at h
  simp only [D.tup.injEq, List.cons.injEq, D.str.injEq, and_true] at h
  exact Prod.ext h.1 h.2
theorem tiesD_inj {ts us : List (Str × Str)} (h : tiesD ts = tiesD us) : ts = us := by
  unfold tiesD at h
  exact map_inj (fun a b z => tieD_inj z) (D.lst.inj h)
theorem eqC_bls {bs cs : List Bool} {k : Bool → Prop} (h : k (decide (bs = cs))) : eqC (.lst (bs.map D.bl)) (.lst (cs.map D.bl)) k := by
  have okb : ∀ xs : List Bool, (D.lst (xs.map D.bl)).okD := fun xs => by
    have hpl : D.plL (xs.map D.bl) = true := plL_all fun d hd => by
      obtain ⟨b, _, rfl⟩ := List.mem_map.mp hd
      rw [D.pl]
    refine ⟨by rw [D.pl]; exact hpl, ?_⟩
    unfold SeqAt.shaped
    have e : (D.lst (xs.map D.bl)).py = .list (xs.map PyData.bool) := by
      rw [D.py, pyL_eq, List.map_map]
      refine congrArg PyData.list (List.map_congr_left fun b _ => ?_)
      show (D.bl b).py = _
      rw [D.py]
    have e1 : (PyData.list (xs.map PyData.bool)).canLay0 = true := lay_all fun d hd => by
      obtain ⟨b, _, rfl⟩ := List.mem_map.mp hd
      rfl
    have e2 : (PyData.list (xs.map PyData.bool)).depth ≤ 64 := by
      show PyData.depthAll _ + 1 ≤ 64
      have := depth_all (n := 0) (ds := xs.map PyData.bool) fun d hd => by
        obtain ⟨b, _, rfl⟩ := List.mem_map.mp hd
        exact Nat.le_refl _
      omega
    rw [e, e1, decide_eq_true e2]
    rfl
  unfold eqC
  refine .inr ⟨okb bs, okb cs, ?_⟩
  have e : PyData.eqv (D.lst (bs.map D.bl)).py (D.lst (cs.map D.bl)).py = decide (bs = cs) := by
    have e0 : ∀ xs : List Bool, (D.lst (xs.map D.bl)).py = .list (xs.map PyData.bool) := fun xs => by
      rw [D.py, pyL_eq, List.map_map]
      refine congrArg PyData.list (List.map_congr_left fun b _ => ?_)
      show (D.bl b).py = _
      rw [D.py]
    rw [e0, e0, PyData.eqv, Bool.eq_iff_iff, eqvAll_iff, decide_eq_true_iff]
    · exact ⟨fun z => map_inj (fun a b q => PyData.bool.inj q) z, fun z => by rw [z]⟩
    · intro d hd e he
      obtain ⟨b, _, rfl⟩ := List.mem_map.mp hd
      obtain ⟨c, _, rfl⟩ := List.mem_map.mp he
      rw [PyData.eqv, beq_iff_eq]
      exact ⟨fun z => by rw [z], fun z => PyData.bool.inj z⟩
  rw [e]
  exact h
theorem eqC_blsF {α β : Type} {f : α → Bool} {g : β → Bool} {xs : List α} {ys : List β} {k : Bool → Prop} (h : k (decide (xs.map f = ys.map g))) : eqC (.lst (xs.map fun x => D.bl (f x))) (.lst (ys.map fun x => D.bl (g x))) k := by
  have := eqC_bls h
  rw [List.map_map, List.map_map] at this
  exact this
/-- names of one letter -/
theorem name1 {c : Nat} (h : Code c) : IsName (SX.S [c]) := ⟨[c], rfl, Nat.le_refl 1, Nat.le_add_left 1 3, fun x hx => by rw [List.mem_singleton.mp hx]; exact h⟩
theorem PlD.strs {xs : List Str} (h : ∀ x ∈ xs, PyData.strOk x = true) {n : Nat} : PlD (n + 1) (.lst (xs.map D.str)) := .lst fun d hd => by
  obtain ⟨x, hx, rfl⟩ := List.mem_map.mp hd
  exact .str (h x hx)
theorem perm_unmap {α : Type} {f : α → D} {zs ys : List D} (h : zs.Perm ys) : ∀ xs : List α, zs = xs.map f → ∃ us : List α, us.Perm xs ∧ ys = us.map f := by
  induction h with
  | nil =>
    intro xs e
    have : xs = [] := List.map_eq_nil_iff.mp e.symm
    subst this
    exact ⟨[], .nil, rfl⟩
  | cons d _ ih =>
    intro xs e
    cases xs with
    | nil => cases e
    | cons x xs =>
      rw [List.map_cons] at e
      injection e with e1 e2
      obtain ⟨us, h1, h2⟩ := ih xs e2
      exact ⟨x :: us, .cons x h1, by rw [List.map_cons, ← e1, h2]⟩
  | swap a b l =>
    intro xs e
    match xs, e with
    | x :: y :: xs, e =>
      rw [List.map_cons, List.map_cons] at e
      injection e with e1 e2
      injection e2 with e2 e3
      exact ⟨y :: x :: xs, .swap .., by rw [List.map_cons, List.map_cons, ← e1, ← e2, ← e3]⟩
    | [_], e => simp at e
    | [], e => cases e
  | trans _ _ ih1 ih2 =>
    intro xs e
    obtain ⟨us, h1, h2⟩ := ih1 xs e
    obtain ⟨vs, h3, h4⟩ := ih2 us h2
    exact ⟨vs, h3.trans h1, h4⟩
end PW

namespace PW
open PySem PySem.Spec PyProof.Rows L2
/-! ### the law itself: its slot holds the script -/
def spLaw (K : PySem.W.Frag) : Sp := fun vs H Q _ => ∃ (a : Addr) (ns : List Int), vs = [.ref a] ∧ SqL K H a (ns.map V.int) ∧ ns.length ≤ 63 ∧ ∀ H', Q (.bl true) H'
def slotsS (ns : List Int) (n : Nat) : DEnv := some (Sl.scr ns) :: List.replicate (n - 1) none
theorem sS_at {ns : List Int} {n i : Nat} {s : Sl} (h : (slotsS ns n)[i]? = some (some s)) : i = 0 ∧ s = .scr ns := by
  cases i with
  | zero =>
    cases h
    exact ⟨rfl, rfl⟩
  | succ i =>
    have h : (List.replicate (n - 1) (none : Option Sl))[i]? = some (some s) := h
    have := List.mem_of_getElem? h
    rw [List.mem_replicate] at this
    cases this.2
/-- the frame of a law: its script -/
def frameS (K : PySem.W.Frag) (H : Hp) (a : Addr) (ns : List Int) : Fr := { frame K H none with sc := fun b ms => b = a ∧ ms = ns }
theorem envS {K : PySem.W.Frag} {H : Hp} {N : List Str} {a : Addr} {ns : List Int} (h : SqL K H a (ns.map V.int)) (hN : 1 ≤ N.length) : Env (frameS K H a ns) (start N [.ref a]) (slotsS ns N.length) H := by
  have noo : ∀ {i : Nat} {r : Bool} {d : D}, (slotsS ns N.length)[i]? ≠ some (some (.ow r d)) := fun {i r d} z => by
    obtain ⟨_, z⟩ := sS_at z
    cases z
  refine ⟨?_, fun a o z _ _ => .inl z, fun i r d z => ?_, fun i r d z => absurd z noo, fun i j a ⟨r, d, z, _⟩ => absurd z noo, fun a z => (by cases z), fun a z => z.elim, fun i r d z => absurd z noo, fun i r d b z => absurd z noo, fun a z => z.elim, fun a xs z => z, fun a o z _ => z, fun a xs z => z, fun b ms z => ?_, fun i v z => ?_⟩
  · unfold L2.start slotsS
    simp only [List.length_cons, List.length_append, List.length_map, List.length_replicate, List.length_nil]
    omega
  · obtain ⟨_, z⟩ := sS_at z
    cases z
  · obtain ⟨rfl, rfl⟩ := z
    rcases h with h | h
    · exact .inl ⟨h, (fun y => by cases y), (fun y => y), fun y => y⟩
    · exact .inr (.inr h)
  · obtain ⟨rfl, z⟩ := sS_at z
    cases z
    exact ⟨a, st_at rfl, rfl, rfl⟩
theorem runS {K : PySem.W.Frag} {t : TS} {w : DSW} {N : List Str} {vs : List V} {H : Hp} {Q : VK} {E : XK} (A : DS K (fun _ _ _ _ => False) t w) (hN : 1 ≤ N.length) (h : spLaw K vs H Q E)
    (k : ∀ ns : List Int, ns.length ≤ 63 → w noX ⟨fun _ => False, fun d _ => d = .bl true, fun _ => False, fun _ => False⟩ (slotsS ns N.length)) : t { nx := fun _ H' => Q .non H', rt := Q } (start N vs) H := by
  obtain ⟨a, ns, rfl, h1, h2, h3⟩ := h
  refine A.ok (F := frameS K H a ns) rfl (envS h1 hN) XLink.no (k ns h2) (fun ρ' σ' H' z E' _ => z.elim) (fun _ _ _ z => z.elim) (fun _ _ _ z => z.elim) fun d ρ' σ' v H' z E' _ r' => ?_
  subst z
  cases r'
  exact h3 H'
/-! ### dict(pairs) -/
def pairOf : D → Option (Key × D)
  | .tup [k, v] => match keyOf k with
    | some q => some (q, v)
    | none => none
  | _ => none
def pairsOf : List D → Option (List (Key × D))
  | [] => some []
  | d :: ds => match pairOf d, pairsOf ds with
    | some p, some ps => some (p :: ps)
    | _, _ => none
theorem pair_rep {K : PySem.W.Frag} {H : Hp} {v : V} {d : D} {e : Key × D} (h : Rep K H v d) (q : pairOf d = some e) : ∃ p u, v = .ref p ∧ H p = some (.tup [kV e.1, u]) ∧ Rep K H u e.2 := by
  unfold pairOf at q
  split at q
  · rename_i k x
    split at q
    · rename_i y hy
      cases q
      cases h with
      | tup h1 h2 =>
        cases h2 with
        | cons g1 g2 =>
          cases g2 with
          | cons g2 g3 =>
            cases g3
            have := keyOf_v (g1.top fun _ _ z => z) hy
            subst this
            exact ⟨_, _, rfl, h1, g2⟩
    · cases q
  · cases q
theorem pairs_rep {K : PySem.W.Frag} {H : Hp} : ∀ {vs : List V} {ds : List D} {es : List (Key × D)}, RepL K H vs ds → pairsOf ds = some es → ∃ (ps : List Addr) (kvs : List (Key × V)), vs = ps.map V.ref ∧ Paired (fun p kv => H p = some (.tup [kV kv.1, kv.2])) ps kvs ∧ KRep K H kvs es
  | _, _, _, .nil, e => by
    cases e
    exact ⟨[], [], rfl, .nil, .nil⟩
  | _, _, _, .cons h g, e => by
    unfold pairsOf at e
    split at e
    · rename_i p ps hp hps
      cases e
      obtain ⟨a, u, rfl, h1, h2⟩ := pair_rep h hp
      obtain ⟨as, kvs, rfl, g1, g2⟩ := pairs_rep g hps
      exact ⟨a :: as, (p.1, u) :: kvs, rfl, .cons h1 g1, .cons h2 g2⟩
    · cases e
def dDictP : DR1W := fun ps R => match ps with
  | [(r, .lst xs)] => ∃ es, pairsOf xs = some es ∧ R (.fr (reg (r, .lst xs)) (.dK (mergeC es)))
  | _ => False
instance {K : PySem.W.Frag} : DR1 K (rDictK K) dDictP where
  ok := fun {F σ H ρ ps xs R Q} hK E ht h k => by
    subst hK
    unfold dDictP at h
    split at h
    · obtain ⟨es, he, h⟩ := h
      obtain ⟨v, rfl, h0⟩ := tops1 ht
      obtain ⟨a, vs, rfl, h1, h2⟩ := h0.lst rfl
      obtain ⟨as, kvs, rfl, g1, g2⟩ := pairs_rep h2 he
      refine ⟨a, as, kvs, rfl, SqL.of h1, paired_imp (fun p kv z => SqT.of (cut_le _ _ z)) g1, fun c hc => ?_⟩
      rw [mergeC_eq] at h
      have m := merge_rep g2 (kvs := []) (es := []) .nil
      exact k _ _ _ h (same_new hc) (fresh_of E hc rfl ⟨_, rfl, m.1, m.2⟩)
    · exact h.elim
theorem pairsOf_strs {α : Type} (g : α → D) (l : List (Str × α)) : pairsOf (l.map fun e => .tup [.str e.1, g e.2]) = some (strE g l) := by
  induction l with
  | nil => rfl
  | cons e l ih =>
    rw [List.map_cons, pairsOf, ih]
    rfl
theorem putD_new {es : List (Key × D)} {k : Key} {d : D} (h : k ∉ es.map (·.1)) : putD es k d = es ++ [(k, d)] := by
  unfold putD
  rw [if_neg]
  intro z
  obtain ⟨e, he, z⟩ := List.any_eq_true.mp z
  exact h (by rw [← of_decide_eq_true z]; exact List.mem_map_of_mem he)
theorem mergeD_new : ∀ (more es : List (Key × D)), ((es ++ more).map (·.1)).Nodup → mergeD es more = es ++ more
  | [], es, _ => by rw [List.append_nil]; rfl
  | e :: more, es, h => by
    have h' : ((es ++ [e] ++ more).map (·.1)).Nodup := by
      rw [List.append_assoc]
      exact h
    have hk : e.1 ∉ es.map (·.1) := fun z => by
      rw [List.map_append, List.nodup_append] at h
      exact h.2.2 _ z _ (by rw [List.map_cons]; exact List.mem_cons_self) rfl
    have := mergeD_new more (es ++ [e]) h'
    unfold mergeD at this ⊢
    rw [List.foldl_cons, putD_new hk, this, List.append_assoc]
    rfl
theorem nodup_map {α β : Type} {f : α → β} (hf : ∀ a b, f a = f b → a = b) : ∀ {xs : List α}, xs.Nodup → (xs.map f).Nodup
  | [], _ => List.nodup_nil
  | x :: xs, h => by
    rw [List.nodup_cons] at h
    rw [List.map_cons, List.nodup_cons]
    refine ⟨fun z => ?_, nodup_map hf h.2⟩
    obtain ⟨y, hy, e⟩ := List.mem_map.mp z
    exact h.1 (hf _ _ e ▸ hy)
theorem merge_strs {α : Type} {g : α → D} {l : List (Str × α)} (h : (l.map Prod.fst).Nodup) : mergeC (strE g l) = strE g l := by
  rw [mergeC_eq, mergeD_new _ [] ?_]
  · rfl
  · rw [List.nil_append]
    unfold strE
    rw [List.map_map]
    have : (fun x : Key × D => x.1) ∘ (fun e : Str × α => ((Sum.inr e.1 : Key), g e.2)) = fun e => Sum.inr e.1 := rfl
    rw [this]
    have e : (l.map fun e => (Sum.inr e.1 : Key)) = (l.map Prod.fst).map Sum.inr := by
      rw [List.map_map]
      rfl
    rw [e]
    exact nodup_map (fun a b z => Sum.inr.inj z) h
/-! ### d[k] += n, -= n -/
instance {K : PySem.W.Frag} {W : WXT} {td ty tv : TE} {wd wy wv : DW} [A : DE K W td wd] [B : DE K W ty wy] [C : DE K W tv wv] : DS K W (sDAug td ty tv rAdd) (dDAug (fun i j => i + j) wd wy wv) :=
  inferInstanceAs (DS K W (sDAug td ty tv (fun x y H Q => ∃ i j, x = .int i ∧ y = .int j ∧ Q (.int ((fun i j : Int => i + j) i j)) H)) (dDAug (fun i j => i + j) wd wy wv))
instance {K : PySem.W.Frag} {W : WXT} {td ty tv : TE} {wd wy wv : DW} [A : DE K W td wd] [B : DE K W ty wy] [C : DE K W tv wv] : DS K W (sDAug td ty tv rSub) (dDAug (fun i j => i - j) wd wy wv) :=
  inferInstanceAs (DS K W (sDAug td ty tv (fun x y H Q => ∃ i j, x = .int i ∧ y = .int j ∧ Q (.int ((fun i j : Int => i - j) i j)) H)) (dDAug (fun i j => i - j) wd wy wv))
end PW

namespace PW
open PySem PySem.Spec PyProof.Rows L2
/-! ## defs that may raise -/
section
variable {P : Program} {w : World} {K : PySem.W.Frag} {mg : Str → Option Value} {base : Heap}
abbrev BodyX (P : Program) (w : World) (K : PySem.W.Frag) (mg : Str → Option Value) (base : Heap) (N : List Str) (qual : Str) (sc : Scope) (bd : List Stmt) (f : Addr) (k : Nat) (sp : Sp) : Prop :=
  ∀ (cdv : Value) (A : Around) (outer : List PySem.Env) (s : Shared) (H : Hp) (vs : List V) (Q : VK) (E : XK), Room k (A.deeper (envOfC qual sc s.heap.objs.size f cdv)) → sp vs H Q E →
      ∃ t, PSs (cxOf (L2N.CX P w) P w K mg base N qual sc f cdv A outer s H E) bd t ∧ t { nx := fun _ H' => Q .non H', rt := Q } (start N vs) H
theorem fnX_of {x qual : Str} {pa : Arguments} {bd : List Stmt} {sc : Scope} {f : Addr} {fd : FuncData} {N ps : List Str} {k : Nat} {sp : Sp} (F : FunD K x qual pa bd sc [] [] f fd) (S : FnScope N ps sc)
    (len : ∀ vs H Q E, sp vs H Q E → vs.length = ps.length) (hbody : BodyX P w K mg base N qual sc bd f k sp) : FnOk P w K mg base (L2N.CX P w) (k + 1) f fd ps sp :=
  F.ok S len fun cdv A outer s H vs Q E hr h => hbody cdv A outer s H vs Q E hr h
/-- a def under its name -/
structure CalX (P : Program) (w : World) (K : PySem.W.Frag) (mg : Str → Option Value) (base : Heap) (k : Nat) (x : Str) (sp : Sp) : Prop where
  ex : ∃ (f : Addr) (fd : FuncData) (ps : List Str), FnOk P w K mg base (L2N.CX P w) k f fd ps sp ∧ mg x = some (.ref f) ∧ PySem.W.keepIn K (.ref f) = true ∧ Binds K fd ps []
theorem calX_of {x : Str} {pa : Arguments} {bd : List Stmt} {sc : Scope} {f : Addr} {N ps : List Str} {k : Nat} {sp : Sp} (F : ∃ fd, FunD K x x pa bd sc [] [] f fd) (hm : mg x = some (.ref f)) (S : FnScope N ps sc)
    (hb : BindOf x x pa bd sc ps) (len : ∀ vs H Q E, sp vs H Q E → vs.length = ps.length) (hbody : BodyX P w K mg base N x sc bd f k sp) : CalX P w K mg base (k + 1) x sp := by
  obtain ⟨fd, F⟩ := F
  exact ⟨f, fd, ps, fnX_of F S len hbody, hm, F.kp, F.bindsN hb⟩
structure MakX (P : Program) (w : World) (K : PySem.W.Frag) (mg : Str → Option Value) (base : Heap) (k : Nat) (x : Str) (C : Addr) (sp : Sp) : Prop where
  ex : ∃ (f : Addr) (fd : FuncData) (ps : List Str), Mk K C f ∧ FnOk P w K mg base (L2N.CX P w) k f fd ps sp ∧ mg x = some (.ref C) ∧ Binds K fd ps []
theorem makX_of {x qual : Str} {C : Addr} {pa : Arguments} {bd : List Stmt} {sc : Scope} {f : Addr} {N ps : List Str} {k : Nat} {sp : Sp} (M : Mk K C f) (hm : mg x = some (.ref C)) (F : ∃ fd, FunD K "__init__" qual pa bd sc [] [] f fd) (S : FnScope N ps sc)
    (hb : BindOf "__init__" qual pa bd sc ps) (len : ∀ vs H Q E, sp vs H Q E → vs.length = ps.length) (hbody : BodyX P w K mg base N qual sc bd f k sp) : MakX P w K mg base (k + 1) x C sp := by
  obtain ⟨fd, F⟩ := F
  exact ⟨f, fd, ps, M, fnX_of F S len hbody, hm, F.bindsN hb⟩
end
section
variable {X : Cx} {W : WX} {j k : Nat} {x : Str} {C : Addr} {sp : Sp} {p pos : Pos} {e : Expr} {es : List Expr} {t : TA}
theorem pe_cX (c : CalX X.prog X.w X.K X.mg X.base k x sp) (tk : L2N.Takes X W) (hr : Room j X.A) (hk : k ≤ j) (hg : Gl X x) (ha : PA X (e :: es) t)
    (h1 : (x == ("__debug__" : Str)) = false := by decide) (h2 : starEach (e :: es) X.env = (false, eval e X.env) :: starEach es X.env := by rfl) (h3 : (backTo pos (starEach es X.env)).any (·.1) = false := by rfl) :
    PE X (.Call (.Name x p) (e :: es) [] pos) (tCallS sp (WE W) t) := by
  obtain ⟨f, fd, ps, F, hm, kp, b⟩ := c.ex
  exact pe_callS F (hr.mono hk) hg hm kp b (fun σ => L2N.passAt tk σ) ha h1 h2 h3
/-- C(e, ..), C's __init__ may raise -/
def tMakeS (C : Addr) (sp : Sp) (E : L2.St → XK) (t : TA) : TE := fun σ H Q => t σ H fun vs H1 => ∀ y dy, H1 y = none → H1 dy = none → dy ≠ y →
  sp (.ref y :: vs) (upd (upd H1 dy (.own y)) y (.ins C dy [])) (fun v H2 => v = .non ∧ Q (.ref y) H2) (E σ)
theorem run_mkX {CX : CXT} {f : Addr} {fd : FuncData} {ps : List Str} {E : L2.St → XK} {pins : List (Addr × Obj)} {σ : L2.St} {H : Hp} {s : Shared} {Q : VK} {us : List Value} {vs : List V} (M : Mk X.K C f)
    (F : FnOk X.prog X.w X.K X.mg X.base CX k f fd ps sp) (room : Room (k + 1) X.A) (bi : Binds X.K fd ps []) (pas : PassesAt CX X σ (E σ)) (I : Inv X pins σ H s) (r : Vals vs us)
    (h : ∀ y dy, H y = none → H dy = none → dy ≠ y → sp (.ref y :: vs) (upd (upd H dy (.own y)) y (.ins C dy [])) (fun v H2 => v = .non ∧ Q (.ref y) H2) (E σ)) :
    wpAny (model X.prog X.w) X.A (call (.ref C) us) (EP X pins σ Q) X.xe s := by
  have g := h (s.heap.objs.size + 1) s.heap.objs.size (I.hok.fresh (Nat.le_succ _)) (I.hok.fresh (Nat.le_refl _)) (Nat.ne_of_lt (Nat.lt_succ_self _))
  have J := Inv.made (C := C) I
  have rs : Vals (V.ref (s.heap.objs.size + 1) :: vs) (Value.ref (s.heap.objs.size + 1) :: us) := .cons rfl r
  have ln : (Value.ref (s.heap.objs.size + 1) :: us ++ []).length = ps.length := by
    rw [List.append_nil, ← rs.length]
    exact F.len _ _ _ _ g
  have bb := bi _ (Value.ref (s.heap.objs.size + 1) :: us) J.kIn ln
  rw [List.append_nil] at bb
  refine wpAny_call (make_map (f := f) I.kIn M.makes M.init (beq_iff_eq.mp M.fn) (codeAny_mono (F.run _ X.stack _ _ ⟨Value.ref (s.heap.objs.size + 1) :: us, []⟩ (Value.ref (s.heap.objs.size + 1) :: us) _ _ (E σ) (room.make C us []) (J.env0.make C us []) bb rs g) fun r' s' out => ?_))
  cases r' with
  | error er => exact pas pins _ _ er s' J out
  | ok fl =>
    cases fl with
    | ret u =>
      obtain ⟨v, H', J', rv, ev, qq⟩ := J.after out
      subst ev
      exact ⟨rv, ⟨V.ref (s.heap.objs.size + 1), H', J', rfl, qq⟩⟩
    | next => exact out.elim
    | brk => exact out.elim
    | cont => exact out.elim
theorem pe_mkX (c : MakX X.prog X.w X.K X.mg X.base k x C sp) (tk : L2N.Takes X W) (hr : Room j X.A) (hk : k + 1 ≤ j) (hg : Gl X x) (ha : PA X (e :: es) t)
    (h1 : (x == ("__debug__" : Str)) = false := by decide) (h2 : starEach (e :: es) X.env = (false, eval e X.env) :: starEach es X.env := by rfl) (h3 : (backTo pos (starEach es X.env)).any (·.1) = false := by rfl) :
    PE X (.Call (.Name x p) (e :: es) [] pos) (tMakeS C sp (WE W) t) := by
  obtain ⟨f, fd, ps, M, F, hm, b⟩ := c.ex
  refine ⟨fun pins s σ H Q I h => wpAny_Call_Name_kw (ld_glob I hg hm ?_ h1)⟩
  refine PySem.W.callWith_K (h₀ := X.base) I.ok.mod.kin M.kp (thn (ha.run pos pins s σ H _ I h) fun us s1 ⟨vs, H1, I1, r, q⟩ => ⟨I1.kIn, ?_⟩) h2 h3
  exact run_mkX M F (hr.mono hk) b (L2N.passAt tk σ) I1 r q
end
/-! ### raise C('..') -/
def tRz (W : WX) (C : Addr) : TS := fun _ σ H => W (.ref C) none σ H
structure ExcOk (K : PySem.W.Frag) (C : Addr) : Prop where
  ex : PySem.W.excIn K C He.veBase "ValueError.__new__" = true
  kp : PySem.W.keepIn K (.ref C) = true
  sb : PySem.W.subIn K (.ref C) (.type "BaseException") = some true
  ty : PySem.W.typeIn K (.ref C) = some (.type "type")
theorem ps_rz {X : Cx} {W : WX} {x m : Str} {C : Addr} {j : Nat} {p p2 pos pos' : Pos} (hc : X.calm = true) (tk : L2N.Takes X W) (o : ExcOk X.K C) (g : X.mg x = some (.ref C)) (hg : Gl X x) (h1 : (x == ("__debug__" : Str)) = false := by decide) :
    PS X (.Raise (some (.Call (.Name x p) [.Constant (.str m) j p2] [] pos)) none pos') (tRz W C) :=
  L2N.ps_raise hc tk (L2N.pmk_own PySem.F.excBase_ValueError o.ex g o.kp (raises_own o.sb o.ty) hg h1)
def dRz (c : Str) : DSW := fun X _ ρ => X ⟨c, []⟩ ρ
section
variable {K : PySem.W.Frag} {W : WXT}
instance {c : Str} : DS K W (tRz W (He.ga K c)) (dRz c) where
  ok := fun {F σ H ρ X E Dn} hK En L h nx bk ct rt => by
    subst hK
    exact L ⟨c, []⟩ ρ σ none H h En (.refl _ _) rfl
/-! ### calls -/
instance {fs : FS} {t : TA} {u : DAW} [A : DA K W t u] : DE K W (tCallS (sp0 K fs) (WE W) t) (dCallX fs u) where
  ok := fun {F σ H ρ X R Q} hK E L h q => A.ok hK E L h fun xs ρ1 vs H1 h1 E1 s1 r1 => by
    subst hK
    split at h1
    · rename_i ps e
      rw [callC_eq] at h1
      refine ⟨ps.map (·.2), _, _, reps_of (tops_of E1 r1 e) h1.1, h1.2, fun d v H' hR sm hd => ?_, fun x dd H' hx sm hd => ?_⟩
      · exact q _ ρ1 v H' hR (E1.grow sm) (s1.trans (.same sm)) (RepV.early (fr_of E1 (fun a ha he => E1.hideNew ha sm he) hd) s1)
      · exact L x ρ1 σ dd H' hx (E1.grow sm) (s1.trans (.same sm)) (hd.newH E1)
    · exact h1.elim
def dMakeX (c : Str) (fs : FS) (u : DAW) : DW := fun X ρ R => u X ρ fun xs ρ1 => match rds ρ1 xs with
  | some ps => noPotL ps = true ∧ callC fs (ps.map (·.2)) (fun d => R (.v true d) ρ1) (fun x => X x ρ1)
  | none => False
instance {c : Str} {fs : FS} {t : TA} {u : DAW} [A : DA K W t u] : DE K W (tMakeS (He.ga K c) (spI K c fs) (WE W) t) (dMakeX c fs u) where
  ok := fun {F σ H ρ X R Q} hK E L h q => A.ok hK E L h fun xs ρ1 vs H1 h1 E1 s1 r1 => by
    subst hK
    split at h1
    · rename_i ps e
      rw [callC_eq] at h1
      intro x dx hx hdx ne
      have up : Same H1 (upd (upd H1 dx (.own x)) x (.ins (He.ga F.K c) dx [])) := (same_new hdx).next (by rw [upd_ne (Ne.symm ne)]; exact hx)
      have up2 : ∀ H', Same (newH (upd (upd H1 dx (.own x)) x (.ins (He.ga F.K c) dx [])) H') (F.RH (OwnA σ ρ1) H' true) := fun H' a o ha => by
        refine new_rh (H := H1) (H' := H') E1 a o ?_
        obtain ⟨k1, k2⟩ := cut_inv ha
        rcases k2 with k2 | ⟨xs, rfl⟩
        · exact cut_of k1 fun z => k2 fun y => z (up.free y)
        · exact cut_tup k1
      refine ⟨x, dx, vs, ps.map (·.2), _, _, rfl, upd_same, ?_, h1.2, fun es fvs dx' H' hR k hH kr => ⟨rfl, ?_⟩, fun ex dd H' hX k hd => ?_⟩
      · refine (reps_of (tops_of E1 r1 e) h1.1).mono fun a o ha => ?_
        exact cut_of (up _ _ ha) fun (z : a = x) => by
          rw [z, hx] at ha
          cases ha
      · have sm : Same H1 H' := fun a o ha => k a o (ne_of_none ha hx) (up _ _ ha)
        refine q _ ρ1 _ H' hR (E1.grow sm) (s1.trans (.same sm)) ?_
        have kr' := kr.mono (up2 H')
        obtain ⟨n1, n2, n3, _⟩ := E1.new hx
        refine .ins (cut_of hH fun z => ?_) kr'.1 kr'.2
        rcases z with z | z | ⟨_, z⟩
        · exact n2 z
        · exact n3 z
        · exact z n1
      · have sm : Same H1 H' := fun a o ha => k a o (ne_of_none ha hx) (up _ _ ha)
        exact L ex ρ1 σ dd H' hX (E1.grow sm) (s1.trans (.same sm)) (hd.mono (up2 H'))
    · exact h1.elim
end
/-- an __init__ that may raise, by data -/
theorem runIX {K : PySem.W.Frag} {c : Str} {fs : FS} {t : TS} {w : DSW} {N : List Str} {vs : List V} {H : Hp} {Q : VK} {E : XK} (A : DS K (fun c d _ H => E c d H) t w) (h : spI K c fs vs H Q E)
    (k : ∀ ds R Xd, fs ds R Xd → w (fun x _ => Xd x) ⟨fun ρ => madeB c ρ R, fun d ρ => False, fun _ => False, fun _ => False⟩ (slotsI c ds N.length)) : t { nx := fun _ H' => Q .non H', rt := Q } (L2.start N vs) H := by
  obtain ⟨p, dx, us, ds, R, Xd, rfl, h0, h1, h2, h3, h4⟩ := h
  have kp : ∀ {σ ρ} {H' : Hp}, Env (frame K H (some p)) σ ρ H' → Kp p H H' := fun {σ ρ H'} E' a o n z => by
    rcases E'.keep a o z (fun y => n (Option.some.inj y).symm) (fun y => y) with y | ⟨y, _⟩
    · exact y
    · exact y.elim
  refine A.ok (F := frame K H (some p)) rfl (envI h0 h1) (fun x ρ' σ' dd H' hx E' s' r' => h4 x dd H' hx (kp E') (r'.mono frame_new)) (k ds R Xd h2) (fun ρ' σ' H' z E' _ => ?_) (fun _ _ _ z => z.elim) (fun _ _ _ z => z.elim) fun d ρ' σ' v H' z E' _ r' => z.elim
  have z : madeB c ρ' R := z
  unfold madeB at z
  split at z
  · rename_i r c' es e
    obtain ⟨rfl, rfl, hR⟩ := z
    obtain ⟨r0, d0, e1, _, e3⟩ := E'.pt p rfl
    obtain ⟨a, g1, ⟨dx', fvs, g2, g3, g4⟩, _⟩ := E'.ow 0 _ _ e
    rw [e3] at g1
    cases g1
    exact h3 es fvs dx' H' hR (kp E') g2 ⟨g3, g4.mono frame_new⟩
  · exact z.elim
end PW

namespace PW
open PySem PySem.Spec PyProof.Rows L2
/-! ### try with any clauses, named or not -/
theorem takesN {X : Cx} : L2N.Takes X (fun _ _ _ _ => False) := fun _ _ x => by
  obtain ⟨_, _, _, _, _, _, _, _, _, _, _, _, _, _, _, _, z⟩ := x
  exact z.elim
/-- a clause: its class, the slot of its name, its suite -/
structure Cl where
  c : Value
  i : Option Nat
  ts : Addr → Value → Option Addr → TS
def endsAt (i : Nat) (D : Ends) : Ends := { nx := fun σ H => D.nx (σ.set i none) H, rt := D.rt, bk := fun σ H => D.bk (σ.set i none) H, ct := fun σ H => D.ct (σ.set i none) H }
def Cl.go (l : Cl) (a : Addr) (cls : Value) (d : Option Addr) (D : Ends) (σ : L2.St) (H : Hp) : Prop := match l.i with
  | none => l.ts a cls d D σ H
  | some i => l.ts a cls d (endsAt i D) (σ.set i (some (.ref a))) H
def wCls (K : PySem.W.Frag) (Wo : WX) (D : Ends) : List Cl → WX
  | [] => Wo
  | l :: ls => fun cls d σ H => ∃ b, PySem.W.exmOne K cls l.c = some b ∧ (b = true → ∀ a, H a = none → l.go a cls d D σ H) ∧ (b = false → wCls K Wo D ls cls d σ H)
abbrev SuiteOk (X : Cx) (bd : List Stmt) (ts : Addr → Value → Option Addr → TS) : Prop :=
  ∀ (a : Addr) (oe : Obj) (cls : Value) (d : Option Addr) (pn : List (Addr × Obj)), L2N.Zn cls d oe → (∃ fv, oe.data = .fields fv) → PSs (X.suite a ((a, oe) :: pn)) bd (ts a cls d)
inductive ClsOk' (X : Cx) : List ExceptHandler → List Cl → Prop
  | nil : ClsOk' X [] []
  | only {x : Str} {c : Value} {ts : Addr → Value → Option Addr → TS} {s0 : Stmt} {su : List Stmt} {p1 p2 : Pos} {hds : List ExceptHandler} {ls : List Cl} (nm : Names X x c) (so : SuiteOk X (s0 :: su) ts) (r : ClsOk' X hds ls) :
      ClsOk' X (.ExceptHandler (some (.Name x p1)) none (s0 :: su) p2 :: hds) (⟨c, none, ts⟩ :: ls)
  | as {x n : Str} {i : Nat} {c : Value} {ts : Addr → Value → Option Addr → TS} {s0 : Stmt} {su : List Stmt} {p1 p2 : Pos} {hds : List ExceptHandler} {ls : List Cl} (nd : X.N.Nodup) (hi : X.N[i]? = some n) (hl : X.env.kindOf n = some .local) (nm : Names X x c) (so : SuiteOk X (s0 :: su) ts) (r : ClsOk' X hds ls) :
      ClsOk' X (.ExceptHandler (some (.Name x p1)) (some n) (s0 :: su) p2 :: hds) (⟨c, some i, ts⟩ :: ls)
section
variable {X : Cx} {body : List Stmt} {hd0 : ExceptHandler} {hds : List ExceptHandler} {ls : List Cl} {pos : Pos} {tb : WX → TS} {Wo : WX}
def tTryG (K : PySem.W.Frag) (tb : WX → TS) (Wo : WX) (ls : List Cl) : TS := fun D σ H => tb (wCls K Wo D ls) D σ H
theorem ps_tryG (hst : X.stack = X.env :: X.outer) (hfm : X.env.frame = some X.env.locals) (out : L2N.Takes X Wo)
    (inner : ∀ (V : WX) (pn : List (Addr × Obj)) (xq : Value → Shared → Prop), L2N.Takes (X.tr pn xq) V → PassesOwn (model X.prog X.w) X.A X.env xq → PSs (X.tr pn xq) body (tb V))
    (cl : ClsOk' X (hd0 :: hds) ls) : PS X (.Try body (hd0 :: hds) [] [] pos) (tTryG X.K tb Wo ls) := by
  refine ⟨fun pins s σ H D I hh => ?_⟩
  have okX := I.ok
  have frm : X.A.frames = some (X.env :: X.outer) := okX.frames.trans (by rw [hst])
  refine wpAny_Try_except (wpAny_mono ((inner (wCls X.K Wo D ls) (X.pn ++ pins)
    (fun e t1 => wpAny (model X.prog X.w) X.A (noteFrame e X.env) (fun _ t2 => wpAny (model X.prog X.w) X.A (setFlight e none) (fun _ t3 => wpAny (model X.prog X.w) X.A (handleBy e X.env (hd0 :: hds)) (SP X pins D) X.xe t3) X.xe t2) X.xe t1)
    (fun u s' xx => ?_) PassesOwn.looking).run [] s σ H D (I.toTry _) hh) (fun fl t1 hsp => ?_) (fun _ _ he => he))
  · obtain ⟨a, B, sI, pins', σ', H', cls, d, rfl, J', nb, up, sky, na, os, ag, wish⟩ := xx
    have J : Inv X pins σ' H' sI := Inv.ofTry J' okX
    have sk : Sky B (X.env :: X.outer) a (L2N.Zn cls d) X.env.locals s'.heap := hst ▸ sky
    refine L2N.Sky.land L2N.Zn.steady frm hfm sk fun g3 f3 u3 => ?_
    have K3 : Inv X pins σ' H' { s' with heap := g3 } := J.landed nb f3.1 (up.trans u3) os ag
    obtain ⟨o3, w3, e3, z3, d3⟩ := f3.there
    have far : a ∉ frs (X.env :: X.outer) := fun hm => by
      obtain ⟨_, q, eq, nof⟩ := f3.2.2.1.mem hm
      rw [e3] at eq
      cases eq
      exact nof _ d3
    have nloc : a ≠ X.env.locals := fun z => far (List.mem_filterMap.mpr ⟨X.env, List.mem_cons_self, z ▸ hfm⟩)
    have nfs : a ∉ X.fs := fun hm => by
      obtain ⟨ev, hev, q⟩ := List.mem_filterMap.mp hm
      exact far (List.mem_filterMap.mpr ⟨ev, List.mem_cons_of_mem _ hev, q⟩)
    have su3 := K3.suite e3 d3 na nloc nfs
    -- the test of a clause
    have tst : ∀ {x : Str} {c : Value} {p1 : Pos} {b : Bool} {Q : Bool → Shared → Prop} {E : Value → Shared → Prop}, Names X x c → PySem.W.exmOne X.K cls c = some b → Q b { s' with heap := g3 } →
        wpAny (model X.prog X.w) (X.A.mark (some (.ref a))) (eval (.Name x p1) X.env) (fun v t => wpAny (model X.prog X.w) (X.A.mark (some (.ref a))) (excMatches (.ref a) v) Q E t) E { s' with heap := g3 } := fun {x c p1 b Q E} nm he q => by
      have lt : PySem.W.Looks (model X.prog X.w) g3 (typeOf (.ref a)) cls := fun A Q E t k q => wpAny_typeOf_ref (k _ _ e3) (by rw [z3.1]; exact q)
      have lm := PySem.W.exm_one (M := model X.prog X.w) K3.kIn lt he
      obtain ⟨hg, hdb, hm | ⟨hm, hv, hn⟩⟩ := nm
      · exact ld_glob (X := X.suite a ((a, o3) :: (X.pn ++ pins))) su3 hg hm (lm.here q) hdb
      · exact ld_blt (X := X.suite a ((a, o3) :: (X.pn ++ pins))) su3 hg hm hv (lm.here q) hn hdb
    have all : ∀ {hs' : List ExceptHandler} {ls' : List Cl}, ClsOk' X hs' ls' → wCls X.K Wo D ls' cls d σ' H' → wpAny (model X.prog X.w) X.A (handleBy (.ref a) X.env hs') (SP X pins D) X.xe { s' with heap := g3 } := by
      intro hs' ls' ck
      induction ck with
      | nil =>
        intro wish
        refine wpAny_handleBy_nil ?_
        obtain ⟨_, _, _, oq, vq, T, _, _, eq, _, dq, fq, _⟩ := id f3
        unfold PySem.passOn
        refine wpAny_bind (wpAny_field eq dq fq ?_)
        rw [if_neg (by simp : ¬ ((Value.ref T == Value.none) = true))]
        have away : wpAny (model X.prog X.w) X.A (setFlight (.ref a) X.env.frame) (fun _ t4 => wpAny (model X.prog X.w) X.A (throw (.ref a) : Sem Flow) (SP X pins D) X.xe t4) X.xe { s' with heap := g3 } := by
          rw [hfm]
          refine HandSPX.setFlight_upZ f3 fun g4 k4 u4 => wpAny_throw (out _ _ ?_)
          refine ⟨a, B, sI, pins, σ', H', cls, d, rfl, J, nb, (up.trans u3).trans u4, .inr (.inr ?_), na, os, ag, wish⟩
          rw [hst]
          exact k4
        first | exact wpAny_bind (wpAny_pure (wpAny_bind away)) | exact wpAny_bind away
      | @only x c ts s0 su p1 p2 hs2 ls2 nm so r ih =>
        rintro ⟨b, eb, yes, no⟩
        refine wpAny_handleBy_cons (codeAny_handlers_test (tst nm eb ?_)) (by intro q; cases q)
        cases b with
        | true =>
          refine codeAny_handlers_suite (HandSPX.lands_againZ f3 fun g4 f4 u4 => ?_)
          have K4 : Inv X pins σ' H' { s' with heap := g4 } := J.landed nb f4.1 ((up.trans u3).trans u4) os ag
          obtain ⟨o4, w4, e4, z4, d4⟩ := f4.there
          refine wpAny_mono ((so a o4 cls d (X.pn ++ pins) z4 ⟨_, d4⟩).run [] _ _ H' _ (K4.suite e4 d4 na nloc nfs) (yes rfl a na)) (fun fl t6 sp6 => ?_) (fun _ _ z => z.elim)
          cases fl with
          | next => obtain ⟨_, _, S6, q6⟩ := sp6; exact ⟨_, _, S6.unsuite okX, q6⟩
          | brk => obtain ⟨_, _, S6, q6⟩ := sp6; exact ⟨_, _, S6.unsuite okX, q6⟩
          | cont => obtain ⟨_, _, S6, q6⟩ := sp6; exact ⟨_, _, S6.unsuite okX, q6⟩
          | ret u => obtain ⟨_, _, _, S6, r6, q6⟩ := sp6; exact ⟨_, _, _, S6.unsuite okX, r6, q6⟩
        | false =>
          show wpAny (model X.prog X.w) X.A (handleBy (.ref a) X.env hs2) (SP X pins D) X.xe { s' with heap := g3 }
          exact ih (no rfl)
      | @as x n i c ts s0 su p1 p2 hs2 ls2 nd hi hl nm so r ih =>
        rintro ⟨b, eb, yes, no⟩
        refine wpAny_handleBy_cons (codeAny_handlers_test (tst nm eb ?_)) (by intro q; cases q)
        cases b with
        | true =>
          refine codeAny_handlers_suite_as (HandSPX.lands_againZ f3 fun g4 f4 u4 => ?_)
          have K4 : Inv X pins σ' H' { s' with heap := g4 } := J.landed nb f4.1 ((up.trans u3).trans u4) os ag
          obtain ⟨o4, w4, e4, z4, d4⟩ := f4.there
          refine store_ok (X := X.suite a ((a, o4) :: (X.pn ++ pins))) (v := .ref a) (K4.suite e4 d4 na nloc nfs) nd hi (.inl hl) rfl (fun t5 S5 => ?_) (.inr hl)
          refine wpAny_mono ((so a o4 cls d (X.pn ++ pins) z4 ⟨_, d4⟩).run [] t5 _ H' _ S5 (yes rfl a na)) (fun fl t6 sp6 => ?_) (fun _ _ z => z.elim)
          have fin : ∀ {σ6 : L2.St} {H6 : Hp} {Q : Shared → Prop}, Inv (X.suite a ((a, o4) :: (X.pn ++ pins))) [] σ6 H6 t6 → (∀ t7, Inv X pins (σ6.set i none) H6 t7 → Q t7) →
              wpAny (model X.prog X.w) X.A (do bindName X.env n .none; unbindBehindTheSuite X.env n p2) (fun _ t7 => Q t7) X.xe t6 := fun S6 hq => gone_ok (S6.unsuite okX) nd hi hl hq
          cases fl with
          | next => obtain ⟨_, _, S6, q6⟩ := sp6; exact fin S6 fun t7 J7 => ⟨_, _, J7, q6⟩
          | brk => obtain ⟨_, _, S6, q6⟩ := sp6; exact fin S6 fun t7 J7 => ⟨_, _, J7, q6⟩
          | cont => obtain ⟨_, _, S6, q6⟩ := sp6; exact fin S6 fun t7 J7 => ⟨_, _, J7, q6⟩
          | ret u => obtain ⟨_, _, _, S6, r6, q6⟩ := sp6; exact fin S6 fun t7 J7 => ⟨_, _, _, J7, r6, q6⟩
        | false =>
          show wpAny (model X.prog X.w) X.A (handleBy (.ref a) X.env hs2) (SP X pins D) X.xe { s' with heap := g3 }
          exact ih (no rfl)
    exact all cl wish
  · cases fl with
    | next => obtain ⟨_, _, J', q⟩ := hsp; exact wpAny_execs_nil ⟨_, _, Inv.ofTry J' okX, q⟩
    | brk => obtain ⟨_, _, J', q⟩ := hsp; exact ⟨_, _, Inv.ofTry J' okX, q⟩
    | cont => obtain ⟨_, _, J', q⟩ := hsp; exact ⟨_, _, Inv.ofTry J' okX, q⟩
    | ret u => obtain ⟨_, _, _, J', r, q⟩ := hsp; exact ⟨_, _, _, Inv.ofTry J' okX, r, q⟩
end
end PW

namespace PW
open PySem PySem.Spec PyProof.Rows L2
theorem pe_pinit {X : Cx} {x : Str} {P : Addr} {e : Expr} {es : List Expr} {ta : TA} {p1 p2 pos : Pos} {pl : Sem Bool} (hg : Gl X x) (hm : X.mg x = some (.ref P)) (c : ParC X.K P) (ha : PA X (e :: es) ta) (hdb : (x == ("__debug__" : Str)) = false := by decide)
    (hc : eval (.Call (.Attribute (.Name x p1) "__init__" p2) (e :: es) [] pos) X.env = (do
      let ov ← eval (.Name x p1) X.env
      standAt p2.atName
      let (f, first) ← holding [ov] (getMethod ov "__init__" pl)
      callWith pos f first (backTo pos (starEach (e :: es) X.env)) (backToKw pos (keywordEach [] X.env))) := by rfl)
    (he : starEach (e :: es) X.env = (false, eval e X.env) :: starEach es X.env := by rfl) (hpl : (backTo pos (starEach es X.env)).any (·.1) = false := by rfl) :
    PE X (.Call (.Attribute (.Name x p1) "__init__" p2) (e :: es) [] pos) (L2.tVeI X.K ta) := by
  refine ⟨fun pins s σ H Q I h => ?_⟩
  refine PySem.W.methodCall_KW (ld_glob I hg hm ?_ hdb) hc
  refine PySem.W.method_cls I.kIn c.ga (PySem.W.cls_value I.kIn c.rd c.fi (by decide +kernel) ?_)
  show wpAny _ _ (callWith pos (Value.builtin "ValueError.__init__") [] (backTo pos (starEach (e :: es) X.env)) []) _ _ _
  refine PyProof.Rows.callWith_method1 (thn (ha.run pos pins _ σ H _ (I.tok _) h) fun us s1 ⟨vs, H1, I1, r1, a, C, ws, ev, hl, T, ea, q⟩ => ?_) he hpl
  subst ev
  cases r1 with
  | @cons _ u0 _ ur ra rw' =>
    obtain rfl : u0 = Value.ref a := ra
    have hlen : ur.length ≤ sizeLine := by
      rw [← Paired.length rw', sizeLine_eq]
      omega
    exact L2.oinit_ok T I1 ea hlen fun s' J => ⟨.non, H1, J, rfl, q⟩
/-- the promise of such an __init__ -/
def spXi (C : Addr) (fs : List Str) : Sp := fun vs H Q _ => ∃ (a : Addr) (ys : List V), vs = .ref a :: ys ∧ ys.length = fs.length ∧ H a = some (L2.exo a C none) ∧
  ∀ dx H2, H dx = none → dx ≠ a → H2 a = some (L2.exo a C (some dx)) → H2 dx = some (L2.exd dx (List.zip fs ys).reverse) → (∀ b, b ≠ a → b ≠ dx → H2 b = H b) → Q .non H2
/-- such a class -/
structure OiOk (P : Program) (w : World) (K : PySem.W.Frag) (mg : Str → Option Value) (base : Heap) (k : Nat) (x : Str) (C : Addr) (fs : List Str) : Prop where
  ex : ∃ (fI : Addr) (fd : FuncData) (ps : List Str), L2.OexC K C ∧ PySem.W.findIn K (.ref C) "__init__" = some (some (.ref fI)) ∧ PySem.W.typeIn K (.ref fI) = some (.type "function") ∧ FnOk P w K mg base C8.CX0 k fI fd ps (spXi C fs) ∧ Binds K fd ps [] ∧ mg x = some (.ref C)
def tRzI (W : WX) (C : Addr) (fs : List Str) (ta : TA) : TS := fun _ σ H => L2.tMkO C (spXi C fs) [] ta σ H fun cls d H' => W cls d σ H'
theorem pmkN {X : Cx} {x : Str} {C fI : Addr} {k : Nat} {fd : FuncData} {ps : List Str} {sp : Sp} {e : Expr} {es : List Expr} {ta : TA} {p pos : Pos} (T : L2.OexC X.K C) (ini : PySem.W.findIn X.K (.ref C) "__init__" = some (some (.ref fI))) (tyI : PySem.W.typeIn X.K (.ref fI) = some (.type "function"))
    (fn1 : FnOk X.prog X.w X.K X.mg X.base C8.CX0 k fI fd ps sp) (hr : Room (k + 1) X.A) (bi : Binds X.K fd ps []) (hx : L2.Passes C8.CX0 X (fun _ _ _ => False)) (hg : Gl X x) (hm : X.mg x = some (.ref C)) (ha : PA X (e :: es) ta)
    (hdb : (x == ("__debug__" : Str)) = false) (he : starEach (e :: es) X.env = (false, eval e X.env) :: starEach es X.env) (hpl : (backTo pos (starEach es X.env)).any (·.1) = false) :
    L2N.PMk X (.Call (.Name x p) (e :: es) [] pos) (L2.tMkO C sp [] ta) := by
  intro pins s0 σ H Q J want
  obtain ⟨_, _, _, _, mb, _, _, _, _, _, _, _, _, _, _, atC, okm⟩ := T.cls
  refine wpAny_Call_Name_kw (ld_glob J hg hm ?_ hdb)
  refine PySem.W.callWith_K (h₀ := X.base) J.ok.mod.kin T.kC (thn (ha.run pos pins s0 σ H _ J want) fun us sA ⟨vs, HA, JA, rv, few, w1⟩ => ⟨JA.kIn, ?_⟩) he hpl
  show wpAny _ _ (call (.ref C) us) _ _ _
  obtain ⟨m0, gA, dA, tA, oA⟩ := sA
  have up1 : m0.objs.size ≤ m0.objs.size + 1 := Nat.le_succ _
  have w2 := w1 (m0.objs.size + 1) (JA.hok.fresh up1)
  rw [List.append_nil] at w2
  have kept : ∀ b u, m0.get? b = some u → ((m0.push (PySem.W.kdv_tup us)).push (PySem.HandSPX.excO C m0.objs.size)).get? b = some u := fun b u z => Heap.get?_push_of_some _ (Heap.get?_push_of_some _ z)
  have made : ((m0.push (PySem.W.kdv_tup us)).push (PySem.HandSPX.excO C m0.objs.size)).get? (m0.objs.size + 1) = some (PySem.HandSPX.excO C m0.objs.size) := by heap_get
  have JB : Inv X pins σ (upd HA (m0.objs.size + 1) (L2.exo (m0.objs.size + 1) C none)) ⟨(m0.push (PySem.W.kdv_tup us)).push (PySem.HandSPX.excO C m0.objs.size), gA, dA, tA, oA⟩ :=
    JA.laid (t' := tA) (a := m0.objs.size + 1) (o := L2.exo (m0.objs.size + 1) C none) (h' := (m0.push (PySem.W.kdv_tup us)).push (PySem.HandSPX.excO C m0.objs.size)) kept up1 (L2.exo_ok made)
  have rv2 : Vals (V.ref (m0.objs.size + 1) :: vs) (Value.ref (m0.objs.size + 1) :: us) := .cons rfl rv
  have ln : (Value.ref (m0.objs.size + 1) :: us ++ []).length = ps.length := by
    have z := rv2.length
    rw [fn1.len _ _ _ _ w2] at z
    rw [List.append_nil]
    exact z.symm
  have lu : us.length ≤ sizeLine := by
    rw [← Paired.length rv, sizeLine_eq]
    omega
  have bi2 := bi _ (Value.ref (m0.objs.size + 1) :: us) JB.kIn ln
  rw [List.append_nil] at bi2
  refine wpAny_call (PySem.HandSPX.call_own PySem.F.excBase_ValueError (fun Y => PySem.HandSPX.refsVE_contains Y mb okm) (JA.kIn _ _ atC) (PySem.W.looks_findIn JA.kIn ini) (fun self => PySem.W.bind_fn JA.kIn self tyI) lu
    (codeAny_mono (fn1.run _ X.stack _ _ ⟨Value.ref (m0.objs.size + 1) :: us, []⟩ (Value.ref (m0.objs.size + 1) :: us) _ _ (fun _ _ _ => False) (hr.make C us []) (JB.env0.make C us []) bi2 rv2 w2) fun r sB w3 => ?_))
  cases r with
  | error er => exact hx pins σ _ _ er sB JB w3
  | ok fl =>
    cases fl with
    | ret u =>
      obtain ⟨v, HB, osB, bareB, unB, hokB, rvB, ev, d, fs, ea, ed, hd1, w4⟩ := w3
      subst ev
      obtain ⟨mB, gB, dB, tB, oB⟩ := sB
      obtain ⟨t0, G, J2, kG, gone, hoe, na⟩ := L2.mk_end0 (d2 := dB) (t2 := tB) JA up1 kept unB hokB osB bareB ea ed hd1
      refine ⟨rvB, ⟨m0.objs.size + 1, _, _, ⟨G, gB, dB, tB, oB⟩, _, .ref C, some d, rfl, J2, kG, gone, hoe, ⟨rfl, rfl, fun fv hv => ?_⟩, rfl, rfl, na, rfl, bareB, raises_own T.exC T.tyC, w4⟩⟩
      cases hv
      rfl
    | next => exact False.elim w3
    | brk => exact False.elim w3
    | cont => exact False.elim w3
theorem ps_rzI {X : Cx} {W : WX} {x : Str} {C : Addr} {fs : List Str} {j k : Nat} {e : Expr} {es : List Expr} {ta : TA} {p pos pos' : Pos} (hc : X.calm = true) (tk : L2N.Takes X W) (o : OiOk X.prog X.w X.K X.mg X.base k x C fs) (hr : Room j X.A) (hk : k + 1 ≤ j) (hg : Gl X x) (ha : PA X (e :: es) ta)
    (hdb : (x == ("__debug__" : Str)) = false := by decide) (he : starEach (e :: es) X.env = (false, eval e X.env) :: starEach es X.env := by rfl) (hpl : (backTo pos (starEach es X.env)).any (·.1) = false := by rfl) :
    PS X (.Raise (some (.Call (.Name x p) (e :: es) [] pos)) none pos') (tRzI W C fs ta) := by
  obtain ⟨fI, fd, ps, T, iC, tI, F1, hb, hm⟩ := o.ex
  exact L2N.ps_raise hc tk (pmkN T iC tI F1 (hr.mono hk) hb C8.pass0 hg hm ha hdb he hpl)
/-! the same by data -/
theorem Env.newOk {F : Fr} {σ : L2.St} {ρ : DEnv} {H : Hp} {a : Addr} {r : Bool} (E : Env F σ ρ H) (h : H a = none) : ¬ F.bad (OwnA σ ρ) r a := fun z => by
  rcases z with z | z | ⟨_, z⟩
  · obtain ⟨⟨o, ho⟩, _⟩ := E.hidIn a z
    rw [h] at ho
    cases ho
  · obtain ⟨u, hu, _⟩ := E.notup z
    rw [h] at hu
    cases hu
  · cases e : F.H0 a with
    | none => exact z e
    | some o =>
      by_cases p : F.pt = some a
      · obtain ⟨r0, d0, g1, _, g3⟩ := E.pt a p
        obtain ⟨u, hu, _⟩ := E.notup ⟨0, r0, d0, g1, .inl g3⟩
        rw [h] at hu
        cases hu
      · by_cases px : F.px a
        · obtain ⟨u, hu⟩ := E.pxIn a px
          rw [h] at hu
          cases hu
        · rcases E.keep a o e p px with y | ⟨_, od, y⟩
          · rw [h] at y
            cases y
          · rw [h] at y
            cases y
theorem zip_fst {α β : Type} : ∀ {xs : List α} {ys : List β}, xs.length = ys.length → (List.zip xs ys).map Prod.fst = xs
  | [], [], _ => rfl
  | x :: xs, y :: ys, h => by
    show x :: (List.zip xs ys).map Prod.fst = x :: xs
    rw [zip_fst (Nat.succ.inj h)]
theorem zip_snd {α β : Type} : ∀ {xs : List α} {ys : List β}, xs.length = ys.length → (List.zip xs ys).map Prod.snd = ys
  | [], [], _ => rfl
  | x :: xs, y :: ys, h => by
    show y :: (List.zip xs ys).map Prod.snd = y :: ys
    rw [zip_snd (Nat.succ.inj h)]
def dRzI (c : Str) (fs : List Str) (u : DAW) : DSW := fun X _ ρ => u X ρ fun xs ρ1 => match sts ρ1 (xs.map DV.tmp) with
  | some (r, ds, ρ2) => r = true ∧ ds.length = fs.length ∧ fs ≠ [] ∧ fs.length ≤ 900 ∧ X ⟨c, (List.zip fs ds).reverse⟩ ρ2
  | none => False
instance {K : PySem.W.Frag} {W : WXT} {c : Str} {fs : List Str} {t : TA} {u : DAW} [A : DA K W t u] : DS K W (tRzI W (He.ga K c) fs t) (dRzI c fs u) where
  ok := fun {F σ H ρ X E Dn} hK En L h nx bk ct rt => A.ok hK En L h fun xs ρ1 vs H1 h1 E1 s1 r1 => by
    subst hK
    split at h1
    · rename_i r ds ρ2 e
      obtain ⟨rfl, hl, hne, h9, h1⟩ := h1
      obtain ⟨E2, s2, p2⟩ := sts_rep E1 (dCons_tmp r1) e
      have hv : vs.length = fs.length := p2.len.trans hl
      refine ⟨by omega, fun a na => ⟨a, vs, by rw [List.append_nil], hv, upd_same, fun dx H2 hdx ne g1 g2 g3 => ?_⟩⟩
      have nd : H1 dx = none := by
        rw [upd_ne ne] at hdx
        exact hdx
      refine ⟨rfl, dx, _, g1, g2, nd, ?_⟩
      have eH : upd (L2.del H2 a) dx (.xd (List.zip fs vs).reverse) = upd H1 dx (.xd (List.zip fs vs).reverse) := funext fun b => by
        by_cases e1 : b = dx
        · subst e1
          rw [upd_same, upd_same]
        · rw [upd_ne e1, upd_ne e1]
          by_cases e2 : b = a
          · subst e2
            rw [L2.del_same, na]
          · rw [L2.del_ne e2, g3 b e2 e1, upd_ne e2]
      rw [eH]
      have sm : Same H1 (upd H1 dx (.xd (List.zip fs vs).reverse)) := same_new nd
      refine L _ ρ2 σ (some dx) _ h1 (E2.grow sm) ((s1.trans s2).trans (.same sm)) ?_
      have up : Same (F.RH (OwnA σ ρ2) H1 true) (F.RH (OwnA σ ρ2) (upd H1 dx (.xd (List.zip fs vs).reverse)) true) := cut_mono (fun b u hb nb => ⟨sm _ _ hb, nb⟩) fun b xs hb _ => sm _ _ hb
      have ez : ∀ z : List (Str × D), z = (List.zip fs ds).reverse → z ≠ [] := fun z ez en => by
        rw [en] at ez
        have := congrArg List.length ez
        rw [List.length_reverse, List.length_zip, hl, Nat.min_self] at this
        exact hne (List.length_eq_zero_iff.mp this.symm)
      unfold XRep
      split
      · rename_i q
        exact absurd q (ez _ rfl)
      · refine ⟨dx, _, rfl, cut_of upd_same (E2.newOk nd), ?_, ?_⟩
        · show ((List.zip fs vs).reverse.map Prod.fst) = ((List.zip fs ds).reverse.map Prod.fst)
          rw [List.map_reverse, List.map_reverse, zip_fst hv.symm, zip_fst hl.symm]
        · show RepL F.K _ ((List.zip fs vs).reverse.map Prod.snd) ((List.zip fs ds).reverse.map Prod.snd)
          rw [List.map_reverse, List.map_reverse, zip_snd hv.symm, zip_snd hl.symm]
          exact (p2.mono up).rev
    · exact h1.elim
/-! what such an __init__ does -/
section
variable {K : PySem.W.Frag} {C a : Addr} {f g m : Str} {y z : V} {H : Hp} {Q : VK} {N : List Str} {D : Ends}
theorem oi_run1 (T : L2.OexC K C) (nf : PySem.W.findIn K (.ref C) f = some none) (h : spXi C [f] [.ref a, y] H Q (fun _ _ _ => False)) :
    tSeq (tDrop (L2.tVeI K (tCons (tVar 0) (tCons (tC (.str m)) tNil)))) (L2.tOst K f (tVar 0) (tVar 1)) { nx := fun _ H' => Q .non H', rt := Q } (start N [.ref a, y]) H := by
  obtain ⟨b, ys, e, hl, ha, k⟩ := h
  cases e
  refine ⟨.ref a, rfl, a, C, [.str m], rfl, Nat.le_of_ble_eq_true rfl, T, ha, ?_⟩
  refine ⟨y, rfl, .ref a, rfl, a, C, rfl, T, nf, .inl ⟨ha, fun dx nd ne => ?_⟩⟩
  exact k dx _ nd ne upd_same (by rw [upd_ne ne]; exact upd_same) fun b h1 h2 => by rw [upd_ne h1, upd_ne h2]
theorem oi_run2 (T : L2.OexC K C) (nf : PySem.W.findIn K (.ref C) f = some none) (ng : PySem.W.findIn K (.ref C) g = some none) (h : spXi C [f, g] [.ref a, y, z] H Q (fun _ _ _ => False)) :
    tSeq (tDrop (L2.tVeI K (tCons (tVar 0) (tCons (tC (.str m)) tNil)))) (tSeq (L2.tOst K f (tVar 0) (tVar 1)) (L2.tOst K g (tVar 0) (tVar 2))) { nx := fun _ H' => Q .non H', rt := Q } (start N [.ref a, y, z]) H := by
  obtain ⟨b, ys, e, hl, ha, k⟩ := h
  cases e
  refine ⟨.ref a, rfl, a, C, [.str m], rfl, Nat.le_of_ble_eq_true rfl, T, ha, ?_⟩
  refine ⟨y, rfl, .ref a, rfl, a, C, rfl, T, nf, .inl ⟨ha, fun dx nd ne => ?_⟩⟩
  refine ⟨z, rfl, .ref a, rfl, a, C, rfl, T, ng, .inr ⟨dx, [(f, y)], upd_same, by rw [upd_ne ne]; exact upd_same, Nat.le_of_ble_eq_true rfl, ?_⟩⟩
  refine k dx _ nd ne (by rw [upd_ne (Ne.symm ne)]; exact upd_same) upd_same fun b h1 h2 => ?_
  rw [upd_ne h2, upd_ne h1, upd_ne h2]
end
end PW

namespace PW
open PySem PySem.Spec PyProof.Rows L2
/-! ### isinstance of a caught exception, its fields -/
/-- the exception at a, its class and its dict, stands in the state -/
structure PinAt (X : Cx) (a : Addr) (cls : Value) (d : Option Addr) : Prop where
  ex : ∃ oe : Obj, (a, oe) ∈ X.pn ∧ oe.cls = cls ∧ oe.dict = d ∧ ∃ fv, oe.data = .fields fv
theorem pin_suite {X : Cx} {a : Addr} {oe : Obj} {cls : Value} {d : Option Addr} {pn : List (Addr × Obj)} (hz : L2N.Zn cls d oe) (hf : ∃ fv, oe.data = .fields fv) : PinAt (X.suite a ((a, oe) :: pn)) a cls d :=
  ⟨oe, List.mem_cons_self, hz.1, hz.2.1, hf⟩
theorem PinAt.inst {X : Cx} {a C : Addr} {d : Option Addr} {pins : List (Addr × Obj)} {σ : L2.St} {H : Hp} {s : Shared} (p : PinAt X a (.ref C) d) (I : Inv X pins σ H s) (hd : ∀ dd, d = some dd → ∃ fs, H dd = some (.xd fs)) : ∃ oe od, PySem.W.InstAt s.heap a oe C od := by
  obtain ⟨oe, hm, h1, h2, fv, hv⟩ := p.ex
  have hget := (I.pin (a, oe) (List.mem_append_left _ hm)).1
  cases d with
  | none => exact ⟨oe, none, hget, h1, by unfold PySem.W.notCls; rw [hv] <;> rfl, by rw [h2]; trivial⟩
  | some dd =>
    obtain ⟨fs, ea⟩ := hd dd rfl
    obtain ⟨mA, hns, hr⟩ := (I.hok dd _ ea : ObjOk X.prog X.w H s.heap dd (.xd fs))
    obtain ⟨od, ho, hl⟩ := lookIn_ns hns
    exact ⟨oe, some od, hget, h1, by unfold PySem.W.notCls; rw [hv] <;> rfl, by rw [h2]; exact ho⟩
def rIsX (K : PySem.W.Frag) (cls : Value) (d : Option Addr) (a : Addr) : List V → Hp → VK → Prop := fun xs H Q => ∃ (C : Addr) (c : V) (cv : Value) (b : Bool), cls = .ref C ∧ XcC K C ∧ (∀ dd, d = some dd → ∃ fs, H dd = some (.xd fs)) ∧ xs = [.ref a, c] ∧ (∀ u, RelV c u → u = cv) ∧ PySem.W.kitOne K cls cv = some b ∧ Q (.bl b) H
theorem call_isX {X : Cx} {K : PySem.W.Frag} {a : Addr} {cls : Value} {d : Option Addr} (p : PinAt X a cls d) (hK : X.K = K := by rfl) : CallR X (.builtin "isinstance") (rIsX K cls d a) := by
  subst hK
  intro pins s σ H xs us Q I r h
  obtain ⟨C, c, cv, b, rfl, xc, hd, rfl, hcv, e, q⟩ := h
  cases r with
  | cons rx rr =>
    cases rr with
    | cons rt rr =>
      cases rr
      cases rx
      cases hcv _ rt
      obtain ⟨oe, od, J⟩ := p.inst I hd
      exact PySem.W.kia_one (PySem.W.kitx_exc xc.cl xc.ga xc.gg xc.sb xc.cc xc.sp xc.tk xc.mo) I.kIn J e (fun z => nomatch z) fun tk => ⟨.bl b, H, I.kept (t' := tk) fun _ _ z => z, rfl, q⟩
def rIsXT (K : PySem.W.Frag) (cls : Value) (d : Option Addr) (a : Addr) : List V → Hp → VK → Prop := fun xs H Q => ∃ (C : Addr) (tp : Addr) (cs : List V) (us : List Value) (b : Bool), cls = .ref C ∧ XcC K C ∧ (∀ dd, d = some dd → ∃ fs, H dd = some (.xd fs)) ∧ xs = [.ref a, .ref tp] ∧ H tp = some (.tup cs) ∧ Paired (fun c u => ∀ v, RelV c v → v = u) cs us ∧ PySem.W.kitAny K cls us = some b ∧ Q (.bl b) H
theorem paired_vals : ∀ {cs : List V} {us vs : List Value}, Paired (fun c u => ∀ v, RelV c v → v = u) cs us → Vals cs vs → vs = us
  | _, _, _, .nil, .nil => rfl
  | _, _, _, .cons h g, .cons r s => by rw [h _ r, paired_vals g s]
theorem call_isXT {X : Cx} {K : PySem.W.Frag} {a : Addr} {cls : Value} {d : Option Addr} (p : PinAt X a cls d) (hK : X.K = K := by rfl) : CallR X (.builtin "isinstance") (rIsXT K cls d a) := by
  subst hK
  intro pins s σ H xs us Q I r h
  obtain ⟨C, tp, cs, ws, b, rfl, xc, hd, rfl, ht, hp, e, q⟩ := h
  cases r with
  | cons rx rr =>
    cases rr with
    | cons rt rr =>
      cases rr
      cases rx
      cases rt
      obtain ⟨oe, od, J⟩ := p.inst I hd
      obtain ⟨_, its, rv, o, g1, g2, n, g3⟩ := (I.hok tp _ ht : ObjOk X.prog X.w H s.heap tp (.tup cs))
      cases paired_vals hp rv
      obtain ⟨oc, odd, dt, sl⟩ := o
      simp only at g2 g3
      subst g2 g3
      exact PySem.W.kia_tup (PySem.W.kitx_exc xc.cl xc.ga xc.gg xc.sb xc.cc xc.sp xc.tk xc.mo) I.kIn J g1 e (fun z => nomatch z) fun tk => ⟨.bl b, H, I.tok tk, rfl, q⟩
/-- e.f -/
def tXfG (K : PySem.W.Frag) (a : Addr) (cls : Value) (d : Option Addr) (f : Str) (te : TE) : TE := fun σ H Q => te σ H fun x H1 => x = .ref a ∧ ∃ (C dd : Addr) (fs : List (Str × V)) (v : V), cls = .ref C ∧ XfC K C ∧ PySem.W.findIn K (.ref C) f = some none ∧ d = some dd ∧ H1 dd = some (.xd fs) ∧ fs.lookup f = some v ∧ Q v H1
theorem pe_xfG {X : Cx} {K : PySem.W.Frag} {a : Addr} {cls : Value} {d : Option Addr} {e : Expr} {te : TE} {pos : Pos} {n : Str} (p : PinAt X a cls d) (he : PE X e te) (hK : X.K = K := by rfl) (hb : attributeBase e n X.env (eval e X.env) = eval e X.env := by rfl) :
    PE X (.Attribute e n pos) (tXfG K a cls d n te) := by
  subst hK
  refine ⟨fun pins s σ H Q I h => attr_of hb (thn (he.run pins s σ H _ I h) fun u s1 hh => ?_)⟩
  obtain ⟨x, H1, I1, rx, rfl, C, dd, fs, v, rfl, xc, no, rfl, ea, lk, q⟩ := hh
  cases (show u = Value.ref a from rx)
  obtain ⟨oe, hm, h1, h2, fv, hv⟩ := p.ex
  have hget := (I1.pin (a, oe) (List.mem_append_left _ hm)).1
  obtain ⟨mA, hns, hr⟩ := (I1.hok dd _ ea : ObjOk X.prog X.w H1 s1.heap dd (.xd fs))
  obtain ⟨od, ho, hl⟩ := lookIn_ns hns
  obtain ⟨w, hw, rw⟩ := RelO.some_of (v := v) (o := mA n) (by rw [← lk]; exact hr n)
  have J : PySem.W.InstAt s1.heap a oe C (some od) := ⟨hget, h1, by unfold PySem.W.notCls; rw [hv] <;> rfl, by rw [h2]; exact ho⟩
  exact HandSPX.exc_get I1.kIn J xc.ga xc.gg xc.exC (PySem.W.findObj_own xc.hdC no rfl (by rw [hl, hw])) (handed_of rw) ⟨v, H1, I1.tok _, rw, q⟩
/-! ### the same by data -/
def exnAt (ρ : DEnv) (i : Nat) (a : Addr) (d : Option Addr) (k : Exn → Prop) : Prop := match ρ[i]? with
  | some (some (.exn a' d' x)) => a' = a ∧ d' = d ∧ k x
  | _ => False
theorem XRep.xd {K : PySem.W.Frag} {Hr : Hp} {d : Option Addr} {x : Exn} (h : XRep K Hr d x) {H : Hp} (e : Same Hr H) : ∀ dd, d = some dd → ∃ fs, H dd = some (.xd fs) := fun dd z => by
  unfold XRep at h
  split at h
  · rw [h] at z
    cases z
  · obtain ⟨a, fvs, h1, h2, _⟩ := h
    rw [h1] at z
    cases z
    exact ⟨_, e _ _ h2⟩
section
variable {K : PySem.W.Frag} {W : WXT}
/-- the same, of an exception that may have stood at the entry -/
def excAt (ρ : DEnv) (i : Nat) (a : Addr) (d : Option Addr) (k : Exn → Prop) : Prop := match ρ[i]? with
  | some (some (.exn a' d' x)) => a' = a ∧ d' = d ∧ k x
  | some (some (.exo a' d' x)) => a' = a ∧ d' = d ∧ k x
  | _ => False
theorem excAt_of {F : Fr} {σ : L2.St} {ρ : DEnv} {H : Hp} {i : Nat} {a : Addr} {d : Option Addr} {k : Exn → Prop} (E : Env F σ ρ H) (h : excAt ρ i a d k) : ∃ x, k x ∧ σ[i]? = some (some (.ref a)) ∧ ∃ r, XRep F.K (F.RH (OwnA σ ρ) H r) d x := by
  unfold excAt at h
  split at h
  · rename_i a' d' x e
    obtain ⟨rfl, rfl, hk⟩ := h
    obtain ⟨g1, g2⟩ := E.raw i _ e
    exact ⟨x, hk, g1, true, g2⟩
  · rename_i a' d' x e
    obtain ⟨rfl, rfl, hk⟩ := h
    obtain ⟨g1, g2⟩ := E.raw i _ e
    exact ⟨x, hk, g1, false, g2⟩
  · exact h.elim
def dIsX (K : PySem.W.Frag) (cls : Value) (d : Option Addr) (a : Addr) (i : Nat) (v : Value) : DW := fun _ ρ R => excAt ρ i a d fun x => cls = .ref (He.ga K x.c) ∧ XcC K (He.ga K x.c) ∧ ∃ b, PySem.W.kitOne K (.ref (He.ga K x.c)) v = some b ∧ R (.v true (.bl b)) ρ
theorem exnAt_of {F : Fr} {σ : L2.St} {ρ : DEnv} {H : Hp} {i : Nat} {a : Addr} {d : Option Addr} {k : Exn → Prop} (E : Env F σ ρ H) (h : exnAt ρ i a d k) : ∃ x, k x ∧ σ[i]? = some (some (.ref a)) ∧ XRep F.K (F.RH (OwnA σ ρ) H true) d x := by
  unfold exnAt at h
  split at h
  · rename_i a' d' x e
    obtain ⟨rfl, rfl, hk⟩ := h
    obtain ⟨g1, g2⟩ := E.raw i _ e
    exact ⟨x, hk, g1, g2⟩
  · exact h.elim
instance {cls : Value} {d : Option Addr} {a : Addr} {i : Nat} {C : Addr} : DE K W (tCB (rIsX K cls d a) (tCons (tVar i) (tCons (tC (.ref C)) tNil))) (dIsX K cls d a i (.ref C)) where
  ok := fun {F σ H ρ X R Q} hK E L h q => by
    subst hK
    obtain ⟨x, ⟨ec, xc, b, hb, hR⟩, g1, _, g2⟩ := excAt_of E h
    exact ⟨_, g1, _, _, _, _, ec, xc, g2.xd rh_le, rfl, (fun u r => r), by rw [ec]; exact hb, q _ ρ _ H hR E (.refl _ _) (.bl b)⟩
instance {cls : Value} {d : Option Addr} {a : Addr} {i : Nat} {t : String} : DE K W (tCB (rIsX K cls d a) (tCons (tVar i) (tCons (tC (.ty t)) tNil))) (dIsX K cls d a i (.type t)) where
  ok := fun {F σ H ρ X R Q} hK E L h q => by
    subst hK
    obtain ⟨x, ⟨ec, xc, b, hb, hR⟩, g1, _, g2⟩ := excAt_of E h
    exact ⟨_, g1, _, _, _, _, ec, xc, g2.xd rh_le, rfl, (fun u r => r), by rw [ec]; exact hb, q _ ρ _ H hR E (.refl _ _) (.bl b)⟩
/-- a tuple of classes -/
class DCs (t : TA) (cs : outParam (List Addr)) : Prop where
  ok : ∀ (σ : L2.St) (H : Hp) (Q : List V → Hp → Prop), Q (cs.map V.ref) H → t σ H Q
instance : DCs tNil [] where
  ok := fun _ _ _ h => h
instance {C : Addr} {t : TA} {cs : List Addr} [B : DCs t cs] : DCs (tCons (tC (.ref C)) t) (C :: cs) where
  ok := fun σ H Q h => B.ok σ H _ h
def kitsOf (K : PySem.W.Frag) (t : Value) : List Addr → List Bool → Prop
  | [], [] => True
  | c :: cs, b :: bs => PySem.W.kitOne K t (.ref c) = some b ∧ kitsOf K t cs bs
  | _, _ => False
theorem kits_any {K : PySem.W.Frag} {t : Value} : ∀ {cs : List Addr} {bs : List Bool}, kitsOf K t cs bs → PySem.W.kitAny K t (cs.map Value.ref) = some (bs.any id)
  | [], [], _ => rfl
  | c :: cs, b :: bs, h => by
    have := kits_any h.2
    rw [List.map_cons, List.any_cons]
    unfold PySem.W.kitAny
    rw [h.1]
    cases b with
    | true => rfl
    | false => exact this
  | [], _ :: _, h => h.elim
  | _ :: _, [], h => h.elim
def dIsXT (K : PySem.W.Frag) (cls : Value) (d : Option Addr) (a : Addr) (i : Nat) (cs : List Addr) : DW := fun _ ρ R => excAt ρ i a d fun x => cs.length ≤ sizeLine ∧ cls = .ref (He.ga K x.c) ∧ XcC K (He.ga K x.c) ∧ ∃ bs, kitsOf K (.ref (He.ga K x.c)) cs bs ∧ R (.v true (.bl (bs.any id))) ρ
theorem cs_paired : ∀ cs : List Addr, Paired (fun (c : V) (u : Value) => ∀ v, RelV c v → v = u) (cs.map V.ref) (cs.map Value.ref)
  | [] => .nil
  | c :: cs => .cons (fun _ r => r) (cs_paired cs)
instance {cls : Value} {d : Option Addr} {a : Addr} {i : Nat} {t : TA} {cs : List Addr} [B : DCs t cs] : DE K W (tCB (rIsXT K cls d a) (tCons (tVar i) (tCons (tTup t) tNil))) (dIsXT K cls d a i cs) where
  ok := fun {F σ H ρ X R Q} hK E L h q => by
    subst hK
    obtain ⟨x, ⟨hl, ec, xc, bs, hb, hR⟩, g1, _, g2⟩ := excAt_of E h
    refine ⟨_, g1, B.ok σ H _ ⟨?_, fun tp np => ?_⟩⟩
    · rw [List.length_map]
      exact hl
    have sm : Same H (upd H tp (.tup (cs.map V.ref))) := same_new np
    refine ⟨_, tp, _, _, _, ec, xc, fun dd z => ?_, rfl, upd_same, cs_paired cs, by rw [ec]; exact kits_any hb, q _ ρ _ _ hR (E.grow sm) (.same sm) (.bl _)⟩
    obtain ⟨fs, hfs⟩ := g2.xd rh_le dd z
    exact ⟨fs, sm _ _ hfs⟩
def dXf (K : PySem.W.Frag) (a : Addr) (cls : Value) (d : Option Addr) (f : Str) (i : Nat) : DW := fun _ ρ R => exnAt ρ i a d fun x => cls = .ref (He.ga K x.c) ∧ FldC K x.c f ∧ match x.fs.lookup f with
  | some v => R (.v true v) ρ
  | none => False
instance {cls : Value} {d : Option Addr} {a : Addr} {f : Str} {i : Nat} : DE K W (tXfG K a cls d f (tVar i)) (dXf K a cls d f i) where
  ok := fun {F σ H ρ X R Q} hK E L h q => by
    subst hK
    obtain ⟨x, ⟨ec, fc, hR⟩, g1, g2⟩ := exnAt_of E h
    refine ⟨_, g1, rfl, ?_⟩
    split at hR
    · rename_i v hv
      unfold XRep at g2
      split at g2
      · rename_i z
        rw [z] at hv
        cases hv
      · rename_i fs
        obtain ⟨dd, fvs, rfl, h2, h3, h4⟩ := g2
        obtain ⟨u, k1, k2⟩ := look_rep h3 h4 hv
        exact ⟨_, dd, fvs, u, ec, fc.xc, fc.no, rfl, rh_le _ _ h2, k1, q _ ρ _ H hR E (.refl _ _) k2⟩
    · exact hR.elim
end
/-! ### try, by data -/
structure DCl where
  c : Str
  i : Option Nat
  w : Addr → Value → Option Addr → DSW
def dEndsAt (i : Nat) (E : DEnds) : DEnds := { nx := fun ρ => noPotB ρ i = true ∧ E.nx (ρ.set i none), rt := E.rt, bk := fun ρ => noPotB ρ i = true ∧ E.bk (ρ.set i none), ct := fun ρ => noPotB ρ i = true ∧ E.ct (ρ.set i none) }
def DCl.go (K : PySem.W.Frag) (l : DCl) (E : DEnds) (x : Exn) (ρ : DEnv) : Prop := match l.i with
  | none => ∀ a d, l.w a (.ref (He.ga K x.c)) d noX E ρ
  | some i => noPotB ρ i = true ∧ ∀ a d, l.w a (.ref (He.ga K x.c)) d noX (dEndsAt i E) (ρ.set i (some (.exn a d x)))
def dCls (K : PySem.W.Frag) (X : XC) (E : DEnds) (x : Exn) (ρ : DEnv) : List DCl → Prop
  | [] => X x ρ
  | l :: ls => ∃ b, PySem.W.exmOne K (.ref (He.ga K x.c)) (.ref (He.ga K l.c)) = some b ∧ ifC b (l.go K E x ρ) (dCls K X E x ρ ls)
def dTry (K : PySem.W.Frag) (ls : List DCl) (tb : DSW) : DSW := fun X E ρ => tb (fun x ρ1 => dCls K X E x ρ1 ls) E ρ
class DCL (K : PySem.W.Frag) (ls : List Cl) (ds : outParam (List DCl)) : Prop where
  ok : ∀ {F : Fr} {σ0 : L2.St} {H0 : Hp} {ρ0 : DEnv} {X : XC} {E : DEnds} {Dn : Ends} {W : WXT}, F.K = K → Env F σ0 ρ0 H0 → XLink F W X σ0 ρ0 H0 →
    (∀ ρ' σ' H', E.nx ρ' → Env F σ' ρ' H' → Stp (OwnA σ0 ρ0) H0 (OwnA σ' ρ') H' → Dn.nx σ' H') →
    (∀ ρ' σ' H', E.bk ρ' → Env F σ' ρ' H' → Stp (OwnA σ0 ρ0) H0 (OwnA σ' ρ') H' → Dn.bk σ' H') →
    (∀ ρ' σ' H', E.ct ρ' → Env F σ' ρ' H' → Stp (OwnA σ0 ρ0) H0 (OwnA σ' ρ') H' → Dn.ct σ' H') →
    (∀ d ρ' σ' v H', E.rt d ρ' → Env F σ' ρ' H' → Stp (OwnA σ0 ρ0) H0 (OwnA σ' ρ') H' → Rep F.K (F.RH (OwnA σ' ρ') H' true) v d → Dn.rt v H') → XLink F (wCls K W Dn ls) (fun x ρ1 => dCls K X E x ρ1 ds) σ0 ρ0 H0
instance {K : PySem.W.Frag} : DCL K [] [] where
  ok := fun hK En L _ _ _ _ => L
instance {K : PySem.W.Frag} {c : Str} {ts : Addr → Value → Option Addr → TS} {w : Addr → Value → Option Addr → DSW} {ls : List Cl} {ds : List DCl} [A : ∀ a cls d, DS K (fun _ _ _ _ => False) (ts a cls d) (w a cls d)] [B : DCL K ls ds] : DCL K (⟨.ref (He.ga K c), none, ts⟩ :: ls) (⟨c, none, w⟩ :: ds) where
  ok := fun {F σ0 H0 ρ0 X E Dn W} hK En L nx bk ct rt x ρ' σ' dd H' hx E' s' r' => by
    subst hK
    obtain ⟨b, eb, hx⟩ := hx
    refine ⟨b, eb, fun z a na => ?_, fun z => ?_⟩
    · subst z
      exact (A a _ dd).ok rfl E' XLink.no (hx.t a dd) (fun ρ2 σ2 H2 h2 E2 s2 => nx ρ2 σ2 H2 h2 E2 (s'.trans s2)) (fun ρ2 σ2 H2 h2 E2 s2 => bk ρ2 σ2 H2 h2 E2 (s'.trans s2)) (fun ρ2 σ2 H2 h2 E2 s2 => ct ρ2 σ2 H2 h2 E2 (s'.trans s2)) fun d ρ2 σ2 v H2 h2 E2 s2 r2 => rt d ρ2 σ2 v H2 h2 E2 (s'.trans s2) r2
    · subst z
      exact B.ok rfl En L nx bk ct rt x ρ' σ' dd H' hx.f E' s' r'
theorem Env.setExn {F : Fr} {σ : L2.St} {ρ : DEnv} {H : Hp} {i : Nat} {a : Addr} {d : Option Addr} {x : Exn} (E : Env F σ ρ H) (hp : noPot ρ i) (h : XRep F.K (F.RH (OwnA σ ρ) H true) d x) :
    Env F (σ.set i (some (.ref a))) (ρ.set i (some (.exn a d x))) H ∧ Stp (OwnA σ ρ) H (OwnA (σ.set i (some (.ref a))) (ρ.set i (some (.exn a d x)))) H :=
  E.setN hp (fun _ _ z => by cases z) (fun r' d' z => by cases z) fun u z => by
    cases z
    exact ⟨rfl, h⟩
instance {K : PySem.W.Frag} {c : Str} {i : Nat} {ts : Addr → Value → Option Addr → TS} {w : Addr → Value → Option Addr → DSW} {ls : List Cl} {ds : List DCl} [A : ∀ a cls d, DS K (fun _ _ _ _ => False) (ts a cls d) (w a cls d)] [B : DCL K ls ds] : DCL K (⟨.ref (He.ga K c), some i, ts⟩ :: ls) (⟨c, some i, w⟩ :: ds) where
  ok := fun {F σ0 H0 ρ0 X E Dn W} hK En L nx bk ct rt x ρ' σ' dd H' hx E' s' r' => by
    subst hK
    obtain ⟨b, eb, hx⟩ := hx
    refine ⟨b, eb, fun z a na => ?_, fun z => ?_⟩
    · subst z
      obtain ⟨np, hx⟩ : noPotB ρ' i = true ∧ ∀ a d, w a (.ref (He.ga F.K x.c)) d noX (dEndsAt i E) (ρ'.set i (some (.exn a d x))) := hx.t
      obtain ⟨E1, s1⟩ := E'.setExn (a := a) (noPot_of np) r'
      have s01 := s'.trans s1
      refine (A a _ dd).ok rfl E1 XLink.no (hx a dd) (fun ρ2 σ2 H2 h2 E2 s2 => ?_) (fun ρ2 σ2 H2 h2 E2 s2 => ?_) (fun ρ2 σ2 H2 h2 E2 s2 => ?_) fun d ρ2 σ2 v H2 h2 E2 s2 r2 => rt d ρ2 σ2 v H2 h2 E2 (s01.trans s2) r2
      · obtain ⟨E3, s3⟩ := E2.setNo (i := i) (noPot_of h2.1)
        exact nx _ _ H2 h2.2 E3 ((s01.trans s2).trans s3)
      · obtain ⟨E3, s3⟩ := E2.setNo (i := i) (noPot_of h2.1)
        exact bk _ _ H2 h2.2 E3 ((s01.trans s2).trans s3)
      · obtain ⟨E3, s3⟩ := E2.setNo (i := i) (noPot_of h2.1)
        exact ct _ _ H2 h2.2 E3 ((s01.trans s2).trans s3)
    · subst z
      exact B.ok rfl En L nx bk ct rt x ρ' σ' dd H' hx.f E' s' r'
instance {K : PySem.W.Frag} {W : WXT} {tb : WX → TS} {wb : DSW} {ls : List Cl} {ds : List DCl} [A : ∀ V : WXT, DS K V (tb V) wb] [B : DCL K ls ds] : DS K W (tTryG K tb W ls) (dTry K ds wb) where
  ok := fun {F σ H ρ X E Dn} hK En L h nx bk ct rt => (A _).ok hK En (B.ok hK En L nx bk ct rt) h nx bk ct rt
theorem ps_tryGK {X : Cx} {K : PySem.W.Frag} {body : List Stmt} {hd0 : ExceptHandler} {hds : List ExceptHandler} {ls : List Cl} {pos : Pos} {tb : WX → TS} {Wo : WX} (hst : X.stack = X.env :: X.outer) (hfm : X.env.frame = some X.env.locals) (out : L2N.Takes X Wo)
    (inner : ∀ (V : WX) (pn : List (Addr × Obj)) (xq : Value → Shared → Prop), L2N.Takes (X.tr pn xq) V → PassesOwn (model X.prog X.w) X.A X.env xq → PSs (X.tr pn xq) body (tb V))
    (cl : ClsOk' X (hd0 :: hds) ls) (hK : X.K = K := by rfl) : PS X (.Try body (hd0 :: hds) [] [] pos) (tTryG K tb Wo ls) := by
  subst hK
  exact ps_tryG hst hfm out inner cl
end PW

namespace PW
open PySem PySem.Spec PyProof.Rows L2
/-! ### a comprehension over a slot's own list: the list stays the slot's own -/
def isOw (i : Nat) (r : Bool) (ds : List D) (ρ : DEnv) : Prop := match ρ[i]? with
  | some (some (.ow r' (.lst es))) => r' = r ∧ es = ds
  | _ => False
theorem isOw_eq {i : Nat} {r : Bool} {ds : List D} {ρ : DEnv} (h : isOw i r ds ρ) : ρ[i]? = some (some (.ow r (.lst ds))) := by
  unfold isOw at h
  split at h
  · rename_i e
    rw [e, h.1, h.2]
  · exact h.elim
theorem isOw_of {i : Nat} {r : Bool} {ds : List D} {ρ : DEnv} (h : ρ[i]? = some (some (.ow r (.lst ds)))) : isOw i r ds ρ := by
  unfold isOw
  rw [h]
  exact ⟨rfl, rfl⟩
def notAl : DV → Bool
  | .al _ => false
  | _ => true
def dLcV (i : Nat) (g : DGW) (sl : List Nat) (tt : DTW) (te : DW) (vs : List Nat) : DW := fun X ρ R => match ρ[i]? with
  | some (some (.ow r (.lst ds))) => sl.all (vs.contains ·) = true ∧ vs.contains i = false ∧ noOwn ρ vs = true ∧ noPots ρ vs = true ∧ ds.length ≤ sizeLine ∧
    lcC g (fun X ρ R => tt X ρ fun b ρ' => isOw i r ds ρ' ∧ R b ρ') (fun X ρ R => te X ρ fun y ρ' => isOw i r ds ρ' ∧ notAl y = true ∧ R y ρ') vs (fun ra acc ρ' => noPots ρ' vs = true ∧ R (.fr ra (.lst acc)) (unw ρ' ρ vs)) (ds.map fun d => (r, d)) (wipeD ρ vs)
  | _ => dLc (dIterG (dVar i)) g sl tt te vs X ρ R
section
variable {K : PySem.W.Frag} {W : WXT}
theorem wipeD_ow {ρ : DEnv} {vs : List Nat} {i : Nat} (h : vs.contains i = false) : (wipeD ρ vs)[i]? = ρ[i]? := by
  induction vs with
  | nil => rfl
  | cons v vs ih =>
    rw [List.contains_cons, Bool.or_eq_false_iff] at h
    rw [wipeD, List.getElem?_set_ne (fun z => by rw [z] at h; simp at h), ih h.2]
theorem wipe_ow {σ : L2.St} {vs : List Nat} {i : Nat} (h : vs.contains i = false) : (wipe σ vs)[i]? = σ[i]? := by
  rw [wipe_at, if_neg fun z => ?_]
  rw [List.contains_iff_mem.mpr z.1] at h
  cases h
instance (priority := high) {i : Nat} {g : TG} {wg : DGW} {sl : List Nat} {tt : TT} {wt : DTW} {te : TE} {we : DW} {vs : List Nat} [B : DG K g wg sl] [C : DT K W tt wt] [D' : DE K W te we] : DE K W (tLc (iG K (tVar i)) g tt te vs) (dLcV i wg sl wt we vs) where
  ok := fun {F σ H ρ X R Q} hK E L h q => by
    unfold dLcV at h
    split at h
    · rename_i r ds hi0
      obtain ⟨hsl, hiv, hno, hnp, hsz, h1⟩ := h
      obtain ⟨b, hb, ⟨bvs, hbl, hbr⟩, _⟩ := E.ow i _ _ hi0
      subst hK
      refine ⟨_, hb, .inl ⟨b, rfl, ⟨_, SqL.of hbl⟩, ?_⟩⟩
      rw [lcC_eq] at h1
      intro a ha
      obtain ⟨n0, nh, nO, npt⟩ := E.new ha
      have Eh : PW.Env (F.hide a) σ ρ (upd H a (.lst [])) := E.hideNew ha (same_new ha) ⟨_, upd_same⟩
      obtain ⟨Ew, sw⟩ := Eh.wiped hnp
      have sH1 : Stp (OwnA σ ρ) H (OwnA σ ρ) (upd H a (.lst [])) := .same (same_new ha)
      have hbw : (wipe σ vs)[i]? = some (some (.ref b)) := by rw [wipe_ow hiv]; exact hb
      have own : ∀ {ρ2} {H2 : Hp}, PW.Env (F.hide a) (wipe σ vs) ρ2 H2 → isOw i r ds ρ2 → ∃ bvs, H2 b = some (.lst bvs) ∧ RepL F.K ((F.hide a).RH (OwnA (wipe σ vs) ρ2) H2 r) bvs ds := fun {ρ2 H2} E2 o2 => by
        obtain ⟨b', k1, ⟨w, k2, k3⟩, _⟩ := E2.ow i _ _ (isOw_eq o2)
        rw [hbw] at k1
        cases k1
        exact ⟨w, k2, k3⟩
      have len : (ds.map fun d => (r, d)).length = ds.length := List.length_map ..
      let kk : Bool → List D → DEnv → Prop := fun ra acc ρ' => noPots ρ' vs = true ∧ R (.fr ra (.lst acc)) (unw ρ' ρ vs)
      let wt' : DTW := fun X ρ R => wt X ρ fun b ρ' => isOw i r ds ρ' ∧ R b ρ'
      let we' : DW := fun X ρ R => we X ρ fun y ρ' => isOw i r ds ρ' ∧ notAl y = true ∧ R y ρ'
      refine ⟨fun j m H2 => m = ds.length - j ∧ j ≤ ds.length ∧ ∃ ra acc vacc ρ2, PW.Env (F.hide a) (wipe σ vs) ρ2 H2 ∧ Stp (OwnA σ ρ) H (OwnA (wipe σ vs) ρ2) H2 ∧ isOw i r ds ρ2 ∧ H2 a = some (.lst vacc) ∧ RepL F.K ((F.hide a).RH (OwnA (wipe σ vs) ρ2) H2 ra) vacc acc ∧ acc.length ≤ j ∧
          dLcL wg wt' we' vs kk ((ds.map fun d => (r, d)).drop j) ra acc ρ2,
        ⟨_, rfl, Nat.zero_le _, true, [], [], _, Ew, sH1.trans sw, isOw_of (by rw [wipeD_ow hiv]; exact hi0), upd_same, .nil, Nat.le_refl _, h1⟩, ?_⟩
      rintro j m H2 ⟨rfl, hj, ra, acc, vacc, ρ2, E2, s2, o2, ha2, racc, hal, h2⟩
      obtain ⟨wv, hw1, hw2⟩ := own E2 o2
      by_cases hlt : j < ds.length
      · obtain ⟨xv, hx1, hx2⟩ := hw2.get (List.getElem?_eq_getElem hlt)
        refine .inr ⟨⟨wv, xv, SqL.of hw1, hx1⟩, fun H3 => j + 1 ≤ ds.length ∧ ∃ ra acc vacc ρ2, PW.Env (F.hide a) (wipe σ vs) ρ2 H3 ∧ Stp (OwnA σ ρ) H (OwnA (wipe σ vs) ρ2) H3 ∧ isOw i r ds ρ2 ∧ H3 a = some (.lst vacc) ∧ RepL F.K ((F.hide a).RH (OwnA (wipe σ vs) ρ2) H3 ra) vacc acc ∧ acc.length ≤ j + 1 ∧
            dLcL wg wt' we' vs kk ((ds.map fun d => (r, d)).drop (j + 1)) ra acc ρ2, fun H3 z => ⟨ds.length - (j + 1), by omega, rfl, z⟩, fun x H3 y => ?_⟩
        obtain ⟨rfl, y⟩ := y
        have hx := y _ (SqL.of hw1)
        rw [hx1] at hx
        cases hx
        rw [List.drop_eq_getElem_cons (by rw [len]; exact hlt), List.getElem_map] at h2
        refine B.ok (F := F.hide a) rfl E2 (p := (r, ds[j])) hx2 h2 fun ρ4 σ4 h4 E4 s4 n4 l4 => ?_
        have hw : wipe σ4 vs = wipe σ vs := by
          rw [← wipe_wipe σ vs]
          refine wipe_eq l4 fun j hj => n4 j fun z => hj ?_
          have := List.all_eq_true.mp hsl j z
          simpa using this
        refine ⟨hw, ?_⟩
        have nOwn : ∀ {σ' ρ'} {H' : Hp}, PW.Env (F.hide a) σ' ρ' H' → ¬ OwnA σ' ρ' a := fun {σ' ρ' H'} E' z => E'.ownHid z (.inl rfl)
        refine C.ok (F := F.hide a) rfl E4 XLink.no h4 fun b5 ρ5 H5 h5 E5 s5 => ?_
        obtain ⟨o5, h5⟩ := h5
        have s25 := s4.trans s5
        cases b5 with
        | true =>
          rw [ifC_t] at h5
          rw [if_pos rfl]
          refine D'.ok (F := F.hide a) rfl E5 XLink.no h5 fun yv ρ6 v6 H6 h6 E6 s6 r6 => ?_
          obtain ⟨o6, na6, h6⟩ := h6
          have s26 := s25.trans s6
          have r6' : RepV (F.hide a) H5 σ4 ρ6 H6 v6 yv.tmp := r6.stp E6 (.refl _ _)
          split at h6
          · rename_i ry dy ρ7 e7
            have e76 : ρ7 = ρ6 := by
              cases yv with
              | v r d =>
                cases e7
                rfl
              | fr r d =>
                cases e7
                rfl
              | al j => cases na6
            subst e76
            obtain ⟨E7, s7, p7⟩ := r6'.st E6 e7
            obtain ⟨np7, h7⟩ := h6
            obtain ⟨E8, s8⟩ := E7.wiped np7
            rw [hw] at E8 s8
            have s28 := (s26.trans s7).trans s8
            have ha8 : H6 a = some (.lst vacc) := (s28.kp a _ ha2 (nOwn E2)).1
            have racc8 : RepL F.K ((F.hide a).RH (OwnA (wipe σ vs) (wipeD ρ7 vs)) H6 ra) vacc acc := racc.mono (E2.rh s28)
            have p8 : Rep F.K ((F.hide a).RH (OwnA (wipe σ vs) (wipeD ρ7 vs)) H6 ry) v6 dy := p7.mono (E7.rh s8)
            have nt : ∀ xs, (HO.lst vacc) ≠ .tup xs := fun _ z => by cases z
            refine ⟨vacc, ha8, by rw [racc.len]; omega, hlt, ra && ry, acc ++ [dy], vacc ++ [v6], wipeD ρ7 vs, E8.hidUpd n0 ha8 nt, (s2.trans s28).updNew ha, isOw_of (by rw [wipeD_ow hiv]; exact isOw_eq o6), upd_same, ?_, by rw [List.length_append, List.length_singleton]; omega, h7⟩
            exact (RepL.both (F := F.hide a) racc8 (.one p8)).mono (rh_hid (F := F.hide a) (Or.inl rfl) ha8 nt _)
          · exact h6.elim
        | false =>
          rw [ifC_f] at h5
          rw [if_neg Bool.false_ne_true]
          obtain ⟨np7, h7⟩ := h5
          obtain ⟨E8, s8⟩ := E5.wiped np7
          rw [hw] at E8 s8
          have s28 := s25.trans s8
          have ha8 : H5 a = some (.lst vacc) := (s28.kp a _ ha2 (nOwn E2)).1
          exact ⟨hlt, ra, acc, vacc, wipeD ρ5 vs, E8, s2.trans s28, isOw_of (by rw [wipeD_ow hiv]; exact isOw_eq o5), ha8, racc.mono (E2.rh s28), by omega, h7⟩
      · have e : j = ds.length := by omega
        subst e
        rw [List.drop_of_length_le (by rw [len]; exact Nat.le_refl _)] at h2
        obtain ⟨np2, h2⟩ := h2
        refine .inl ⟨⟨wv, SqL.of hw1, by rw [hw2.len]; exact Nat.le_refl _⟩, ?_⟩
        have upx : ∀ r, Same (F.RH (OwnA σ ρ) H r) ((F.hide a).RH (OwnA (wipe σ vs) ρ2) H2 r) := fun r b o hb => by
          obtain ⟨hb1, hb2⟩ := cut_inv hb
          have hba : b ≠ a := ne_of_none hb1 ha
          rcases Classical.em (F.bad (OwnA σ ρ) r b) with bad | bad
          · rcases hb2 with hb2 | ⟨xs, rfl⟩
            · exact absurd bad hb2
            · exact cut_tup (s2.tup E b xs hb1)
          · obtain ⟨k1, k2⟩ := s2.kp b o hb1 fun z => bad (.inr (.inl z))
            refine cut_of k1 fun z => ?_
            rcases z with (z | z) | z | z
            · exact hba z
            · exact bad (.inl z)
            · exact k2 z
            · exact bad (.inr (.inr z))
        obtain ⟨E9, s9, _⟩ := E2.back (σ0 := σ) (ρ0 := ρ) E.len (fun v r d z => by
          obtain ⟨u, z1, z2⟩ := E.sh v r d z
          exact ⟨u, z1, z2.mono (upx r)⟩) (fun i s hi => (E.raw i s hi).mono upx) np2 hno
        rw [unw_wipe] at E9 s9
        refine q _ _ _ _ h2 E9.unhide (s2.trans s9) ⟨a, rfl, ha, nh, n0, rfl, E9, ?_⟩
        rw [ha2]
        exact ⟨vacc, rfl, racc.mono (E2.rh s9)⟩
    · have A : DE K W (tLc (iG K (tVar i)) g tt te vs) (dLc (dIterG (dVar i)) wg sl wt we vs) := inferInstance
      exact A.ok hK E L h q
end
theorem pi_enumG {X : Cx} {K : PySem.W.Frag} {e : Expr} {ta : TA} {p pos tpos : Pos} {elts : List Expr} {kk : Nat} (hg : Gl X "enumerate") (hm : X.mg "enumerate" = none) (ha : PA X [e] ta) (hK : X.K = K := by rfl) (hs : starEach [e] X.env = [(false, eval e X.env)] := by rfl) :
    PI X (.Tuple elts kk tpos) (.Call (.Name "enumerate" p) [e] [] pos) (iEnum K ta) := by
  subst hK
  exact pi_enum hg hm ha hs
end PW

namespace PW
open PySem PySem.Spec PyProof.Rows L2
/-! ### refusals held as values -/
/-- what makes an exception, as a value -/
def tVal (t : L2.St → Hp → XK → Prop) : TE := fun σ H Q => t σ H fun cls d H' => ∀ (a : Addr) (oe : Obj), H' a = none → oe.cls = cls → oe.dict = d → (∃ fv, oe.data = .fields fv) → Q (.ref a) (upd H' a (exH a oe))
theorem pe_ofMk {X : Cx} {e : Expr} {t : L2.St → Hp → XK → Prop} (h : L2N.PMk X e t) : PE X e (tVal t) := by
  refine ⟨fun pins s σ H Q I w => wpAny_mono (h pins s σ H _ I w) (fun u s' hu => ?_) fun _ _ z => z⟩
  obtain ⟨a, oe, vs, sI, H', cls, d, rfl, J, k, hne, ha, hz, hd, h1, na, os, ag, r, q⟩ := hu
  refine ⟨.ref a, upd H' a (exH a oe), ?_, rfl, q a oe na hz.1 hz.2.1 ⟨vs, hd⟩⟩
  exact J.call' (ch := []) os (Un.laidN k hne na) (J.hok.laidN k na ⟨ha, ha, ⟨oe, ha⟩, fun _ _ z y => y _ z⟩) ag (fun _ z => nomatch z)
section
variable {X : Cx} {C : Addr} {bmB : List Value} {B newId initId : String} {x : Str} {p pos : Pos}
theorem pmkA {e : Expr} {es : List Expr} {ta : TA} (F : ExcBaseFacts B newId initId bmB) (q : PySem.W.excIn X.K C bmB newId = true) (gC : X.mg x = some (.ref C)) (kC : PySem.W.keepIn X.K (.ref C) = true) (r : Raises X (.ref C)) (hg : Gl X x) (ha : PA X (e :: es) ta)
    (hdb : (x == ("__debug__" : Str)) = false := by decide) (he : starEach (e :: es) X.env = (false, eval e X.env) :: starEach es X.env := by rfl) (hpl : (backTo pos (starEach es X.env)).any (·.1) = false := by rfl) :
    L2N.PMk X (.Call (.Name x p) (e :: es) [] pos) (fun σ H Q => ta σ H fun vs H1 => vs.length ≤ 1000 ∧ Q (.ref C) none H1) := by
  intro pins s σ H Q I h
  refine wpAny_Call_Name_kw (ld_glob I hg gC ?_ hdb)
  refine PySem.W.callWith_K (h₀ := X.base) I.ok.mod.kin kC (thn (ha.run pos pins s σ H _ I h) fun us s1 ⟨vs, H1, I1, rv, hl, q1⟩ => ⟨I1.kIn, ?_⟩) he hpl
  show wpAny _ _ (call (.ref C) us) _ _ _
  have ul : us.length ≤ sizeLine := by
    rw [← Paired.length rv, sizeLine_eq]
    omega
  obtain ⟨bm, N, nm, qn, bs, hdct, sn, sub, ab, col, dd, k0, k1, k2, k3, k5, mN, hC, hN, hni, T⟩ := exc_obj I1.kIn q
  exact wpAny_call_exc_subT F T hC hN hni (fun h' a hm => L2N.mk_of I1 hm r q1 (I1.hok.gone hm.new)) ul
theorem pmk0 (F : ExcBaseFacts B newId initId bmB) (q : PySem.W.excIn X.K C bmB newId = true) (gC : X.mg x = some (.ref C)) (kC : PySem.W.keepIn X.K (.ref C) = true) (r : Raises X (.ref C)) (hg : Gl X x) (hdb : (x == ("__debug__" : Str)) = false := by decide) :
    L2N.PMk X (.Call (.Name x p) [] [] pos) (fun _ H Q => Q (.ref C) none H) := by
  intro pins s σ H Q I h
  refine wpAny_Call_Name_kw (ld_glob I hg gC ?_ hdb)
  refine PySem.W.callWith_K0 I.kIn kC ?_
  show wpAny _ _ (call (.ref C) []) _ _ _
  obtain ⟨bm, N, nm, qn, bs, hdct, sn, sub, ab, col, dd, k0, k1, k2, k3, k5, mN, hC, hN, hni, T⟩ := exc_obj I.kIn q
  exact wpAny_call_exc_subT F T hC hN hni (fun h' a hm => L2N.mk_of I hm r h (I.hok.gone hm.new)) (by show 0 ≤ sizeLine; exact Nat.zero_le _)
end
/-- C(), C(e) -/
def tEx0 (C : Addr) : TE := tVal fun _ H Q => Q (.ref C) none H
def tEx1 (C : Addr) (ta : TA) : TE := tVal fun σ H Q => ta σ H fun vs H1 => vs.length ≤ 1000 ∧ Q (.ref C) none H1
theorem pe_ex0 {X : Cx} {x : Str} {C : Addr} {p pos : Pos} (o : ExcOk X.K C) (g : X.mg x = some (.ref C)) (hg : Gl X x) (h1 : (x == ("__debug__" : Str)) = false := by decide) : PE X (.Call (.Name x p) [] [] pos) (tEx0 C) :=
  pe_ofMk (pmk0 PySem.F.excBase_ValueError o.ex g o.kp (raises_own o.sb o.ty) hg h1)
theorem pe_ex1 {X : Cx} {x : Str} {C : Addr} {e : Expr} {es : List Expr} {ta : TA} {p pos : Pos} (o : ExcOk X.K C) (g : X.mg x = some (.ref C)) (hg : Gl X x) (ha : PA X (e :: es) ta) (h1 : (x == ("__debug__" : Str)) = false := by decide)
    (he : starEach (e :: es) X.env = (false, eval e X.env) :: starEach es X.env := by rfl) (hpl : (backTo pos (starEach es X.env)).any (·.1) = false := by rfl) : PE X (.Call (.Name x p) (e :: es) [] pos) (tEx1 C ta) :=
  pe_ofMk (pmkA PySem.F.excBase_ValueError o.ex g o.kp (raises_own o.sb o.ty) hg ha h1 he hpl)
/-- C(e, ..), C's own __init__ keeps its values -/
def tExI (C : Addr) (fs : List Str) (ta : TA) : TE := tVal fun σ H Q => L2.tMkO C (spXi C fs) [] ta σ H Q
theorem pe_exI {X : Cx} {x : Str} {C : Addr} {fs : List Str} {j k : Nat} {e : Expr} {es : List Expr} {ta : TA} {p pos : Pos} (o : OiOk X.prog X.w X.K X.mg X.base k x C fs) (hr : Room j X.A) (hk : k + 1 ≤ j) (hg : Gl X x) (ha : PA X (e :: es) ta)
    (hdb : (x == ("__debug__" : Str)) = false := by decide) (he : starEach (e :: es) X.env = (false, eval e X.env) :: starEach es X.env := by rfl) (hpl : (backTo pos (starEach es X.env)).any (·.1) = false := by rfl) :
    PE X (.Call (.Name x p) (e :: es) [] pos) (tExI C fs ta) := by
  obtain ⟨fI, fd, ps, T, iC, tI, F1, hb, hm⟩ := o.ex
  exact pe_ofMk (pmkN T iC tI F1 (hr.mono hk) hb C8.pass0 hg hm ha hdb he hpl)
/-- what of a held refusal is known -/
theorem heldInst {X : Cx} {pins : List (Addr × Obj)} {σ : L2.St} {H : Hp} {s : Shared} {a C : Addr} {oe : Obj} (I : Inv X pins σ H s) (ha : H a = some (exH a oe)) (hc : oe.cls = .ref C) (hf : ∃ fv, oe.data = .fields fv) (hd : ∀ dd, oe.dict = some dd → ∃ fs, H dd = some (.xd fs)) : ∃ od, PySem.W.InstAt s.heap a oe C od := by
  have hget : s.heap.get? a = some oe := (I.hok a _ ha : ObjOk X.prog X.w H s.heap a (exH a oe)).1
  obtain ⟨fv, hv⟩ := hf
  cases e : oe.dict with
  | none => exact ⟨none, hget, hc, by unfold PySem.W.notCls; rw [hv] <;> rfl, by rw [e]; trivial⟩
  | some dd =>
    obtain ⟨fs, ea⟩ := hd dd e
    obtain ⟨mA, hns, hr⟩ := (I.hok dd _ ea : ObjOk X.prog X.w H s.heap dd (.xd fs))
    obtain ⟨od, ho, hl⟩ := lookIn_ns hns
    exact ⟨some od, hget, hc, by unfold PySem.W.notCls; rw [hv] <;> rfl, by rw [e]; exact ho⟩
/-- isinstance(e, C) -/
def rIsV (K : PySem.W.Frag) : List V → Hp → VK → Prop := fun xs H Q => ∃ (a C : Addr) (oe : Obj) (c : V) (cv : Value) (b : Bool), H a = some (exH a oe) ∧ oe.cls = .ref C ∧ (∃ fv, oe.data = .fields fv) ∧ (∀ dd, oe.dict = some dd → ∃ fs, H dd = some (.xd fs)) ∧ XcC K C ∧ xs = [.ref a, c] ∧ (∀ u, RelV c u → u = cv) ∧ PySem.W.kitOne K (.ref C) cv = some b ∧ Q (.bl b) H
theorem call_isV {X : Cx} {K : PySem.W.Frag} (hK : X.K = K := by rfl) : CallR X (.builtin "isinstance") (rIsV K) := by
  subst hK
  intro pins s σ H xs us Q I r h
  obtain ⟨a, C, oe, c, cv, b, ha, hc, hf, hd, xc, rfl, hcv, e, q⟩ := h
  cases r with
  | cons rx rr =>
    cases rr with
    | cons rt rr =>
      cases rr
      cases rx
      cases hcv _ rt
      obtain ⟨od, J⟩ := heldInst I ha hc hf hd
      exact PySem.W.kia_one (PySem.W.kitx_exc xc.cl xc.ga xc.gg xc.sb xc.cc xc.sp xc.tk xc.mo) I.kIn J e (fun z => nomatch z) fun tk => ⟨.bl b, H, I.kept (t' := tk) fun _ _ z => z, rfl, q⟩
/-- e.f -/
def tXv (K : PySem.W.Frag) (f : Str) (te : TE) : TE := fun σ H Q => te σ H fun x H1 => ∃ (a C dd : Addr) (oe : Obj) (fs : List (Str × V)) (v : V), x = .ref a ∧ H1 a = some (exH a oe) ∧ oe.cls = .ref C ∧ (∃ fv, oe.data = .fields fv) ∧ XfC K C ∧ PySem.W.findIn K (.ref C) f = some none ∧ oe.dict = some dd ∧ H1 dd = some (.xd fs) ∧ fs.lookup f = some v ∧ Q v H1
theorem pe_xv {X : Cx} {K : PySem.W.Frag} {e : Expr} {te : TE} {pos : Pos} {n : Str} (he : PE X e te) (hK : X.K = K := by rfl) (hb : attributeBase e n X.env (eval e X.env) = eval e X.env := by rfl) :
    PE X (.Attribute e n pos) (tXv K n te) := by
  subst hK
  refine ⟨fun pins s σ H Q I h => attr_of hb (thn (he.run pins s σ H _ I h) fun u s1 hh => ?_)⟩
  obtain ⟨x, H1, I1, rx, a, C, dd, oe, fs, v, rfl, ha, hc, ⟨fv, hv⟩, xc, no, ed, ea, lk, q⟩ := hh
  cases (show u = Value.ref a from rx)
  have hget : s1.heap.get? a = some oe := (I1.hok a _ ha : ObjOk X.prog X.w H1 s1.heap a (exH a oe)).1
  obtain ⟨mA, hns, hr⟩ := (I1.hok dd _ ea : ObjOk X.prog X.w H1 s1.heap dd (.xd fs))
  obtain ⟨od, ho, hl⟩ := lookIn_ns hns
  obtain ⟨w, hw, rw⟩ := RelO.some_of (v := v) (o := mA n) (by rw [← lk]; exact hr n)
  have J : PySem.W.InstAt s1.heap a oe C (some od) := ⟨hget, hc, by unfold PySem.W.notCls; rw [hv] <;> rfl, by rw [ed]; exact ho⟩
  exact HandSPX.exc_get I1.kIn J xc.ga xc.gg xc.exC (PySem.W.findObj_own xc.hdC no rfl (by rw [hl, hw])) (handed_of rw) ⟨v, H1, I1.tok _, rw, q⟩
/-- f() -/
theorem pe_c0 {X : Cx} {k j : Nat} {x : Str} {sp : Sp} {dvs : List V} {p pos : Pos} (c : C8.Cal X.prog X.w X.K X.mg X.base k x sp dvs) (hr : Room j X.A) (hk : k ≤ j) (hg : Gl X x) (hdb : (x == ("__debug__" : Str)) = false := by decide) :
    PE X (.Call (.Name x p) [] [] pos) (tCall sp dvs C8.E0 tNil) := by
  obtain ⟨f, fd, ps, ds, F, hm, kp, b, d⟩ := c.ex
  exact pe_call0 F (hr.mono hk) hg hm kp b d C8.pass0 hdb
end PW

namespace PW
open PySem PySem.Spec PyProof.Rows L2
/-! ### refusals held as values, by data -/
section
variable {K : PySem.W.Frag} {W : WXT}
def dEx0 (c : Str) : DW := fun _ ρ R => R (.v true (.exn c [])) ρ
def dEx1 (c : Str) (u : DAW) : DW := fun X ρ R => u X ρ fun xs ρ1 => xs.length ≤ 1000 ∧ R (.v true (.exn c [])) ρ1
def dExI (c : Str) (fs : List Str) (u : DAW) : DW := fun X ρ R => u X ρ fun xs ρ1 => match sts ρ1 (xs.map DV.tmp) with
  | some (r, ds, ρ2) => ds.length = fs.length ∧ fs ≠ [] ∧ fs.length ≤ 900 ∧ R (.v r (.exn c (List.zip fs ds).reverse)) ρ2
  | none => False
theorem exn0_rep {F : Fr} {σ : L2.St} {ρ : DEnv} {H : Hp} {a : Addr} {oe : Obj} {c : Str} (E : Env F σ ρ H) (na : H a = none) (hc : oe.cls = .ref (He.ga F.K c)) (hd : oe.dict = none) (hf : ∃ fv, oe.data = .fields fv) : Rep F.K (F.RH (OwnA σ ρ) (upd H a (exH a oe)) true) (.ref a) (.exn c []) := by
  refine .exn (fvs := []) (cut_of upd_same (E.newOk na)) hc hf ?_ rfl .nil
  unfold ExF
  rw [hd]
instance {c : Str} : DE K W (tEx0 (He.ga K c)) (dEx0 c) where
  ok := fun {F σ H ρ X R Q} hK E L h q => by
    subst hK
    intro a oe na hc hd hf
    have sm : Same H (upd H a (exH a oe)) := same_new na
    exact q _ ρ _ _ h (E.grow sm) (.same sm) (exn0_rep E na hc hd hf)
instance {c : Str} {t : TA} {u : DAW} [A : DA K W t u] : DE K W (tEx1 (He.ga K c) t) (dEx1 c u) where
  ok := fun {F σ H ρ X R Q} hK E L h q => A.ok hK E L h fun xs ρ1 vs H1 h1 E1 s1 r1 => by
    subst hK
    refine ⟨by rw [Paired.length r1]; exact h1.1, fun a oe na hc hd hf => ?_⟩
    have sm : Same H1 (upd H1 a (exH a oe)) := same_new na
    exact q _ ρ1 _ _ h1.2 (E1.grow sm) (s1.trans (.same sm)) (exn0_rep E1 na hc hd hf)
instance {c : Str} {fs : List Str} {t : TA} {u : DAW} [A : DA K W t u] : DE K W (tExI (He.ga K c) fs t) (dExI c fs u) where
  ok := fun {F σ H ρ X R Q} hK E L h q => A.ok hK E L h fun xs ρ1 vs H1 h1 E1 s1 r1 => by
    subst hK
    split at h1
    · rename_i r ds ρ2 e
      obtain ⟨hl, hne, h9, h1⟩ := h1
      obtain ⟨E2, s2, p2⟩ := sts_rep E1 (dCons_tmp r1) e
      have hv : vs.length = fs.length := p2.len.trans hl
      refine ⟨by omega, fun a na => ⟨a, vs, by rw [List.append_nil], hv, upd_same, fun dx H2 hdx ne g1 g2 g3 => ?_⟩⟩
      have nd : H1 dx = none := by
        rw [upd_ne ne] at hdx
        exact hdx
      refine ⟨rfl, dx, _, g1, g2, nd, ?_⟩
      have eH : upd (L2.del H2 a) dx (.xd (List.zip fs vs).reverse) = upd H1 dx (.xd (List.zip fs vs).reverse) := funext fun b => by
        by_cases e1 : b = dx
        · subst e1
          rw [upd_same, upd_same]
        · rw [upd_ne e1, upd_ne e1]
          by_cases e2 : b = a
          · subst e2
            rw [L2.del_same, na]
          · rw [L2.del_ne e2, g3 b e2 e1, upd_ne e2]
      rw [eH]
      intro b oe nb hc hd hf
      have sm : Same H1 (upd H1 dx (.xd (List.zip fs vs).reverse)) := same_new nd
      have sm2 : Same (upd H1 dx (.xd (List.zip fs vs).reverse)) (upd (upd H1 dx (.xd (List.zip fs vs).reverse)) b (exH b oe)) := same_new nb
      have E3 := E2.grow sm
      have bd : dx ≠ b := fun z => by
        subst z
        rw [upd_same] at nb
        cases nb
      refine q _ ρ2 _ _ h1 (E3.grow sm2) (((s1.trans s2).trans (.same sm)).trans (.same sm2)) ?_
      have up : Same (F.RH (OwnA σ ρ2) H1 r) (F.RH (OwnA σ ρ2) (upd (upd H1 dx (.xd (List.zip fs vs).reverse)) b (exH b oe)) r) := cut_mono (fun b u hb nb => ⟨sm2 _ _ (sm _ _ hb), nb⟩) fun b xs hb _ => sm2 _ _ (sm _ _ hb)
      show Rep F.K _ (.ref b) (.exn c (List.zip fs ds).reverse)
      refine .exn (fvs := (List.zip fs vs).reverse) (cut_of upd_same (E3.newOk nb)) hc hf ?_ ?_ ?_
      · unfold ExF
        rw [hd]
        exact cut_of (by rw [upd_ne bd]; exact upd_same) (E2.newOk nd)
      · show ((List.zip fs vs).reverse.map Prod.fst) = ((List.zip fs ds).reverse.map Prod.fst)
        rw [List.map_reverse, List.map_reverse, zip_fst hv.symm, zip_fst hl.symm]
      · show RepL F.K _ ((List.zip fs vs).reverse.map Prod.snd) ((List.zip fs ds).reverse.map Prod.snd)
        rw [List.map_reverse, List.map_reverse, zip_snd hv.symm, zip_snd hl.symm]
        exact (p2.mono up).rev
    · exact h1.elim
/-- isinstance(e, C) -/
def dIsV (K : PySem.W.Frag) (w : DW) (v : Value) : DW := fun X ρ R => w X ρ fun x ρ1 => match rd ρ1 x with
  | some (_, .exn c _) => XcC K (He.ga K c) ∧ ∃ b, PySem.W.kitOne K (.ref (He.ga K c)) v = some b ∧ R (.v true (.bl b)) ρ1
  | _ => False
theorem exF_xd {H Hr : Hp} {dd : Option Addr} {fvs : List (Str × V)} (x : ExF H dd fvs) : ∀ d, dd = some d → ∃ fs, H d = some (.xd fs) := fun d e => by
  subst e
  exact ⟨fvs, x⟩
instance {t : TE} {w : DW} {C : Addr} [A : DE K W t w] : DE K W (tCB (rIsV K) (tCons t (tCons (tC (.ref C)) tNil))) (dIsV K w (.ref C)) where
  ok := fun {F σ H ρ X R Q} hK E L h q => A.ok hK E L h fun x ρ1 v H1 h1 E1 s1 r1 => by
    subst hK
    split at h1
    · rename_i r c fs e
      obtain ⟨xc, b, hb, hR⟩ := h1
      obtain ⟨a, oe, fvs, rfl, ha, hc, hf, hx, _, _⟩ := r1.top E1 e
      exact ⟨a, _, oe, _, _, b, ha, hc, hf, exF_xd (Hr := H1) hx, xc, rfl, (fun u r => r), hb, q _ ρ1 _ H1 hR E1 s1 (.bl b)⟩
    · exact h1.elim
instance {t : TE} {w : DW} {n : String} [A : DE K W t w] : DE K W (tCB (rIsV K) (tCons t (tCons (tC (.ty n)) tNil))) (dIsV K w (.type n)) where
  ok := fun {F σ H ρ X R Q} hK E L h q => A.ok hK E L h fun x ρ1 v H1 h1 E1 s1 r1 => by
    subst hK
    split at h1
    · rename_i r c fs e
      obtain ⟨xc, b, hb, hR⟩ := h1
      obtain ⟨a, oe, fvs, rfl, ha, hc, hf, hx, _, _⟩ := r1.top E1 e
      exact ⟨a, _, oe, _, _, b, ha, hc, hf, exF_xd (Hr := H1) hx, xc, rfl, (fun u r => r), hb, q _ ρ1 _ H1 hR E1 s1 (.bl b)⟩
    · exact h1.elim
/-- e.f -/
def dXv (K : PySem.W.Frag) (f : Str) (w : DW) : DW := fun X ρ R => w X ρ fun x ρ1 => match rd ρ1 x with
  | some (r, .exn c fs) => FldC K c f ∧ (match fs.lookup f with
    | some d => R (.v r d) ρ1
    | none => False)
  | _ => False
instance {t : TE} {w : DW} {f : Str} [A : DE K W t w] : DE K W (tXv K f t) (dXv K f w) where
  ok := fun {F σ H ρ X R Q} hK E L h q => A.ok hK E L h fun x ρ1 v H1 h1 E1 s1 r1 => by
    subst hK
    split at h1
    · rename_i r c fs e
      obtain ⟨fc, hR⟩ := h1
      obtain ⟨a, oe, fvs, rfl, ha, hc, hf, hx, h3, h4⟩ := r1.top E1 e
      split at hR
      · rename_i d hd
        obtain ⟨u, k1, k2⟩ := look_rep h3 h4 hd
        cases ed : oe.dict with
        | none =>
          rw [ed] at hx
          have hx : fvs = [] := hx
          rw [hx] at k1
          cases k1
        | some dd =>
          rw [ed] at hx
          exact ⟨a, _, dd, oe, fvs, u, rfl, ha, hc, hf, fc.xc, fc.no, ed, hx, k1, q _ ρ1 _ H1 hR E1 s1 k2⟩
      · exact hR.elim
    · exact h1.elim
end
end PW

namespace PW
open PySem PySem.Spec PyProof.Rows L2
/-! ### xs.count(y), flat items -/
section
variable {X : Cx} {K : PySem.W.Frag}
def rCountF (K : PySem.W.Frag) : V → List V → Hp → VK → Prop := fun x xs H Q => ∃ (a : Addr) (ys : List V) (y : V), x = V.ref a ∧ xs = [y] ∧ SqL K H a ys ∧ flatV y = true ∧ ys.all flatV = true ∧ Q (.int ((ys.countP fun z => eqV z y : Nat) : Int)) H
theorem mt_countF : MtR X "list.count" (rCountF X.K) := by
  intro pins s σ H x xs v us Q I rx rxs h
  obtain ⟨a, ys, y, rfl, rfl, hs, fy, fys, q⟩ := h
  cases rx
  cases rxs with
  | cons ry rt =>
    rename_i uy ut
    cases rt
    obtain ⟨its, rv, ⟨⟨cls, dd, data, sl⟩, n, ho, hc, hdn, hd⟩, hlen⟩ := I.list hs
    simp only at hc hd
    subst hc hd
    refine call_meets PySem.F.slot_list_count ⟨_, ho, rfl⟩ PySem.F.entry_list_count (PySem.F.args_list_count_2 _ _)
      (SeqAt.list_countAt a its.toArray n dd sl uy (eqU y)) ⟨ho, fun u' hu' => mem_eqAt ry fy rv fys u' (by simpa using hu'), ?_⟩
    have ec : its.toArray.toList.countP (eqU y) = ys.countP fun z => eqV z y := by
      clear ho hs q hlen hdn
      show its.countP (eqU y) = _
      induction rv with
      | nil => rfl
      | cons ru _ ih =>
        rw [List.all_cons, Bool.and_eq_true] at fys
        rw [List.countP_cons, List.countP_cons, ih fys.2, eqU_of ru fys.1]
    rw [ec]
    exact ⟨.int _, H, I.tok _, ⟨_, rfl⟩, q⟩
theorem mtCountK (h : X.K = K := by rfl) : MtR X "list.count" (rCountF K) := by
  subst h
  exact mt_countF
def dCount : DMW := fun x ys ρ R => match ys with
  | [y] => match rd ρ x, rd ρ y with
    | some (_, .lst ds), some (_, d) => ds.all D.flat = true ∧ d.flat = true ∧ R (.v true (.int ((ds.countP fun z => eqV (toV z) (toV d) : Nat) : Int))) ρ
    | _, _ => False
  | _ => False
instance : DM K (rCountF K) dCount where
  ok := fun {F Hs σ H ρ x ys dx dys R Q} hK E hx hy h q => by
    subst hK
    unfold dCount at h
    split at h
    · rename_i y
      obtain ⟨u, rfl, hu, _⟩ := paired1 hy
      split at h
      · rename_i r ds r' d e e'
        obtain ⟨f1, f2, hR⟩ := h
        obtain ⟨a, vs, rfl, g1, g2⟩ := hx.top E e
        rw [flat_all g2 f1] at g1
        rw [flat_v (hu.top E e') f2]
        refine ⟨a, _, _, rfl, rfl, SqL.of g1, flat_toV f2, flat_toVs f1, ?_⟩
        rw [List.countP_map]
        exact q _ ρ _ H hR E (.refl _ _) (.int _)
      · exact h.elim
    · exact h.elim
theorem countS (xs : List Str) (x : Str) : ((xs.map D.str).countP fun z => eqV (toV z) (toV (.str x))) = xs.countP fun z => decide (z = x) := by
  rw [List.countP_map]
  refine List.countP_congr fun z _ => ?_
  show (eqV (toV (D.str z)) (toV (D.str x))) = true ↔ decide (z = x) = true
  rw [decide_eq_true_iff]
  exact beq_iff_eq
end
end PW

namespace PW
open PySem PySem.Spec PyProof.Rows L2
/-- a, b, c = e, f, g -/
def dPar3 (i j l : Nat) (u : DAW) : DSW := fun X E ρ => u X ρ fun xs ρ1 => match sts ρ1 (xs.map DV.tmp) with
  | some (r, [d, e, f], ρ2) => noPotB ρ2 i = true ∧ noPotB (ρ2.set i (some (.sh (r || d.imm) d))) j = true ∧ noPotB ((ρ2.set i (some (.sh (r || d.imm) d))).set j (some (.sh (r || e.imm) e))) l = true ∧ E.nx (((ρ2.set i (some (.sh (r || d.imm) d))).set j (some (.sh (r || e.imm) e))).set l (some (.sh (r || f.imm) f)))
  | _ => False
section
variable {K : PySem.W.Frag} {W : WXT}
instance {i j l : Nat} {t : TA} {u : DAW} [A : DA K W t u] : DS K W (tPar3 i j l t) (dPar3 i j l u) where
  ok := fun {F σ H ρ X E Dn} hK En L h nx bk ct rt => A.ok hK En L h fun xs ρ1 vs H1 h1 E1 s1 r1 => by
    split at h1
    · rename_i r d e f ρ2 hs
      obtain ⟨E2, s2, p2⟩ := sts_rep E1 (dCons_tmp r1) hs
      cases p2 with
      | cons a b =>
        cases b with
        | cons b c =>
          cases c with
          | cons c z =>
            cases z
            obtain ⟨E3, s3⟩ := E2.setSh (i := i) (noPot_of h1.1) a.up
            obtain ⟨E4, s4⟩ := E3.setSh (i := j) (noPot_of h1.2.1) (b.up.mono (E2.rh s3))
            obtain ⟨E5, s5⟩ := E4.setSh (i := l) (noPot_of h1.2.2.1) ((c.up.mono (E2.rh s3)).mono (E3.rh s4))
            exact ⟨_, _, _, rfl, nx _ _ H1 h1.2.2.2 E5 ((((s1.trans s2).trans s3).trans s4).trans s5)⟩
    · exact h1.elim
end
end PW

local macro_rules | `(tactic| walk_at "w") => `(tactic| conv => whnf)
local macro_rules | `(tactic| walk_at "om") => `(tactic| ((try simp only [List.length_map, List.length_cons, List.length_nil, List.length_append, List.length_reverse, List.length_replicate, List.length_drop, List.length_take, List.length_range, PW.signs_len, PW.rangeD_len] at *); omega))
local macro_rules | `(tactic| walk_at "sd") => `(tactic| first
  | (with_reducible refine PW.r62a ?_; walk_at "om")
  | (with_reducible refine PW.r62b ?_; walk_at "om")
  | (with_reducible refine PW.r63a ?_; walk_at "om")
  | (with_reducible refine PW.r63b ?_; walk_at "om")
  | (with_reducible refine PW.small ?_; first | with_reducible assumption | decide | walk_at "om")
  | (with_reducible refine PW.smallL ?_; first | with_reducible assumption | decide | walk_at "om")
  | rfl
  | with_reducible assumption
  | exact And.intro rfl rfl
  | exact Nat.le_of_ble_eq_true rfl
  | exact True.intro
  | exact PW.immL_str _ | exact PW.immL_int _ | exact PW.immL_tie _ | exact PW.immL_bl _
  | (with_reducible refine PW.small ?_; first | with_reducible assumption | decide | walk_at "om")
  | (with_reducible refine PW.smallL ?_; first | with_reducible assumption | decide | walk_at "om")
  | decide
  | walk_at "om"
  | assumption)
local macro_rules | `(tactic| walk_at "sb") => `(tactic| first
  | rfl
  | (refine decide_eq_true ?_; walk_at "om")
  | (refine decide_eq_false ?_; walk_at "om")
  | (refine PW.nd_f ?_; walk_at "om")
  | (refine PW.nd_t ?_; walk_at "om")
  | decide)
local macro_rules | `(tactic| walk_at "g1") => `(tactic| first
  | ((refine And.intro ?sdgoal ?_); (case sdgoal => walk_at "sd"))
  | ((refine PW.ifC_then ?sdgoal ?_); (case sdgoal => walk_at "sb"))
  | ((refine PW.ifC_else ?sdgoal ?_); (case sdgoal => walk_at "sb"))
  | ((refine' PW.ex_some ?sdgoal ?_); (case sdgoal => first | exact PW.boolsD_map _ | exact PW.boolsD_fn _ _ | exact PW.intsD_map _ | exact PW.strsOf_map _ | rfl)))
local macro_rules | `(tactic| walk_at "d") => `(tactic| (conv => whnf); (repeat (walk_at "g1"; (conv => whnf))))
local macro_rules | `(tactic| walk_at "sb2") => `(tactic| first
  | rfl
  | exact decide_eq_true rfl
  | exact PW.nd_f rfl
  | exact decide_eq_true (by with_reducible assumption)
  | exact decide_eq_false (by with_reducible assumption)
  | exact PW.nd_f (by with_reducible assumption)
  | exact PW.nd_t (by with_reducible assumption)
  | (refine decide_eq_true ?_; omega)
  | (refine decide_eq_false ?_; omega)
  | (refine PW.nd_f ?_; omega)
  | (refine PW.nd_t ?_; omega))
local macro_rules | `(tactic| walk_at "g2") => `(tactic| first
  | ((refine And.intro ?sdgoal ?_); (case sdgoal => walk_at "sd"))
  | ((refine PW.ifC_then ?sdgoal ?_); (case sdgoal => walk_at "sb2"))
  | ((refine PW.ifC_else ?sdgoal ?_); (case sdgoal => walk_at "sb2"))
  | ((refine' PW.ex_some ?sdgoal ?_); (case sdgoal => first | exact PW.boolsD_map _ | exact PW.boolsD_fn _ _ | exact PW.intsD_map _ | exact PW.strsOf_map _ | rfl))
  | refine PW.eqC_int ?_
  | refine PW.eqC_str ?_
  | refine PW.eqC_bl ?_
  | refine PW.inC_strs ?_
  | refine PW.inC_strsT ?_
  | refine PW.inC_ints ?_
  | refine PW.inC_intsT ?_
  | refine PW.inC_tie ?_
  | refine PW.ifC_nkey ?_
  | refine PW.ifC_key ?_
  | rw [PW.atI_map_hd]
  | refine PW.callC_of (PW.call_points ?_)
  | refine PW.callC_of (PW.call_ties ?_)
  | refine PW.callC_of (PW.call_many ?_))
local macro_rules | `(tactic| walk_at "a") => `(tactic| (conv => whnf); (repeat (walk_at "g2"; (conv => whnf))))
local macro_rules | `(tactic| walk_at "auto") => `(tactic| walk_at "a"; (repeat' ((first | refine PW.ifC_d (fun _ => ?_) (fun _ => ?_) | refine PW.ifC_nd (fun _ => ?_) (fun _ => ?_) | refine PW.ifC_of (fun _ => ?_) (fun _ => ?_)) <;> walk_at "a")))
local macro_rules | `(tactic| walk_at "lv") => `(tactic| first | omega | (simp only [Nat.add_eq]; done) | (simp only [Nat.add_eq]; omega))

namespace PW
open PySem PySem.Spec PyProof.Rows L2
section
variable {K : PySem.W.Frag} {mg : Str → Option Value} (T : Top K mg)
include T
theorem xo_NoEars : ExcOk K (He.ga K "NoEars") := by
  obtain ⟨h1, h2, h3, h4⟩ := He.exc_ok (T.says.fact 35 (f := .exc "NoEars") rfl)
  exact ⟨h1, h2, h3, h4⟩
theorem xo_NoFixed : ExcOk K (He.ga K "NoFixed") := by
  obtain ⟨h1, h2, h3, h4⟩ := He.exc_ok (T.says.fact 36 (f := .exc "NoFixed") rfl)
  exact ⟨h1, h2, h3, h4⟩
theorem xo_NoLot : ExcOk K (He.ga K "NoLot") := by
  obtain ⟨h1, h2, h3, h4⟩ := He.exc_ok (T.says.fact 37 (f := .exc "NoLot") rfl)
  exact ⟨h1, h2, h3, h4⟩
theorem xo_NoNumber : ExcOk K (He.ga K "NoNumber") := by
  obtain ⟨h1, h2, h3, h4⟩ := He.exc_ok (T.says.fact 38 (f := .exc "NoNumber") rfl)
  exact ⟨h1, h2, h3, h4⟩
theorem xo_NoNumbers : ExcOk K (He.ga K "NoNumbers") := by
  obtain ⟨h1, h2, h3, h4⟩ := He.exc_ok (T.says.fact 39 (f := .exc "NoNumbers") rfl)
  exact ⟨h1, h2, h3, h4⟩
theorem xo_NoPoint : ExcOk K (He.ga K "NoPoint") := by
  obtain ⟨h1, h2, h3, h4⟩ := He.exc_ok (T.says.fact 40 (f := .exc "NoPoint") rfl)
  exact ⟨h1, h2, h3, h4⟩
theorem xo_NoPointing : ExcOk K (He.ga K "NoPointing") := by
  obtain ⟨h1, h2, h3, h4⟩ := He.exc_ok (T.says.fact 41 (f := .exc "NoPointing") rfl)
  exact ⟨h1, h2, h3, h4⟩
theorem xo_NoText : ExcOk K (He.ga K "NoText") := by
  obtain ⟨h1, h2, h3, h4⟩ := He.exc_ok (T.says.fact 42 (f := .exc "NoText") rfl)
  exact ⟨h1, h2, h3, h4⟩
theorem xo_NoWeb : ExcOk K (He.ga K "NoWeb") := by
  obtain ⟨h1, h2, h3, h4⟩ := He.exc_ok (T.says.fact 43 (f := .exc "NoWeb") rfl)
  exact ⟨h1, h2, h3, h4⟩
theorem xo_NotOver : ExcOk K (He.ga K "NotOver") := by
  obtain ⟨h1, h2, h3, h4⟩ := He.exc_ok (T.says.fact 44 (f := .exc "NotOver") rfl)
  exact ⟨h1, h2, h3, h4⟩
theorem xo_TooMuch : ExcOk K (He.ga K "TooMuch") := by
  obtain ⟨h1, h2, h3, h4⟩ := He.exc_ok (T.says.fact 45 (f := .exc "TooMuch") rfl)
  exact ⟨h1, h2, h3, h4⟩
theorem xo_Unlike : ExcOk K (He.ga K "Unlike") := by
  obtain ⟨h1, h2, h3, h4⟩ := He.exc_ok (T.says.fact 46 (f := .exc "Unlike") rfl)
  exact ⟨h1, h2, h3, h4⟩
end
theorem oi_Barred {P : Program} {w : World} {K : PySem.W.Frag} {mg : Str → Option Value} {base : Heap} (T : Top K mg) : OiOk P w K mg base 1 "Barred" (He.ga K "Barred") ["tie", "lot"] := by
  obtain ⟨fd, F⟩ := fd_Barred_init T
  obtain ⟨x1, x2, x3⟩ := oex_get T.xs (x := "Barred") rfl
  refine ⟨_, fd, _, x1, x2, x3, fnok_of F sc_Barred_init (fun vs H Q E h => ?_) (fun cdv A outer s H vs Q E hr h => ?_), F.bindsN bi_Barred_init, g_Barred T⟩
  · obtain ⟨a, ys, rfl, hl, _⟩ := h
    exact congrArg (· + 1) hl
  · obtain ⟨a, ys, rfl, hl, h1, h2⟩ := h
    match ys, hl with
    | [y0, y1], _ => exact ⟨_, (pss_cons (ps_expr (pe_pinit (by rfl) (g_PointError T) (par_get T.xs (x := "PointError") rfl) (pa_cons (pv 0) (pa_cons pe_str pa_nil)))) (pss_cons (ps_ost (pv 0) (pv 1)) (pss_one (ps_ost (pv 0) (pv 2))))), oi_run2 x1 (fld_get T.xs (x := "Barred") (f := "tie") rfl).no (fld_get T.xs (x := "Barred") (f := "lot") rfl).no ⟨a, _, rfl, rfl, h1, h2⟩⟩
theorem oi_NoIns {P : Program} {w : World} {K : PySem.W.Frag} {mg : Str → Option Value} {base : Heap} (T : Top K mg) : OiOk P w K mg base 1 "NoIns" (He.ga K "NoIns") ["word", "part"] := by
  obtain ⟨fd, F⟩ := fd_NoIns_init T
  obtain ⟨x1, x2, x3⟩ := oex_get T.xs (x := "NoIns") rfl
  refine ⟨_, fd, _, x1, x2, x3, fnok_of F sc_NoIns_init (fun vs H Q E h => ?_) (fun cdv A outer s H vs Q E hr h => ?_), F.bindsN bi_NoIns_init, g_NoIns T⟩
  · obtain ⟨a, ys, rfl, hl, _⟩ := h
    exact congrArg (· + 1) hl
  · obtain ⟨a, ys, rfl, hl, h1, h2⟩ := h
    match ys, hl with
    | [y0, y1], _ => exact ⟨_, (pss_cons (ps_expr (pe_pinit (by rfl) (g_PointError T) (par_get T.xs (x := "PointError") rfl) (pa_cons (pv 0) (pa_cons pe_str pa_nil)))) (pss_cons (ps_ost (pv 0) (pv 1)) (pss_one (ps_ost (pv 0) (pv 2))))), oi_run2 x1 (fld_get T.xs (x := "NoIns") (f := "word") rfl).no (fld_get T.xs (x := "NoIns") (f := "part") rfl).no ⟨a, _, rfl, rfl, h1, h2⟩⟩
theorem oi_Parted {P : Program} {w : World} {K : PySem.W.Frag} {mg : Str → Option Value} {base : Heap} (T : Top K mg) : OiOk P w K mg base 1 "Parted" (He.ga K "Parted") ["lot"] := by
  obtain ⟨fd, F⟩ := fd_Parted_init T
  obtain ⟨x1, x2, x3⟩ := oex_get T.xs (x := "Parted") rfl
  refine ⟨_, fd, _, x1, x2, x3, fnok_of F sc_Parted_init (fun vs H Q E h => ?_) (fun cdv A outer s H vs Q E hr h => ?_), F.bindsN bi_Parted_init, g_Parted T⟩
  · obtain ⟨a, ys, rfl, hl, _⟩ := h
    exact congrArg (· + 1) hl
  · obtain ⟨a, ys, rfl, hl, h1, h2⟩ := h
    match ys, hl with
    | [y0], _ => exact ⟨_, (pss_cons (ps_expr (pe_pinit (by rfl) (g_PointError T) (par_get T.xs (x := "PointError") rfl) (pa_cons (pv 0) (pa_cons pe_str pa_nil)))) (pss_one (ps_ost (pv 0) (pv 1)))), oi_run1 x1 (fld_get T.xs (x := "Parted") (f := "lot") rfl).no ⟨a, _, rfl, rfl, h1, h2⟩⟩
theorem oi_Shut {P : Program} {w : World} {K : PySem.W.Frag} {mg : Str → Option Value} {base : Heap} (T : Top K mg) : OiOk P w K mg base 1 "Shut" (He.ga K "Shut") ["lot"] := by
  obtain ⟨fd, F⟩ := fd_Shut_init T
  obtain ⟨x1, x2, x3⟩ := oex_get T.xs (x := "Shut") rfl
  refine ⟨_, fd, _, x1, x2, x3, fnok_of F sc_Shut_init (fun vs H Q E h => ?_) (fun cdv A outer s H vs Q E hr h => ?_), F.bindsN bi_Shut_init, g_Shut T⟩
  · obtain ⟨a, ys, rfl, hl, _⟩ := h
    exact congrArg (· + 1) hl
  · obtain ⟨a, ys, rfl, hl, h1, h2⟩ := h
    match ys, hl with
    | [y0], _ => exact ⟨_, (pss_cons (ps_expr (pe_pinit (by rfl) (g_PointError T) (par_get T.xs (x := "PointError") rfl) (pa_cons (pv 0) (pa_cons pe_str pa_nil)))) (pss_one (ps_ost (pv 0) (pv 1)))), oi_run1 x1 (fld_get T.xs (x := "Shut") (f := "lot") rfl).no ⟨a, _, rfl, rfl, h1, h2⟩⟩
theorem oi_Thin {P : Program} {w : World} {K : PySem.W.Frag} {mg : Str → Option Value} {base : Heap} (T : Top K mg) : OiOk P w K mg base 1 "Thin" (He.ga K "Thin") ["lot"] := by
  obtain ⟨fd, F⟩ := fd_Thin_init T
  obtain ⟨x1, x2, x3⟩ := oex_get T.xs (x := "Thin") rfl
  refine ⟨_, fd, _, x1, x2, x3, fnok_of F sc_Thin_init (fun vs H Q E h => ?_) (fun cdv A outer s H vs Q E hr h => ?_), F.bindsN bi_Thin_init, g_Thin T⟩
  · obtain ⟨a, ys, rfl, hl, _⟩ := h
    exact congrArg (· + 1) hl
  · obtain ⟨a, ys, rfl, hl, h1, h2⟩ := h
    match ys, hl with
    | [y0], _ => exact ⟨_, (pss_cons (ps_expr (pe_pinit (by rfl) (g_PointError T) (par_get T.xs (x := "PointError") rfl) (pa_cons (pv 0) (pa_cons pe_str pa_nil)))) (pss_one (ps_ost (pv 0) (pv 1)))), oi_run1 x1 (fld_get T.xs (x := "Thin") (f := "lot") rfl).no ⟨a, _, rfl, rfl, h1, h2⟩⟩
end PW
namespace PW
open PySem PySem.Spec PyProof.Rows L2
theorem fmod_pos {a b : Int} (h : 0 < b) : a.fmod b = a % b := Int.fmod_eq_emod_of_nonneg a (by omega)
theorem fdiv_pos {a b : Int} (h : 0 < b) : a.fdiv b = a / b := Int.fdiv_eq_ediv_of_nonneg a (by omega)
theorem ok_law_pot {P : Program} {w : World} {K : PySem.W.Frag} {mg : Str → Option Value} {base : Heap} (T : Top K mg) :
    C8.Cal P w K mg base 1 "_law_pot" (spPot K) [] := by
  refine cal_of (fd_law_pot T) (g_law_pot T) sc_law_pot bi_law_pot (fun vs H Q E h => ?_) (fun cdv A outer s H vs Q E hr h => ?_)
  · obtain ⟨a, k, ns, rfl, _⟩ := h
    rfl
  · obtain ⟨a, k, ns, rfl, hS, hlen, hk0, hk1, q⟩ := h
    refine ⟨_, (C8.pss_cut (ps_set (i := 2) sc_law_pot.nd rfl (by first | exact Or.inl rfl | exact Or.inr rfl) (pe_ifExp (pt_cmpR op_lt (pv 1) (pe_callB (lenK (K := K)) (by rfl) (f_len T) PySem.boot_len (pa_cons (pv 0) pa_nil)) (nomark _)) (pe_ix (ixL (K := K)) (pv 0) (pv 1) (fun _ _ => rfl)) pe_int))
      (pss_one (ps_ret (pe_lst (pa_cons (pe_callB (call_max2 rfl) (by rfl) (f_max T) (by decide +kernel) (pa_cons pe_int (pa_cons (pe_op op_sub (pe_callB call_abs (by rfl) (f_abs T) (by decide +kernel) (pa_cons (pv 2) pa_nil)) (pe_op op_pow pe_int pe_int)) pa_nil))) (pa_cons (pe_op op_add (pe_op op_add (pe_op op_modN (pe_callB call_abs (by rfl) (f_abs T) (by decide +kernel) (pa_cons (pv 2) pa_nil)) pe_int) (pe_op op_mul pe_int (pv 1))) pe_int) pa_nil)))))), ?_⟩
    refine ⟨fun σ' H' => ∃ c : Int, σ' = [some (.ref a), some (.int k), some (.int c)] ∧ H' = H, ?_, ?_⟩
    · refine ⟨.int k, rfl, .ref a, rfl, a, ns.map V.int, rfl, .inl hS, k, _, rfl, rfl, _, rfl, ite2 (fun e => ?_) (fun e => ?_)⟩
      · have hk : k < ((ns.map V.int).length : Int) := of_decide_eq_true e
        rw [List.length_map] at hk
        have hi : k.toNat < ns.length := by omega
        refine ⟨.ref a, rfl, .int k, rfl, a, ns.map V.int, k, .int ns[k.toNat], rfl, rfl, hS, ?_, ns[k.toNat], rfl, rfl⟩
        have e1 : k = ((k.toNat : Nat) : Int) := by omega
        exact at_of (j := k.toNat) e1 (by rw [List.getElem?_map, List.getElem?_eq_getElem hi]; rfl)
      · exact ⟨0, rfl, rfl⟩
    · rintro σ' H' ⟨c, rfl, rfl⟩
      refine ⟨.int c, rfl, c, rfl, 10, 18, rfl, rfl, ⟨by decide, by decide, by decide⟩, _, _, rfl, rfl, _, _, rfl, .int c, rfl, c, rfl, _, _, rfl, rfl, (by show (2147483629 : Int) ≠ 0; decide), .int k, rfl, _, _, rfl, rfl, .inl ⟨by decide, by decide⟩, _, _, rfl, rfl, _, _, rfl, rfl, (by show 2 ≤ sizeLine; decide), fun p hp => ?_⟩
      refine q p _ hp (same_new hp) ⟨_, _, ?_, ?_, upd_same⟩
      · split <;> omega
      · rw [fmod_pos (by decide)]
        have h1 : 0 ≤ (if c < 0 then -c else c) % 2147483629 := Int.emod_nonneg _ (by decide)
        omega
theorem ok_law_take {P : Program} {w : World} {K : PySem.W.Frag} {mg : Str → Option Value} {base : Heap} (T : Top K mg) :
    C8.Cal P w K mg base 1 "_law_take" spTake [] := by
  refine cal_of (fd_law_take T) (g_law_take T) sc_law_take bi_law_take (fun vs H Q E h => ?_) (fun cdv A outer s H vs Q E hr h => ?_)
  · obtain ⟨p, n, rfl, _⟩ := h
    rfl
  · obtain ⟨p, n, rfl, hp, hn0, hn1, q⟩ := h
    refine ⟨_, (pss_cons (ps_if (pt_cmpR op_gt (pe_ix (ixL (K := K)) (pv 0) pe_int (fun _ _ => rfl)) pe_int (nomark _)) (pss_cons (ps_asg (pe_callB call_divmod (by rfl) (f_divmod T) (by decide +kernel) (pa_cons (pe_ix (ixL (K := K)) (pv 0) pe_int (fun _ _ => rfl)) (pa_cons (pv 1) pa_nil))) (pg_tup (n := 2) rfl (pgs_cons (pg_sub (pv 0) pe_int set_list) (pgs_cons (pg_name (i := 2) sc_law_take.nd rfl (by first | exact Or.inl rfl | exact Or.inr rfl)) pgs_nil))))
      (pss_one (ps_ret (pv 2)))) pss_nil)
      (pss_cons (ps_asg (pe_op op_modN (pe_op op_add (pe_op op_mul (pe_ix (ixL (K := K)) (pv 0) pe_int (fun _ _ => rfl)) pe_int) pe_int) pe_int) (pg_sub (pv 0) pe_int set_list))
      (pss_one (ps_ret (pe_op op_modN (pe_op op_fdivN (pe_op op_modN (pe_op op_mul (pe_ix (ixL (K := K)) (pv 0) pe_int (fun _ _ => rfl)) (pe_ix (ixL (K := K)) (pv 0) pe_int (fun _ _ => rfl))) pe_int) pe_int) (pv 1)))))), ?_⟩
    obtain ⟨x, y, hx, hy, hp⟩ := hp
    refine ⟨.ref p, rfl, p, _, 0, .int x, rfl, rfl, SqL.of hp, rfl, x, 0, rfl, rfl, _, rfl, ite2 (fun e => ?_) (fun e => ?_)⟩
    · refine ⟨.ref p, rfl, p, _, 0, .int x, rfl, rfl, SqL.of hp, rfl, .int n, rfl, x, n, rfl, ⟨hn0, hn1⟩, fun t nt => ?_⟩
      have npt : p ≠ t := ne_of_none hp nt
      have hp1 : upd H t (.tup [.int (x / n), .int (x % n)]) p = some (.lst [.int x, .int y]) := by
        rw [upd_ne npt]
        exact hp
      refine ⟨t, _, rfl, SqT.of upd_same, rfl, _, _, rfl, .ref p, rfl, p, _, 0, 0, rfl, rfl, hp1, rfl, _, _, rfl, rfl, .int (x % n), rfl, ?_⟩
      refine q _ _ (Int.emod_nonneg _ (by omega)) (Int.emod_lt_of_pos _ hn0) ((Kp.same (same_new nt)).trans (Kp.write _ _ _)) ⟨x / n, y, Int.ediv_nonneg hx (by omega), hy, upd_same⟩
    · refine ⟨.ref p, rfl, p, _, 1, .int y, rfl, rfl, SqL.of hp, rfl, y, 48271, rfl, rfl, .inr ⟨by decide, by decide⟩, _, _, rfl, rfl, _, _, rfl, rfl, (by show (2147483647 : Int) ≠ 0; decide), .ref p, rfl, p, _, 1, 1, rfl, rfl, hp, rfl, ?_⟩
      have hz : (y * 48271 + 12345).fmod 2147483647 = (y * 48271 + 12345) % 2147483647 := fmod_pos (by decide)
      have z0 : 0 ≤ (y * 48271 + 12345) % 2147483647 := Int.emod_nonneg _ (by decide)
      have z1 : (y * 48271 + 12345) % 2147483647 < 2147483647 := Int.emod_lt_of_pos _ (by decide)
      simp only [hz]
      generalize (y * 48271 + 12345) % 2147483647 = z at z0 z1
      refine ⟨.ref p, rfl, p, _, 1, .int z, rfl, rfl, SqL.of upd_same, rfl, .ref p, rfl, p, _, 1, .int z, rfl, rfl, SqL.of upd_same, rfl, z, z, rfl, rfl, .inl ⟨by omega, by omega⟩, _, _, rfl, rfl, (by show (2147483629 : Int) ≠ 0; decide), _, _, rfl, rfl, ⟨by decide, by decide⟩, .int n, rfl, _, _, rfl, rfl, (by omega), ?_⟩
      refine q _ _ ?_ ?_ (Kp.write _ _ _) ⟨x, z, hx, z0, upd_same⟩
      · rw [fmod_pos hn0]
        exact Int.emod_nonneg _ (by omega)
      · rw [fmod_pos hn0]
        exact Int.emod_lt_of_pos _ hn0
end PW

namespace PW
open PySem PySem.Spec PyProof.Rows L2
theorem ok_law_names {P : Program} {w : World} {K : PySem.W.Frag} {mg : Str → Option Value} {base : Heap} (T : Top K mg) :
    C8.Cal P w K mg base 2 "_law_names" spNames [] := by
  refine cal_of (fd_law_names T) (g_law_names T) sc_law_names bi_law_names (fun vs H Q E h => ?_) (fun cdv A outer s H vs Q E hr h => ?_)
  · obtain ⟨p, n, rfl, _⟩ := h
    rfl
  · obtain ⟨p, n, rfl, hp, hn0, hn1, q⟩ := h
    refine ⟨_, (pss_cons (ps_set (i := 2) sc_law_names.nd rfl (by first | exact Or.inl rfl | exact Or.inr rfl) pe_str)
      (pss_cons (ps_set (i := 3) sc_law_names.nd rfl (by first | exact Or.inl rfl | exact Or.inr rfl) (C8.pe_c (ok_law_take (K := K) T) hr (by decide) (by rfl) (pa_cons (pv 0) (pa_cons pe_int pa_nil))))
      (pss_cons (ps_set (i := 4) sc_law_names.nd rfl (by first | exact Or.inl rfl | exact Or.inr rfl) (pe_lst pa_nil))
      (pss_cons (ps_for PassesOwn.never rfl (pi_range1 (by rfl) (f_range T) (pa_cons (pv 1) pa_nil)) (pg_name (i := 5) sc_law_names.nd rfl (by first | exact Or.inl rfl | exact Or.inr rfl)) (pss_cons (ps_set (i := 6) sc_law_names.nd rfl (by first | exact Or.inl rfl | exact Or.inr rfl) (pe_ix ix_str (pv 2) (pe_op op_modN (pe_op op_add (pv 3) (pe_op op_mul pe_int (pv 5))) pe_int) (fun _ _ => rfl)))
      (pss_cons (ps_for PassesOwn.never rfl (pi_range1 (by rfl) (f_range T) (pa_cons (C8.pe_c (ok_law_take (K := K) T) hr (by decide) (by rfl) (pa_cons (pv 0) (pa_cons pe_int pa_nil))) pa_nil)) (pg_name (i := 7) sc_law_names.nd rfl (by first | exact Or.inl rfl | exact Or.inr rfl)) (pss_one (ps_set (i := 6) sc_law_names.nd rfl (by first | exact Or.inl rfl | exact Or.inr rfl) (pe_op op_add_str (pv 6) (pe_ix ix_str (pv 2) (C8.pe_c (ok_law_take (K := K) T) hr (by decide) (by rfl) (pa_cons (pv 0) (pa_cons pe_int pa_nil))) (fun _ _ => rfl))))))
      (pss_one (ps_expr (pe_bmK (K := K) PySem.F.plainAttrs_list PySem.F.slot_list_append PySem.F.type_list_append mt_append (pv 4) (pa_cons (pv 6) pa_nil)))))))
      (pss_one (ps_ret (pv 4))))))), ?_⟩
    -- letters, begin, found
    refine ⟨.ref p, rfl, p, 26, rfl, hp, by decide, by decide, fun b H1 hb0 hb1 k1 p1 => ⟨Nat.zero_le _, fun r nr => ?_⟩⟩
    have nrp : r ≠ p := p1.ne nr
    have fr : H r = none := k1.free nrp nr
    refine ⟨.int n, rfl, n, rfl, by omega, by omega, for_range (lo := 0) (n := n.toNat) (fun i σ H2 => ∃ (ws : List Str) (y5 y6 y7 : Option V),
      σ = [some (.ref p), some (.int n), some (.str "abcdefghijklmnopqrstuvwxyz"), some (.int b), some (.ref r), y5, y6, y7] ∧ ws.length = i ∧ Heads b ws ∧ Kp p H H2 ∧ Pot H2 p ∧ H2 r = some (.lst (ws.map V.str)))
      ⟨[], none, none, none, rfl, rfl, Heads.nil b, k1.new nr, p1.same (same_new nr), upd_same⟩ ?_ ?_⟩
    · rintro i σ H2 hi ⟨ws, y5, y6, y7, rfl, hw, hh, k2, p2, er⟩
      -- word = letters[..]
      refine ⟨_, rfl, .int b, rfl, _, rfl, 5, _, rfl, rfl, .inl ⟨by decide, by decide⟩, b, _, rfl, rfl, _, 26, rfl, rfl, (by show (26 : Int) ≠ 0; decide), _, _, _, rfl, rfl, letters_len, letters_at ?_ ?_, ?_⟩
      · rw [fmod_pos (by decide)]
        exact Int.emod_nonneg _ (by decide)
      · rw [fmod_pos (by decide)]
        exact Int.emod_lt_of_pos _ (by decide)
      -- for j in range(take(pot, 4))
      refine ⟨.ref p, rfl, p, 4, rfl, p2, by decide, by decide, fun d H3 d0 d1 k3 p3 => ⟨d, rfl, by omega, by omega, for_range (lo := 0) (n := d.toNat) (fun j σ H4 => ∃ (l : List Nat) (z7 : Option V),
        σ = [some (.ref p), some (.int n), some (.str "abcdefghijklmnopqrstuvwxyz"), some (.int b), some (.ref r), some (.int (0 + (i : Int))), some (.str (SX.S ((97 + ((b + 5 * (ws.length : Int)) % 26).toNat) :: l))), z7] ∧ l.length = j ∧ (∀ c ∈ l, Code c) ∧ Kp p H H4 ∧ Pot H4 p ∧ H4 r = some (.lst (ws.map V.str)))
        ⟨[], y7, ?_, rfl, fun c hc => by simp at hc, k2.trans k3, p3, k3 r _ nrp er⟩ ?_ ?_⟩⟩
      · rw [fmod_pos (by decide), hw, Int.zero_add]
        rfl
      · rintro j σ H4 hj ⟨l, z7, rfl, hl, hc, k4, p4, er4⟩
        refine ⟨_, rfl, _, rfl, .ref p, rfl, p, 26, rfl, p4, by decide, by decide, fun e H5 e0 e1 k5 p5 => ⟨_, _, _, rfl, rfl, letters_len, letters_at e0 e1, _, _, rfl, rfl, ?_, ?_⟩⟩
        · rw [SX.S_len]
          show _ + 1 ≤ sizeLine
          refine small_size ?_
          simp
          omega
        · refine ⟨l ++ [97 + e.toNat], some (.int (0 + (j : Int))), ?_, by simp [hl], fun c h => ?_, k4.trans k5, p5, k5 r _ nrp er4⟩
          · rw [show (SX.S ((97 + ((b + 5 * (ws.length : Int)) % 26).toNat) :: l) ++ (⟨#[97 + e.toNat]⟩ : Str)) = SX.S (((97 + ((b + 5 * (ws.length : Int)) % 26).toNat) :: l) ++ [97 + e.toNat]) from SX.S_cat _ _]
            rfl
          · rcases List.mem_append.mp h with h | h
            · exact hc c h
            · rw [List.mem_singleton.mp h]
              exact code_of e0 e1
      · rintro σ H4 ⟨l, z7, rfl, hl, hc, k4, p4, er4⟩
        -- found.append(word)
        refine ⟨.ref r, rfl, .inl ⟨rfl, _, SqL.of er4⟩, _, rfl, r, _, _, rfl, rfl, er4, ?_, ?_⟩
        · rw [List.length_map]
          exact small1000 (by omega)
        · refine ⟨ws ++ [SX.S ((97 + ((b + 5 * (ws.length : Int)) % 26).toNat) :: l)], _, _, _, rfl, by simp [hw], hh.snoc (by omega) hc, k4.into fr, p4.into nrp, ?_⟩
          rw [upd_same, List.map_append]
          rfl
    · rintro σ H2 ⟨ws, y5, y6, y7, rfl, hw, hh, k2, p2, er⟩
      exact ⟨_, rfl, q r ws H2 (hh.ok (by omega)) hw fr k2 p2 er⟩
end PW

namespace PW
open PySem PySem.Spec PyProof.Rows L2
theorem dk_law_names {P : Program} {w : World} {K : PySem.W.Frag} {mg : Str → Option Value} {base : Heap} (T : Top K mg) :
    C8.Cal P w K mg base 2 "_law_names" (spP K fsNames) [] := cal_imp (ok_law_names T) sp_names
end PW

namespace PW
open PySem PySem.Spec PyProof.Rows L2
/-! ### the seventeen refusals -/
def kinds17 : List Str := ["NoWeb", "NoText", "NoNumbers", "NoLot", "NoPoint", "NoPointing", "NoEars", "NoFixed", "NoNumber", "Unlike", "NotOver", "TooMuch", "Parted", "Shut", "Thin", "Barred", "NoIns"]
theorem is17 : (kinds17.all fun c => hasIs xf c) = true := by decide +kernel
theorem kit17 : (kinds17.all fun c => kinds17.all fun y => decide (hasKit xf c y = some (decide (c = y)))) = true := by decide +kernel
theorem kit17p : (kinds17.all fun c => decide (hasKit xf c "PointError" = some true)) = true := by decide +kernel
theorem kit17v : (kinds17.all fun c => decide (hasKitB xf c "ValueError" = some true)) = true := by decide +kernel
section
variable {K : PySem.W.Frag} (hxs : (xf.all fun f => f.ok K) = true) {c : Str} (hc : c ∈ kinds17)
include hxs hc
theorem is17_get : XcC K (He.ga K c) := is_get hxs (List.all_eq_true.mp is17 c hc)
theorem kit17_get {y : Str} (hy : y ∈ kinds17) : PySem.W.kitOne K (.ref (He.ga K c)) (.ref (He.ga K y)) = some (decide (c = y)) :=
  kit_get hxs (of_decide_eq_true (List.all_eq_true.mp (List.all_eq_true.mp kit17 c hc) y hy))
theorem kit17p_get : PySem.W.kitOne K (.ref (He.ga K c)) (.ref (He.ga K "PointError")) = some true := kit_get hxs (of_decide_eq_true (List.all_eq_true.mp kit17p c hc))
theorem kit17v_get : PySem.W.kitOne K (.ref (He.ga K c)) (.type "ValueError") = some true := kitB_get hxs (of_decide_eq_true (List.all_eq_true.mp kit17v c hc))
end
def fsKinds : FS := fun ds Q _ => ∃ c fs, ds = [.exn c fs] ∧ c ∈ kinds17 ∧ Q (.lst (kinds17.map fun y => .bl (decide (c = y))))
theorem ok_law_kinds {P : Program} {w : World} {K : PySem.W.Frag} {mg : Str → Option Value} {base : Heap} (T : Top K mg) :
    C8.Cal P w K mg base 1 "_law_kinds" (sp0 K fsKinds) [] := by
  refine cal_of (fd_law_kinds T) (g_law_kinds T) sc_law_kinds bi_law_kinds (fun vs H Q E h => ?_) (fun cdv A outer s H vs Q E hr h => ?_)
  · obtain ⟨ds, R, Xd, h1, h2, _⟩ := h
    obtain ⟨c, fs, rfl, _⟩ := h2
    exact h1.len
  · refine ⟨_, (pss_cons (ps_set (i := 1) sc_law_kinds.nd rfl (by first | exact Or.inl rfl | exact Or.inr rfl) (pe_lst (pa_cons (pe_callB (call_isV (K := K)) (by rfl) (f_isinstance T) (by decide +kernel) (pa_cons (pv 0) (pa_cons (C8.pe_gc (v := .ref (He.ga K "NoWeb")) (by rfl) ⟨_, g_NoWeb T, rfl⟩) pa_nil))) (pa_cons (pe_callB (call_isV (K := K)) (by rfl) (f_isinstance T) (by decide +kernel) (pa_cons (pv 0) (pa_cons (C8.pe_gc (v := .ref (He.ga K "NoText")) (by rfl) ⟨_, g_NoText T, rfl⟩) pa_nil))) (pa_cons (pe_callB (call_isV (K := K)) (by rfl) (f_isinstance T) (by decide +kernel) (pa_cons (pv 0) (pa_cons (C8.pe_gc (v := .ref (He.ga K "NoNumbers")) (by rfl) ⟨_, g_NoNumbers T, rfl⟩) pa_nil))) (pa_cons (pe_callB (call_isV (K := K)) (by rfl) (f_isinstance T) (by decide +kernel) (pa_cons (pv 0) (pa_cons (C8.pe_gc (v := .ref (He.ga K "NoLot")) (by rfl) ⟨_, g_NoLot T, rfl⟩) pa_nil))) pa_nil))))))
      (pss_cons (ps_set (i := 1) sc_law_kinds.nd rfl (by first | exact Or.inl rfl | exact Or.inr rfl) (pe_op (gAdd (K := K)) (pv 1) (pe_lst (pa_cons (pe_callB (call_isV (K := K)) (by rfl) (f_isinstance T) (by decide +kernel) (pa_cons (pv 0) (pa_cons (C8.pe_gc (v := .ref (He.ga K "NoPoint")) (by rfl) ⟨_, g_NoPoint T, rfl⟩) pa_nil))) (pa_cons (pe_callB (call_isV (K := K)) (by rfl) (f_isinstance T) (by decide +kernel) (pa_cons (pv 0) (pa_cons (C8.pe_gc (v := .ref (He.ga K "NoPointing")) (by rfl) ⟨_, g_NoPointing T, rfl⟩) pa_nil))) (pa_cons (pe_callB (call_isV (K := K)) (by rfl) (f_isinstance T) (by decide +kernel) (pa_cons (pv 0) (pa_cons (C8.pe_gc (v := .ref (He.ga K "NoEars")) (by rfl) ⟨_, g_NoEars T, rfl⟩) pa_nil))) (pa_cons (pe_callB (call_isV (K := K)) (by rfl) (f_isinstance T) (by decide +kernel) (pa_cons (pv 0) (pa_cons (C8.pe_gc (v := .ref (He.ga K "NoFixed")) (by rfl) ⟨_, g_NoFixed T, rfl⟩) pa_nil))) pa_nil)))))))
      (pss_cons (ps_set (i := 1) sc_law_kinds.nd rfl (by first | exact Or.inl rfl | exact Or.inr rfl) (pe_op (gAdd (K := K)) (pv 1) (pe_lst (pa_cons (pe_callB (call_isV (K := K)) (by rfl) (f_isinstance T) (by decide +kernel) (pa_cons (pv 0) (pa_cons (C8.pe_gc (v := .ref (He.ga K "NoNumber")) (by rfl) ⟨_, g_NoNumber T, rfl⟩) pa_nil))) (pa_cons (pe_callB (call_isV (K := K)) (by rfl) (f_isinstance T) (by decide +kernel) (pa_cons (pv 0) (pa_cons (C8.pe_gc (v := .ref (He.ga K "Unlike")) (by rfl) ⟨_, g_Unlike T, rfl⟩) pa_nil))) (pa_cons (pe_callB (call_isV (K := K)) (by rfl) (f_isinstance T) (by decide +kernel) (pa_cons (pv 0) (pa_cons (C8.pe_gc (v := .ref (He.ga K "NotOver")) (by rfl) ⟨_, g_NotOver T, rfl⟩) pa_nil))) (pa_cons (pe_callB (call_isV (K := K)) (by rfl) (f_isinstance T) (by decide +kernel) (pa_cons (pv 0) (pa_cons (C8.pe_gc (v := .ref (He.ga K "TooMuch")) (by rfl) ⟨_, g_TooMuch T, rfl⟩) pa_nil))) pa_nil)))))))
      (pss_cons (ps_set (i := 1) sc_law_kinds.nd rfl (by first | exact Or.inl rfl | exact Or.inr rfl) (pe_op (gAdd (K := K)) (pv 1) (pe_lst (pa_cons (pe_callB (call_isV (K := K)) (by rfl) (f_isinstance T) (by decide +kernel) (pa_cons (pv 0) (pa_cons (C8.pe_gc (v := .ref (He.ga K "Parted")) (by rfl) ⟨_, g_Parted T, rfl⟩) pa_nil))) (pa_cons (pe_callB (call_isV (K := K)) (by rfl) (f_isinstance T) (by decide +kernel) (pa_cons (pv 0) (pa_cons (C8.pe_gc (v := .ref (He.ga K "Shut")) (by rfl) ⟨_, g_Shut T, rfl⟩) pa_nil))) (pa_cons (pe_callB (call_isV (K := K)) (by rfl) (f_isinstance T) (by decide +kernel) (pa_cons (pv 0) (pa_cons (C8.pe_gc (v := .ref (He.ga K "Thin")) (by rfl) ⟨_, g_Thin T, rfl⟩) pa_nil))) (pa_cons (pe_callB (call_isV (K := K)) (by rfl) (f_isinstance T) (by decide +kernel) (pa_cons (pv 0) (pa_cons (C8.pe_gc (v := .ref (He.ga K "Barred")) (by rfl) ⟨_, g_Barred T, rfl⟩) pa_nil))) pa_nil)))))))
      (pss_one (ps_ret (pe_op (gAdd (K := K)) (pv 1) (pe_lst (pa_cons (pe_callB (call_isV (K := K)) (by rfl) (f_isinstance T) (by decide +kernel) (pa_cons (pv 0) (pa_cons (C8.pe_gc (v := .ref (He.ga K "NoIns")) (by rfl) ⟨_, g_NoIns T, rfl⟩) pa_nil))) pa_nil))))))))), ?_⟩
    refine run0 (N := ["_law_e", "_law_found"]) inferInstance h (fun ds R Xd h => ?_)
    obtain ⟨c, fs, rfl, hc, q⟩ := h
    have hxs := T.xs
    walk_at "a"
    iterate 17
      refine ⟨is17_get hxs hc, _, kit17_get hxs hc (by decide +kernel), ?_⟩
      walk_at "a"
    exact q
def exn0 (c : Str) : D := .exn c []
def fsNoth : FS := fun ds Q _ => ds = [] ∧ Q (.lst ((kinds17.take 12).map exn0))
theorem ok_law_of_nothing {P : Program} {w : World} {K : PySem.W.Frag} {mg : Str → Option Value} {base : Heap} (T : Top K mg) :
    C8.Cal P w K mg base 1 "_law_of_nothing" (sp0 K fsNoth) [] := by
  refine cal_of (fd_law_of_nothing T) (g_law_of_nothing T) sc_law_of_nothing bi_law_of_nothing (fun vs H Q E h => ?_) (fun cdv A outer s H vs Q E hr h => ?_)
  · obtain ⟨ds, R, Xd, h1, h2, _⟩ := h
    obtain ⟨rfl, _⟩ := h2
    exact h1.len
  · refine ⟨_, (pss_cons (ps_set (i := 0) sc_law_of_nothing.nd rfl (by first | exact Or.inl rfl | exact Or.inr rfl) (pe_lst (pa_cons (pe_ex0 (xo_NoWeb (K := K) T) (g_NoWeb (K := K) T) (by rfl)) (pa_cons (pe_ex0 (xo_NoText (K := K) T) (g_NoText (K := K) T) (by rfl)) (pa_cons (pe_ex0 (xo_NoNumbers (K := K) T) (g_NoNumbers (K := K) T) (by rfl)) (pa_cons (pe_ex0 (xo_NoLot (K := K) T) (g_NoLot (K := K) T) (by rfl)) (pa_cons (pe_ex0 (xo_NoPoint (K := K) T) (g_NoPoint (K := K) T) (by rfl)) (pa_cons (pe_ex0 (xo_NoPointing (K := K) T) (g_NoPointing (K := K) T) (by rfl)) (pa_cons (pe_ex0 (xo_NoEars (K := K) T) (g_NoEars (K := K) T) (by rfl)) (pa_cons (pe_ex0 (xo_NoFixed (K := K) T) (g_NoFixed (K := K) T) (by rfl)) (pa_cons (pe_ex0 (xo_NoNumber (K := K) T) (g_NoNumber (K := K) T) (by rfl)) pa_nil)))))))))))
      (pss_one (ps_ret (pe_op (gAdd (K := K)) (pv 0) (pe_lst (pa_cons (pe_ex0 (xo_Unlike (K := K) T) (g_Unlike (K := K) T) (by rfl)) (pa_cons (pe_ex0 (xo_NotOver (K := K) T) (g_NotOver (K := K) T) (by rfl)) (pa_cons (pe_ex0 (xo_TooMuch (K := K) T) (g_TooMuch (K := K) T) (by rfl)) pa_nil)))))))), ?_⟩
    refine run0 (N := ["_law_some"]) inferInstance h (fun ds R Xd h => ?_)
    obtain ⟨rfl, q⟩ := h
    have hxs := T.xs
    walk_at "a"
    exact q
def fsText17 : FS := fun ds Q _ => ∃ s : Str, ds = [.str s] ∧ Q (.lst ((kinds17.take 12).map exn0))
theorem ok_law_of_text {P : Program} {w : World} {K : PySem.W.Frag} {mg : Str → Option Value} {base : Heap} (T : Top K mg) :
    C8.Cal P w K mg base 1 "_law_of_text" (sp0 K fsText17) [] := by
  refine cal_of (fd_law_of_text T) (g_law_of_text T) sc_law_of_text bi_law_of_text (fun vs H Q E h => ?_) (fun cdv A outer s H vs Q E hr h => ?_)
  · obtain ⟨ds, R, Xd, h1, h2, _⟩ := h
    obtain ⟨s, rfl, _⟩ := h2
    exact h1.len
  · refine ⟨_, (pss_cons (ps_set (i := 1) sc_law_of_text.nd rfl (by first | exact Or.inl rfl | exact Or.inr rfl) (pe_lst (pa_cons (pe_ex1 (xo_NoWeb (K := K) T) (g_NoWeb (K := K) T) (by rfl) (pa_cons (pv 0) pa_nil)) (pa_cons (pe_ex1 (xo_NoText (K := K) T) (g_NoText (K := K) T) (by rfl) (pa_cons (pv 0) pa_nil)) (pa_cons (pe_ex1 (xo_NoNumbers (K := K) T) (g_NoNumbers (K := K) T) (by rfl) (pa_cons (pv 0) pa_nil)) (pa_cons (pe_ex1 (xo_NoLot (K := K) T) (g_NoLot (K := K) T) (by rfl) (pa_cons (pv 0) pa_nil)) (pa_cons (pe_ex1 (xo_NoPoint (K := K) T) (g_NoPoint (K := K) T) (by rfl) (pa_cons (pv 0) pa_nil)) (pa_cons (pe_ex1 (xo_NoPointing (K := K) T) (g_NoPointing (K := K) T) (by rfl) (pa_cons (pv 0) pa_nil)) (pa_cons (pe_ex1 (xo_NoEars (K := K) T) (g_NoEars (K := K) T) (by rfl) (pa_cons (pv 0) pa_nil)) pa_nil)))))))))
      (pss_one (ps_ret (pe_op (gAdd (K := K)) (pv 1) (pe_lst (pa_cons (pe_ex1 (xo_NoFixed (K := K) T) (g_NoFixed (K := K) T) (by rfl) (pa_cons (pv 0) pa_nil)) (pa_cons (pe_ex1 (xo_NoNumber (K := K) T) (g_NoNumber (K := K) T) (by rfl) (pa_cons (pv 0) pa_nil)) (pa_cons (pe_ex1 (xo_Unlike (K := K) T) (g_Unlike (K := K) T) (by rfl) (pa_cons (pv 0) pa_nil)) (pa_cons (pe_ex1 (xo_NotOver (K := K) T) (g_NotOver (K := K) T) (by rfl) (pa_cons (pv 0) pa_nil)) (pa_cons (pe_ex1 (xo_TooMuch (K := K) T) (g_TooMuch (K := K) T) (by rfl) (pa_cons (pv 0) pa_nil)) pa_nil)))))))))), ?_⟩
    refine run0 (N := ["_law_text", "_law_some"]) inferInstance h (fun ds R Xd h => ?_)
    obtain ⟨s, rfl, q⟩ := h
    have hxs := T.xs
    walk_at "a"
    exact q
theorem loopEI {g : DGW} {tb : DSW} {X : XC} {E : DEnds} {r : Bool} (xs : List D) (Pv : DEnv → Nat → DEnv → Prop) {ρ : DEnv} (h0 : Pv ρ 0 ρ)
    (hs : ∀ (i : Nat) (x : D) (ρ' : DEnv) (k : DEnv → Prop), xs[i]? = some x → Pv ρ i ρ' → (∀ ρ2, Pv ρ (i + 1) ρ2 → k ρ2) → g (r, .tup [.int (i : Nat), x]) ρ' fun ρ1 => tb X { E with nx := k, ct := k, bk := E.nx } ρ1)
    (hd : ∀ ρ', Pv ρ xs.length ρ' → E.nx ρ') : loopC g tb X E (enumD r xs) ρ := by
  have h := loopE (r := r) (fun d => d) xs Pv h0 hs hd
  rwa [List.map_id'] at h
def bits17 (c : Str) : List D := kinds17.map fun y => .bl (decide (c = y))
theorem cnt17 : (kinds17.all fun c => decide ((bits17 c).countP (fun z => eqV (toV z) (toV (.bl true))) = 1)) = true := by decide +kernel
theorem idx17 : ((List.range 17).all fun j => (List.range j).all fun m => decide (kinds17[m]? ≠ kinds17[j]?)) = true := by decide +kernel
theorem cnt17_get {c : Str} (h : c ∈ kinds17) : (bits17 c).countP (fun z => eqV (toV z) (toV (.bl true))) = 1 := of_decide_eq_true (List.all_eq_true.mp cnt17 c h)
theorem idx17_at {c : Str} {j : Nat} (h : kinds17[j]? = some c) : (bits17 c)[j]? = some (.bl true) := by
  unfold bits17
  rw [List.getElem?_map, h]
  show some (D.bl (decide (c = c))) = _
  rw [decide_eq_true rfl]
theorem idx17_lt {c : Str} {j : Nat} (h : kinds17[j]? = some c) : ∀ (m : Nat) (z : D), m < j → (bits17 c)[m]? = some z → eqV (toV z) (toV (.bl true)) = false := fun m z hm hz => by
  have hj : j < 17 := (List.getElem?_eq_some_iff.mp h).1
  have n := of_decide_eq_true (List.all_eq_true.mp (List.all_eq_true.mp idx17 j (List.mem_range.mpr hj)) m (List.mem_range.mpr hm))
  unfold bits17 at hz
  rw [List.getElem?_map] at hz
  cases e : kinds17[m]? with
  | none =>
    rw [e] at hz
    cases hz
  | some y =>
    rw [e] at hz
    cases hz
    rw [e, h] at n
    have ny : c ≠ y := fun z => n (by rw [z])
    show eqV (toV (D.bl (decide (c = y)))) _ = false
    rw [decide_eq_false ny]
    rfl
theorem flat17 (c : Str) : (bits17 c).all D.flat = true := by
  unfold bits17
  rw [List.all_map]
  exact List.all_eq_true.mpr fun _ _ => rfl
def fsAre : FS := fun ds Q _ => ∃ (es : List D) (f : Nat), ds = [.lst es, .int f] ∧ es.length ≤ 17 ∧ (∀ i d, es[i]? = some d → ∃ c fs, d = .exn c fs ∧ kinds17[f + i]? = some c) ∧ Q (.bl true)
theorem ok_law_are_kinds {P : Program} {w : World} {K : PySem.W.Frag} {mg : Str → Option Value} {base : Heap} (T : Top K mg) :
    C8.Cal P w K mg base 2 "_law_are_kinds" (sp0 K fsAre) [] := by
  refine cal_of (fd_law_are_kinds T) (g_law_are_kinds T) sc_law_are_kinds bi_law_are_kinds (fun vs H Q E h => ?_) (fun cdv A outer s H vs Q E hr h => ?_)
  · obtain ⟨ds, R, Xd, h1, h2, _⟩ := h
    obtain ⟨es, f, rfl, _⟩ := h2
    exact h1.len
  · refine ⟨_, (pss_cons (ps_for PassesOwn.never rfl (pi_enumG (K := K) (by rfl) (f_enumerate T) (pa_cons (pv 0) pa_nil)) (pg_tupG (K := K) (n := 2) rfl (pgs_cons (pg_name (i := 2) sc_law_are_kinds.nd rfl (by first | exact Or.inl rfl | exact Or.inr rfl)) (pgs_cons (pg_name (i := 3) sc_law_are_kinds.nd rfl (by first | exact Or.inl rfl | exact Or.inr rfl)) pgs_nil))) (pss_cons (ps_set (i := 4) sc_law_are_kinds.nd rfl (by first | exact Or.inl rfl | exact Or.inr rfl) (C8.pe_c (ok_law_kinds (K := K) T) hr (by decide) (by rfl) (pa_cons (pv 3) pa_nil)))
      (pss_cons (ps_if (PW.pt (pw_or (pt_not (pt_val (pe_callB (call_isV (K := K)) (by rfl) (f_isinstance T) (by decide +kernel) (pa_cons (pv 3) (pa_cons (C8.pe_gc (v := .ref (He.ga K "PointError")) (by rfl) ⟨_, g_PointError T, rfl⟩) pa_nil))))) (pw_or (pt_not (pt_val (pe_callB (call_isV (K := K)) (by rfl) (f_isinstance T) (by decide +kernel) (pa_cons (pv 3) (pa_cons (pe_bltn (v := .ty "ValueError") (by rfl) (f_ValueError T) (by decide +kernel) rfl) pa_nil))))) (pw_or1 (pt_cmpR (gNe (K := K) hr.units) (pe_bmK (K := K) PySem.F.plainAttrs_list PySem.F.slot_list_count PySem.F.type_list_count (mtCountK (K := K)) (pv 4) (pa_cons pe_bl pa_nil)) pe_int (nomark _)))))) (pss_one (ps_ret pe_bl)) pss_nil)
      (pss_one (ps_if (pt_cmpR (gNe (K := K) hr.units) (pe_bmK (K := K) PySem.F.plainAttrs_list PySem.F.slot_list_index PySem.F.type_list_index (mtIndexK (K := K)) (pv 4) (pa_cons pe_bl pa_nil)) (pe_op (gAdd (K := K)) (pv 1) (pv 2)) (nomark _)) (pss_one (ps_ret pe_bl)) pss_nil)))))
      (pss_one (ps_ret pe_bl))), ?_⟩
    refine run0 (N := ["_law_some", "_law_first", "_law_k", "_law_e", "_law_kinds_here"]) inferInstance h (fun ds R Xd h => ?_)
    obtain ⟨es, f, rfl, hl, he, q⟩ := h
    have hxs := T.xs
    walk_at "a"
    refine frL [_, _, _, _, _] rfl ?_
    refine loopEI es (fun (r0 : DEnv) i (ρ : DEnv) => ∃ (x2 : Option Sl) (x3 : Option Sl) (x4 : Option Sl), ρ = upF r0 [(2, x2), (3, x3), (4, x4)]) ⟨_, _, _, rfl⟩ ?_ ?_
    · rintro i x ρ kk hi ⟨x2, x3, x4, rfl⟩ hk
      obtain ⟨c, fs, rfl, hc⟩ := he i x hi
      have hm := List.mem_of_getElem? hc
      refine frG [_, _, _, _, _] rfl ?_
      walk_at "a"
      refine callC_of ⟨c, fs, rfl, hm, ?_⟩
      rw [show (kinds17.map fun y => D.bl (decide (c = y))) = bits17 c from rfl]
      have c1 := cnt17_get hm
      have f1 := flat17 c
      have ia := idx17_at hc
      have il := idx17_lt hc
      generalize bits17 c = bs at *
      walk_at "a"
      refine ⟨is17_get hxs hm, _, kit17p_get hxs hm, ?_⟩
      walk_at "a"
      refine ⟨is17_get hxs hm, _, kit17v_get hxs hm, ?_⟩
      walk_at "a"
      refine ⟨f + i, _, ia, rfl, il, ?_⟩
      walk_at "a"
      exact hk _ ⟨_, _, _, rfl⟩
    · rintro ρ ⟨x2, x3, x4, rfl⟩
      walk_at "a"
      exact q
end PW

namespace PW
open PySem PySem.Spec PyProof.Rows L2
theorem are12 : ∀ (i : Nat) (d : D), ((kinds17.take 12).map exn0)[i]? = some d → ∃ c fs, d = .exn c fs ∧ kinds17[0 + i]? = some c := fun i d h => by
  rw [List.getElem?_map] at h
  cases e : (kinds17.take 12)[i]? with
  | none =>
    rw [e] at h
    cases h
  | some c =>
    rw [e] at h
    cases h
    refine ⟨c, [], rfl, ?_⟩
    rw [Nat.zero_add]
    rw [List.getElem?_take] at e
    split at e
    · exact e
    · cases e
theorem are5 {f1 f2 f3 f4 f5 : List (Str × D)} : ∀ (i : Nat) (d : D), [D.exn "Parted" f1, .exn "Shut" f2, .exn "Thin" f3, .exn "Barred" f4, .exn "NoIns" f5][i]? = some d → ∃ c fs, d = .exn c fs ∧ kinds17[12 + i]? = some c
  | 0, _, rfl => ⟨_, _, rfl, rfl⟩
  | 1, _, rfl => ⟨_, _, rfl, rfl⟩
  | 2, _, rfl => ⟨_, _, rfl, rfl⟩
  | 3, _, rfl => ⟨_, _, rfl, rfl⟩
  | 4, _, rfl => ⟨_, _, rfl, rfl⟩
  | i + 5, _, h => by cases h
theorem pl5_17 {lot : List Str} (nk : NamesOk lot) : PlD 2 (.lst [nmsD lot, nmsD lot, nmsD lot, nmsD lot, nmsD lot]) := .lst fun x hx => by
  have e : x = nmsD lot := by
    simp only [List.mem_cons, List.not_mem_nil, or_false, or_self] at hx
    exact hx
  rw [e]
  exact PlD.nms fun x hx => nk.ok x hx
theorem pl2_17 {i : Int} {w : Str} (h : PyData.strOk w = true) : PlD 1 (.tup [.int i, .str w]) := .tup fun x hx => by
  simp only [List.mem_cons, List.not_mem_nil, or_false] at hx
  rcases hx with rfl | rfl
  · exact .int _
  · exact .str h
theorem fn_law {P : Program} {w : World} {K : PySem.W.Frag} {mg : Str → Option Value} {base : Heap} (T : Top K mg) {fd : FuncData}
    (F : FunD K "law" "law" (defArgs s_law) (defBody s_law) (defScope s_law) [] [] (He.fAd K ("law", none)) fd) : FnOk P w K mg base C8.CX0 3 (He.fAd K ("law", none)) fd ["_law_script"] (spLaw K) := by
  refine fnok_of F sc_law (fun vs H Q E h => ?_) (fun cdv A outer s H vs Q E hr h => ?_)
  · obtain ⟨a, ns, rfl, _⟩ := h
    rfl
  · refine ⟨_, (pss_cons (ps_for PassesOwn.never rfl (pi_range1 (by rfl) (f_range T) (pa_cons (pe_callB (gMax2 rfl) (by rfl) (f_max T) (by decide +kernel) (pa_cons pe_int (pa_cons (pe_callB (gMin2 rfl) (by rfl) (f_min T) (by decide +kernel) (pa_cons (pe_callB (gLen (K := K)) (by rfl) (f_len T) PySem.boot_len (pa_cons (pv 0) pa_nil)) (pa_cons pe_int pa_nil))) pa_nil))) pa_nil)) (pg_name (i := 1) sc_law.nd rfl (by first | exact Or.inl rfl | exact Or.inr rfl)) (pss_cons (ps_set (i := 2) sc_law.nd rfl (by first | exact Or.inl rfl | exact Or.inr rfl) (C8.pe_c (ok_law_pot (K := K) T) hr (by decide) (by rfl) (pa_cons (pv 0) (pa_cons (pv 1) pa_nil))))
      (pss_cons (ps_set (i := 3) sc_law.nd rfl (by first | exact Or.inl rfl | exact Or.inr rfl) (C8.pe_c (dk_law_names (K := K) T) hr (by decide) (by rfl) (pa_cons (pv 2) (pa_cons (pe_op (gAdd (K := K)) pe_int (C8.pe_c (ok_law_take (K := K) T) hr (by decide) (by rfl) (pa_cons (pv 2) (pa_cons pe_int pa_nil)))) pa_nil))))
      (pss_cons (ps_set (i := 4) sc_law.nd rfl (by first | exact Or.inl rfl | exact Or.inr rfl) (C8.pe_c (ok_law_take (K := K) T) hr (by decide) (by rfl) (pa_cons (pv 2) (pa_cons pe_int pa_nil))))
      (pss_cons (ps_set (i := 5) sc_law.nd rfl (by first | exact Or.inl rfl | exact Or.inr rfl) (pe_ix (gIx (K := K)) (pe_lst (pa_cons pe_str (pa_cons pe_str pa_nil))) (C8.pe_c (ok_law_take (K := K) T) hr (by decide) (by rfl) (pa_cons (pv 2) (pa_cons pe_int pa_nil))) (fun _ _ => rfl)))
      (pss_cons (ps_par3 (i := 6) (j := 7) (l := 8) (by rfl) sc_law.nd rfl rfl rfl (by decide) (by decide) (by decide) rfl rfl rfl (pa_cons (pe_exI (oi_Parted (K := K) T) hr (by decide) (by rfl) (pa_cons (pe_callTy (gList (K := K) rfl) (by rfl) (f_list T) (by decide +kernel) (pa_cons (pv 3) pa_nil)) pa_nil)) (pa_cons (pe_exI (oi_Shut (K := K) T) hr (by decide) (by rfl) (pa_cons (pe_callTy (gList (K := K) rfl) (by rfl) (f_list T) (by decide +kernel) (pa_cons (pv 3) pa_nil)) pa_nil)) (pa_cons (pe_exI (oi_Thin (K := K) T) hr (by decide) (by rfl) (pa_cons (pe_callTy (gList (K := K) rfl) (by rfl) (f_list T) (by decide +kernel) (pa_cons (pv 3) pa_nil)) pa_nil)) pa_nil))) (by rfl))
      (pss_cons (ps_par (i := 9) (j := 10) (by rfl) sc_law.nd rfl rfl (by decide) rfl rfl (pa_cons (pe_exI (oi_Barred (K := K) T) hr (by decide) (by rfl) (pa_cons (pv 4) (pa_cons (pe_callTy (gList (K := K) rfl) (by rfl) (f_list T) (by decide +kernel) (pa_cons (pv 3) pa_nil)) pa_nil))) (pa_cons (pe_exI (oi_NoIns (K := K) T) hr (by decide) (by rfl) (pa_cons (pv 5) (pa_cons (pe_callTy (gList (K := K) rfl) (by rfl) (f_list T) (by decide +kernel) (pa_cons (pv 3) pa_nil)) pa_nil))) pa_nil)) (by rfl))
      (pss_cons (ps_if (PW.pt (pw_or (pt_not (pt_val (C8.pe_c (ok_law_are_kinds (K := K) T) hr (by decide) (by rfl) (pa_cons (pe_c0 (ok_law_of_nothing (K := K) T) hr (by decide) (by rfl)) (pa_cons pe_int pa_nil))))) (pw_or1 (pt_not (pt_val (C8.pe_c (ok_law_are_kinds (K := K) T) hr (by decide) (by rfl) (pa_cons (C8.pe_c (ok_law_of_text (K := K) T) hr (by decide) (by rfl) (pa_cons (pv 5) pa_nil)) (pa_cons pe_int pa_nil)))))))) (pss_one (ps_ret pe_bl)) pss_nil)
      (pss_cons (ps_if (pt_not (pt_val (C8.pe_c (ok_law_are_kinds (K := K) T) hr (by decide) (by rfl) (pa_cons (pe_lst (pa_cons (pv 6) (pa_cons (pv 7) (pa_cons (pv 8) (pa_cons (pv 9) (pa_cons (pv 10) pa_nil)))))) (pa_cons pe_int pa_nil))))) (pss_one (ps_ret pe_bl)) pss_nil)
      (pss_one (ps_if (PW.pt (pw_or (pt_cmpR (gNe (K := K) hr.units) (pe_lst (pa_cons (pe_xv (K := K) (pv 6)) (pa_cons (pe_xv (K := K) (pv 7)) (pa_cons (pe_xv (K := K) (pv 8)) (pa_cons (pe_xv (K := K) (pv 9)) (pa_cons (pe_xv (K := K) (pv 10)) pa_nil)))))) (pe_op gMul (pe_lst (pa_cons (pv 3) pa_nil)) pe_int) (nomark _)) (pw_or1 (pt_cmpR (gNe (K := K) hr.units) (pe_tup (pa_cons (pe_xv (K := K) (pv 9)) (pa_cons (pe_xv (K := K) (pv 10)) pa_nil))) (pe_tup (pa_cons (pv 4) (pa_cons (pv 5) pa_nil))) (nomark _))))) (pss_one (ps_ret pe_bl)) pss_nil)))))))))))
      (pss_one (ps_ret pe_bl))), ?_⟩
    refine runS (N := ["_law_script", "_law_k", "_law_pot_here", "_law_lot", "_law_tie", "_law_word", "_law_one", "_law_two", "_law_three", "_law_four", "_law_five"]) inferInstance (by decide) h (fun ns hlen => ?_)
    walk_at "a"
    refine frL [_, _, _, _, _, _, _, _, _, _, _] rfl ?_
    refine rangeU _ _ (fun (r0 : DEnv) i (ρ : DEnv) => ∃ (x1 : Option Sl) (x2 : Option Sl) (x3 : Option Sl) (x4 : Option Sl) (x5 : Option Sl) (x6 : Option Sl) (x7 : Option Sl) (x8 : Option Sl) (x9 : Option Sl) (x10 : Option Sl), ρ = upF r0 [(1, x1), (2, x2), (3, x3), (4, x4), (5, x5), (6, x6), (7, x7), (8, x8), (9, x9), (10, x10)]) ⟨_, _, _, _, _, _, _, _, _, _, rfl⟩ ?_ ?_
    · rintro i ρ kk hi ⟨x1, x2, x3, x4, x5, x6, x7, x8, x9, x10, rfl⟩ hk
      refine frG [_, _, _, _, _, _, _, _, _, _, _] rfl ?_
      walk_at "a"
      refine takeC_of (by decide) (by decide) fun k k0 k1 => ?_
      walk_at "a"
      refine callC_of ⟨1 + k, rfl, by omega, by omega, fun lot nk nl => ?_⟩
      walk_at "a"
      refine takeC_of (by decide) (by decide) fun tie t0 t1 => ?_
      walk_at "a"
      refine takeC_of (by decide) (by decide) fun w w0 w1 => ?_
      rcases (show w = 0 ∨ w = 1 by omega) with rfl | rfl
      all_goals
        walk_at "a"
        refine callC_of ⟨rfl, ?_⟩
        walk_at "a"
        refine callC_of ⟨_, 0, rfl, by decide, are12, ?_⟩
        walk_at "a"
        refine callC_of ⟨_, rfl, ?_⟩
        walk_at "a"
        refine callC_of ⟨_, 0, rfl, by decide, are12, ?_⟩
        walk_at "a"
        refine callC_of ⟨_, 12, rfl, Nat.le_of_ble_eq_true rfl, are5, ?_⟩
        walk_at "a"
        iterate 5
          refine ⟨fld_get T.xs rfl, ?_⟩
          walk_at "a"
        refine eqC_t (n := 2) (d := .lst [nmsD lot, nmsD lot, nmsD lot, nmsD lot, nmsD lot]) (pl5_17 nk) (by decide) ?_
        walk_at "a"
        iterate 2
          refine ⟨fld_get T.xs rfl, ?_⟩
          walk_at "a"
      · refine eqC_t (n := 1) (d := .tup [.int tie, .str "within"]) (pl2_17 (by decide +kernel)) (by decide) ?_
        walk_at "a"
        exact hk _ ⟨_, _, _, _, _, _, _, _, _, _, rfl⟩
      · refine eqC_t (n := 1) (d := .tup [.int tie, .str "touching"]) (pl2_17 (by decide +kernel)) (by decide) ?_
        walk_at "a"
        exact hk _ ⟨_, _, _, _, _, _, _, _, _, _, rfl⟩
    · rintro ρ ⟨x1, x2, x3, x4, x5, x6, x7, x8, x9, x10, rfl⟩
      walk_at "a"
theorem law_end {P : Program} {w : World} {K : PySem.W.Frag} {mg : Str → Option Value} {fa : Addr} (T : Top K mg) (hmg : mg "law" = some (.ref fa)) :
    ∃ fd : FuncData, (∀ (s : Shared) (v : Value), BindsTo s fd ⟨[v], []⟩ [("_law_script", v)]) ∧ ∀ base : Heap, K.In base → base.Ns mainGlobals mg → FnOk P w K mg base C8.CX0 3 fa fd ["_law_script"] (spLaw K) := by
  obtain ⟨fd, F⟩ := fd_law T
  have e := hmg.symm.trans (g_law T)
  cases e
  exact ⟨fd, fun s v => FunD.bindsA (ps := ["_law_script"]) F bi_law s [v] rfl, fun base _ _ => fn_law T F⟩
end PW

open PySem PySem.W PySem.Calls PyProof.Rows
set_option maxHeartbeats 0 in
theorem PySem.Challenge.cw_pointways_k17_refusals_made_holds : PySem.Challenge.rw_pointways_k17_refusals_made.Holds := by
  w_on; o_law
  refine HandSHeadRun.head_any (r := OpenLaw.row PySem.Challenge.rw_pointways_k17_refusals_made)
    (q := view (OpenLaw.row PySem.Challenge.rw_pointways_k17_refusals_made).prog [27]) (H := PW.Hd.hk) (ob := PW.Hd.ob) (M := 9000) (loose := PW.Hd.loose)
    (d := HandSHeadRun.topDef (OpenLaw.row PySem.Challenge.rw_pointways_k17_refusals_made).prog 27) (kwd := []) PW.Hd.ob_eq (by kernel_rfl) (fun s => by kernel_rfl) PW.Hd.run
    (by kernel_rfl) (by kernel_rfl) (by kernel_rfl) (by rfl) (by first | assumption | decide +kernel) (by decide +kernel)
    ⟨rfl, rfl, rfl, rfl, rfl, by decide +kernel⟩ ?hw ?hc
  case hw => w_witness2
  case hc =>
    refine L2.walk_ofE (l := PySem.Challenge.rw_pointways_k17_refusals_made) (n := 63) (k := 3) (x := "_law_script") (CX := C8.CX0)
      rfl (by decide) (by kernel_rfl) ⟨rfl, by decide, by decide⟩ ?F (fun _ _ _ _ z => z)
    intro w mg fa h Y G hmg0
    obtain ⟨K, KX, c, cx⟩ := Y
    have hmg : mg ("law" : PySem.Str) = some (.ref fa) := by
      have e : (HandSHeadRun.topDef (OpenLaw.row PySem.Challenge.rw_pointways_k17_refusals_made).prog 27).name = ("law" : PySem.Str) := by kernel_rfl
      rw [← e]
      exact hmg0
    have T : PW.Top K mg := ⟨PW.TopOf.mk' KX G c, cx⟩
    obtain ⟨fd, hb, hF⟩ := PW.law_end (P := (PySem.Challenge.rw_pointways_k17_refusals_made).prog) (w := w) T hmg
    exact ⟨K, fd, PW.spLaw K, KX, hb, fun H a ns hl _ hS => ⟨a, ns, rfl, hS, hl, fun _ => rfl⟩, hF⟩
