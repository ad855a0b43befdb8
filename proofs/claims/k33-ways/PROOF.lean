import PyProof.Rows.All
import Wide.All
import OpenK.AllK
import Wide.FinOn
import HandS.ForMost
import HandS.Codes
import HandS.IsInst
import HandS.More
import HandS.Defaults
import HandS.Walk
import HandS.Deep
import HandS.Conv
import HandS.Zip
import HandS.Style
import HandS.Head0
import HandS.Head1
import HandS.Head2
import HandS.HeadEnd
import HandS.HeadHook1
import HandS.HeadHook2
import PySem.Challenge.RW_pointways_k33_whole_ways_of_fewest_ties
set_option Elab.async false
set_option linter.all false
set_option maxRecDepth 100000
set_option maxHeartbeats 4000000
namespace PW
open PySem PySem.Spec PyProof.Rows L2
/-! ### what the top left, by names -/
structure TopOf (fa : List He.Fa) (fn : List He.DefD) (K : PySem.W.Frag) (mg : Str → Option Value) : Prop where
  says : He.SaysD fa fn K
  glo : ∀ x, (He.Fa.glo x).ok K = true → mg x = some (.ref (He.ga K x))
  free : ∀ x, (He.Fa.free x).ok K = true → mg x = none
  int : ∀ x i, (He.Fa.int x i).ok K = true → ∃ t, mg x = some (.int i t)
  str : ∀ x z, (He.Fa.str x z).ok K = true → ∃ t, mg x = some (.str z t)
theorem TopOf.mk' {fa : List He.Fa} {fn : List He.DefD} {K : PySem.W.Frag} {mg : Str → Option Value} {h : Heap} (X : K.In h) (G : h.Ns mainGlobals mg) (c : He.SaysD fa fn K) : TopOf fa fn K mg :=
  ⟨c, fun _ z => He.glo_ok X G z, fun _ z => He.free_ok X G z, fun _ _ z => He.int_ok X G z, fun _ _ z => He.str_ok X G z⟩
section
variable {P : Program} {w : World} {K : PySem.W.Frag} {mg : Str → Option Value} {base : Heap}
abbrev BodyOf (P : Program) (w : World) (K : PySem.W.Frag) (mg : Str → Option Value) (base : Heap) (N : List Str) (qual : Str) (sc : Scope) (bd : List Stmt) (f : Addr) (k : Nat) (sp : Sp) : Prop :=
  ∀ (cdv : Value) (A : Around) (outer : List Env) (s : Shared) (H : Hp) (vs : List V) (Q : VK) (E : XK), Room k (A.deeper (envOfC qual sc s.heap.objs.size f cdv)) → sp vs H Q E →
      ∃ t, PSs (cxOf C8.CX0 P w K mg base N qual sc f cdv A outer s H E).nox bd t ∧ t { nx := fun _ H' => Q .non H', rt := Q } (start N vs) H
abbrev BindOf (x qual : Str) (pa : Arguments) (bd : List Stmt) (sc : Scope) (ps : List Str) : Prop :=
  ∀ (kV doc pm : Value) (an : Option Addr) (cdv ct : Value) (us : List Value), us.length = ps.length → bindArgs (PySem.W.fnOf x qual pa bd sc .none kV doc pm an cdv ct) ⟨us, []⟩ = pure (ps.zip us)
theorem fnok_of {x qual : Str} {pa : Arguments} {bd : List Stmt} {sc : Scope} {f : Addr} {fd : FuncData} {N ps : List Str} {k : Nat} {sp : Sp} (F : FunD K x qual pa bd sc [] [] f fd) (S : FnScope N ps sc)
    (len : ∀ vs H Q E, sp vs H Q E → vs.length = ps.length) (hbody : BodyOf P w K mg base N qual sc bd f k sp) : FnOk P w K mg base C8.CX0 (k + 1) f fd ps sp := by
  refine F.ok S len fun cdv A outer s H vs Q E hr h => ?_
  obtain ⟨t, a, b⟩ := hbody cdv A outer s H vs Q E hr h
  exact ⟨t, a.nox, b⟩
/-- a def by its body -/
theorem cal_of {x : Str} {pa : Arguments} {bd : List Stmt} {sc : Scope} {f : Addr} {N ps : List Str} {k : Nat} {sp : Sp} (F : ∃ fd, FunD K x x pa bd sc [] [] f fd) (hm : mg x = some (.ref f)) (S : FnScope N ps sc)
    (hb : BindOf x x pa bd sc ps) (len : ∀ vs H Q E, sp vs H Q E → vs.length = ps.length) (hbody : BodyOf P w K mg base N x sc bd f k sp) : C8.Cal P w K mg base (k + 1) x sp [] := by
  obtain ⟨fd, F⟩ := F
  exact ⟨f, fd, ps, [], fnok_of F S len hbody, hm, F.kp, F.bindsN hb, .nil⟩
/-- a method by its body -/
theorem met_of {m qual : Str} {C : Addr} {pa : Arguments} {bd : List Stmt} {sc : Scope} {f : Addr} {N ps : List Str} {k : Nat} {sp : Sp} (c : Cls K C) (me : Meth K C m f) (F : ∃ fd, FunD K m qual pa bd sc [] [] f fd) (S : FnScope N ps sc)
    (hb : BindOf m qual pa bd sc ps) (len : ∀ vs H Q E, sp vs H Q E → vs.length = ps.length) (hbody : BodyOf P w K mg base N qual sc bd f k sp) : C8.Met P w K mg base (k + 1) C m sp [] := by
  obtain ⟨fd, F⟩ := F
  exact ⟨f, fd, ps, [], c, me, fnok_of F S len hbody, F.bindsN hb, .nil⟩
/-- a class by its __init__'s body -/
theorem mak_of {x qual : Str} {C : Addr} {pa : Arguments} {bd : List Stmt} {sc : Scope} {f : Addr} {N ps : List Str} {k : Nat} {sp : Sp} (M : Mk K C f) (hm : mg x = some (.ref C)) (F : ∃ fd, FunD K "__init__" qual pa bd sc [] [] f fd) (S : FnScope N ps sc)
    (hb : BindOf "__init__" qual pa bd sc ps) (len : ∀ vs H Q E, sp vs H Q E → vs.length = ps.length) (hbody : BodyOf P w K mg base N qual sc bd f k sp) : C8.Mak P w K mg base (k + 1) x C sp [] := by
  obtain ⟨fd, F⟩ := F
  exact ⟨f, fd, ps, [], M, fnok_of F S len hbody, hm, F.bindsN hb, .nil⟩
end
/-! ### the layer's rules with the written part by its own name (so that a comprehension's reading holds none of its frame) -/
section
variable {X : Cx} {K : PySem.W.Frag}
def rLenK (K : PySem.W.Frag) : List V → Hp → VK → Prop := fun xs H Q => ∃ p ys, xs = [V.ref p] ∧ (SqL K H p ys ∨ SqT K H p ys) ∧ Q (.int ys.length) H
def rListK (K : PySem.W.Frag) : List V → Hp → VK → Prop := fun xs H Q => ∃ p ys, xs = [V.ref p] ∧ (SqL K H p ys ∨ SqT K H p ys) ∧ ∀ l, H l = none → Q (.ref l) (upd H l (.lst ys))
def rTupK (K : PySem.W.Frag) : List V → Hp → VK → Prop := fun xs H Q => ∃ p ys, xs = [V.ref p] ∧ ((SqL K H p ys ∧ ∀ l, H l = none → Q (.ref l) (upd H l (.tup ys))) ∨ (SqT K H p ys ∧ Q (.ref p) H))
theorem ixL (h : X.K = K := by rfl) : IxR X (rIxL K) := by
  subst h
  exact ix_list
theorem ixT (h : X.K = K := by rfl) : IxR X (rIxT K) := by
  subst h
  exact ix_tup
theorem inSeq (h : X.K = K := by rfl) : OpR X (compareOp .In) (rIn K false) := by
  subst h
  exact op_in_seq
theorem notInSeq (h : X.K = K := by rfl) : OpR X (compareOp .NotIn) (rIn K true) := by
  subst h
  exact op_notIn_seq
theorem eqDK (hu : X.A.units + 64 < cLine) (h : X.K = K := by rfl) : OpR X (compareOp .Eq) (rEqD K) := by
  subst h
  exact op_eqD hu
theorem neDK (hu : X.A.units + 64 < cLine) (h : X.K = K := by rfl) : OpR X (compareOp .NotEq) (rNeD K) := by
  subst h
  exact op_neD hu
theorem inDK (hu : X.A.units + 65 < cLine) (h : X.K = K := by rfl) : OpR X (compareOp .In) (rInD K) := by
  subst h
  exact op_inD hu
theorem notInDK (hu : X.A.units + 65 < cLine) (h : X.K = K := by rfl) : OpR X (compareOp .NotIn) (rNotInD K) := by
  subst h
  exact op_notInD hu
theorem u65 {k : Nat} {A : Around} (r : Room k A) : A.units + 65 < cLine := by
  have := r.un
  omega
theorem lookup_relabel {env : Env} : ∀ {names : List (Str × NameKind)} {x : Str}, names.lookup x = some .cell ∨ names.lookup x = some .free →
    (names.map fun (n, k) => if (k == NameKind.free && env.scope.kind == .function && env.kindOf n == some .cell) then (n, NameKind.cell) else (n, k)).lookup x = some .cell ∨ (names.map fun (n, k) => if (k == NameKind.free && env.scope.kind == .function && env.kindOf n == some .cell) then (n, NameKind.cell) else (n, k)).lookup x = some .free
  | [], _, h => by simp at h
  | (n, k) :: r, x, h => by
    have ih := @lookup_relabel env r x
    rw [List.map_cons]
    generalize hc : (k == NameKind.free && env.scope.kind == .function && env.kindOf n == some .cell) = c
    by_cases e : (x == n) = true
    · rw [List.lookup_cons, e] at h
      cases c with
      | true =>
        left
        show List.lookup x ((if (k == NameKind.free && env.scope.kind == .function && env.kindOf n == some .cell) = true then (n, NameKind.cell) else (n, k)) :: _) = _
        rw [hc, if_pos rfl, List.lookup_cons, e]
      | false =>
        show List.lookup x ((if (k == NameKind.free && env.scope.kind == .function && env.kindOf n == some .cell) = true then (n, NameKind.cell) else (n, k)) :: _) = _ ∨ List.lookup x ((if (k == NameKind.free && env.scope.kind == .function && env.kindOf n == some .cell) = true then (n, NameKind.cell) else (n, k)) :: _) = _
        rw [hc, if_neg Bool.false_ne_true, List.lookup_cons, e]
        exact h
    · have e' : (x == n) = false := Bool.eq_false_iff.mpr e
      rw [List.lookup_cons, e'] at h
      show List.lookup x ((if (k == NameKind.free && env.scope.kind == .function && env.kindOf n == some .cell) = true then (n, NameKind.cell) else (n, k)) :: _) = _ ∨ List.lookup x ((if (k == NameKind.free && env.scope.kind == .function && env.kindOf n == some .cell) = true then (n, NameKind.cell) else (n, k)) :: _) = _
      rw [hc]
      cases c with
      | true =>
        rw [if_pos rfl, List.lookup_cons, e']
        exact ih h
      | false =>
        rw [if_neg Bool.false_ne_true, List.lookup_cons, e']
        exact ih h
/-- a comprehension in a comprehension: sc is the outer one's scope as it is written -/
theorem blkOk_in {N : List Str} {sc scope : Scope} {env : Env} {own : List (Str × Nat)} (h : blkC N sc scope own = true) : BlkOk N (relabel sc env) scope own := by
  have b := blkOk_by h
  exact ⟨b.kind, b.uniq, b.ix, fun y hy e => lookup_relabel (b.free y hy e), b.own⟩
def iOr (w1 w2 : TI) : TI := fun σ H R => w1 σ H R ∨ w2 σ H R
def tOrE (t1 t2 : TE) : TE := fun σ H Q => t1 σ H Q ∨ t2 σ H Q
theorem pi_or {tg l : Expr} {w1 w2 : TI} (a : PI X tg l w1) (b : PI X tg l w2) : PI X tg l (iOr w1 w2) :=
  ⟨fun pins s σ H R I h => h.elim (fun z => a.run pins s σ H R I z) fun z => b.run pins s σ H R I z⟩
theorem pe_orE {e : Expr} {t1 t2 : TE} (a : PE X e t1) (b : PE X e t2) : PE X e (tOrE t1 t2) :=
  ⟨fun pins s σ H Q I h => h.elim (fun z => a.run pins s σ H Q I z) fun z => b.run pins s σ H Q I z⟩
theorem pi_listK {tg l : Expr} {tl : TE} (a : PE X l tl) (h : X.K = K := by rfl) : PI X tg l (iList K tl) := by
  subst h
  exact pi_list a
theorem pi_tupK {tg l : Expr} {tl : TE} (a : PE X l tl) (h : X.K = K := by rfl) : PI X tg l (iTup K tl) := by
  subst h
  exact pi_tup a
theorem pe_bmK {T id : String} {name : Str} {o e : Expr} {es : List Expr} {to : TE} {t : TA} {r : V → List V → Hp → VK → Prop} {apos cpos : Pos} (pa : PlainAttrs T) (slot : Slot T name id) (hty : typeOf (.builtin id) = pure (.type "method_descriptor")) (hm : MtR X id r) (ho : PE X o to) (ha : PA X (e :: es) t)
    (hK : X.K = K := by rfl) (hbase : attributeBase o name X.env (eval o X.env) = eval o X.env := by rfl) (hfew : ((backTo cpos (starEach (e :: es) X.env)).all (fun x => !x.1) && (backToKw cpos (keywordEach [] X.env)).all (fun x => x.1.isSome) && decide ((e :: es).length + ([] : List Keyword).length + (if ([] : List Keyword).isEmpty then 0 else 1) < 30)) = true := by rfl)
    (hl : (apos.endLine == cpos.line) = true := by rfl) (hs : starEach (e :: es) X.env = (false, eval e X.env) :: starEach es X.env := by rfl) (hp : (backTo cpos (starEach es X.env)).any (·.1) = false := by rfl) : PE X (.Call (.Attribute o name apos) (e :: es) [] cpos) (tBM K T r to t) := by
  subst hK
  exact pe_bm pa slot hty hm ho ha hbase hfew hl hs hp
theorem pe_bm0K {T id : String} {name : Str} {o : Expr} {to : TE} {r : V → List V → Hp → VK → Prop} {apos cpos : Pos} (pa : PlainAttrs T) (slot : Slot T name id) (hty : typeOf (.builtin id) = pure (.type "method_descriptor")) (hm : MtR X id r) (ho : PE X o to)
    (hK : X.K = K := by rfl) (hbase : attributeBase o name X.env (eval o X.env) = eval o X.env := by rfl) (hl : (apos.endLine == cpos.line) = true := by rfl) : PE X (.Call (.Attribute o name apos) [] [] cpos) (tBM0 K T r to) := by
  subst hK
  exact pe_bm0 pa slot hty hm ho hbase hl
theorem pe_fldK {e : Expr} {f : Str} {ta : TE} {pos : Pos} (he : PE X e ta) (hb : attributeBase e f X.env (eval e X.env) = eval e X.env) (hK : X.K = K := by rfl) : PE X (.Attribute e f pos) (tFld K ta f) := by
  subst hK
  exact pe_fld he hb
def rDictK (K : PySem.W.Frag) : List V → Hp → VK → Prop := fun xs H Q => ∃ (a : Addr) (ps : List Addr) (kvs : List (Key × V)), xs = [V.ref a] ∧ SqL K H a (ps.map V.ref) ∧ Paired (fun p kv => SqT K H p [kV kv.1, kv.2]) ps kvs ∧ ∀ q, H q = none → Q (.ref q) (upd H q (.dK (mergeK [] kvs)))
theorem dictK (hc : X.calm = true) (h : X.K = K := by rfl) : CallR X (.type "dict") (rDictK K) := by
  subst h
  exact call_dictP hc
theorem lenK (h : X.K = K := by rfl) : CallR X (.builtin "len") (rLenK K) := by
  subst h
  exact call_len_seq
theorem listK (h : X.K = K := by rfl) : CallR X (.type "list") (rListK K) := by
  subst h
  exact call_list_of
theorem tupK (h : X.K = K := by rfl) : CallR X (.type "tuple") (rTupK K) := by
  subst h
  exact call_tuple_of
theorem allK (hc : X.calm = true) (h : X.K = K := by rfl) : CallR X (.builtin "all") (rAll K) := by
  subst h
  exact cr_all hc
theorem anyK (hc : X.calm = true) (h : X.K = K := by rfl) : CallR X (.builtin "any") (rAny K) := by
  subst h
  exact cr_any hc
theorem sumK (hc : X.calm = true) (h : X.K = K := by rfl) : CallR X (.builtin "sum") (rSum K) := by
  subst h
  exact cr_sum hc
theorem maxK (hc : X.calm = true) (h : X.K = K := by rfl) : CallR X (.builtin "max") (rMax K) := by
  subst h
  exact cr_max hc
theorem minK (hc : X.calm = true) (h : X.K = K := by rfl) : CallR X (.builtin "min") (rMin K) := by
  subst h
  exact cr_min hc
theorem isiK1 (h : X.K = K := by rfl) : CallR X (.builtin "isinstance") (rIsi K) := by
  subst h
  exact call_isi
theorem isiKT (h : X.K = K := by rfl) : CallR X (.builtin "isinstance") (rIsiT K) := by
  subst h
  exact call_isiT
theorem slLK (h : X.K = K := by rfl) : SlR X (rSlL K) := by
  subst h
  exact sl_list
theorem slTK (h : X.K = K := by rfl) : SlR X (rSlT K) := by
  subst h
  exact sl_tup
theorem mtIndexK (h : X.K = K := by rfl) : MtR X "list.index" (rIndex K) := by
  subst h
  exact mt_index
end
end PW

set_option Elab.async false
set_option linter.all false
set_option maxRecDepth 100000
set_option maxHeartbeats 4000000
namespace PW
open PySem PySem.Spec PyProof.Rows L2
def top (i : Nat) : Stmt := PySem.Challenge.pw_pointways_k33_whole_ways_of_fewest_ties.main.body.getD i (.Pass ⟨0, 0, 0, 0⟩)
abbrev s_is_whole : Stmt := top 6
theorem sc_is_whole : FnScope ["thing"] ["thing"] (defScope s_is_whole) :=
  ⟨rfl, rfl, rfl, by decide +kernel, rfl, by decide +kernel, by decide +kernel⟩
def d_is_whole : He.DefD := ⟨("is_whole", none), "is_whole", "is_whole", defArgs s_is_whole, defBody s_is_whole, defScope s_is_whole, [], []⟩
abbrev s_is_listed : Stmt := top 7
theorem sc_is_listed : FnScope ["thing"] ["thing"] (defScope s_is_listed) :=
  ⟨rfl, rfl, rfl, by decide +kernel, rfl, by decide +kernel, by decide +kernel⟩
def d_is_listed : He.DefD := ⟨("is_listed", none), "is_listed", "is_listed", defArgs s_is_listed, defBody s_is_listed, defScope s_is_listed, [], []⟩
abbrev s_is_turn : Stmt := top 8
theorem sc_is_turn : FnScope ["thing"] ["thing"] (defScope s_is_turn) :=
  ⟨rfl, rfl, rfl, by decide +kernel, rfl, by decide +kernel, by decide +kernel⟩
def d_is_turn : He.DefD := ⟨("is_turn", none), "is_turn", "is_turn", defArgs s_is_turn, defBody s_is_turn, defScope s_is_turn, [], []⟩
abbrev s_is_pointing : Stmt := top 9
theorem sc_is_pointing : FnScope ["web", "thing", "one"] ["web", "thing"] (defScope s_is_pointing) :=
  ⟨rfl, rfl, rfl, by decide +kernel, rfl, by decide +kernel, by decide +kernel⟩
def d_is_pointing : He.DefD := ⟨("is_pointing", none), "is_pointing", "is_pointing", defArgs s_is_pointing, defBody s_is_pointing, defScope s_is_pointing, [], []⟩
abbrev s_want_pointing : Stmt := top 10
theorem sc_want_pointing : FnScope ["web", "thing"] ["web", "thing"] (defScope s_want_pointing) :=
  ⟨rfl, rfl, rfl, by decide +kernel, rfl, by decide +kernel, by decide +kernel⟩
def d_want_pointing : He.DefD := ⟨("want_pointing", none), "want_pointing", "want_pointing", defArgs s_want_pointing, defBody s_want_pointing, defScope s_want_pointing, [], []⟩
abbrev s_leads_of : Stmt := top 11
theorem sc_leads_of : FnScope ["web", "pointing", "found", "one", "other", "turn"] ["web", "pointing"] (defScope s_leads_of) :=
  ⟨rfl, rfl, rfl, by decide +kernel, rfl, by decide +kernel, by decide +kernel⟩
def d_leads_of : He.DefD := ⟨("leads_of", none), "leads_of", "leads_of", defArgs s_leads_of, defBody s_leads_of, defScope s_leads_of, [], []⟩
abbrev s_want_point : Stmt := top 13
theorem sc_want_point : FnScope ["web", "thing"] ["web", "thing"] (defScope s_want_point) :=
  ⟨rfl, rfl, rfl, by decide +kernel, rfl, by decide +kernel, by decide +kernel⟩
def d_want_point : He.DefD := ⟨("want_point", none), "want_point", "want_point", defArgs s_want_point, defBody s_want_point, defScope s_want_point, [], []⟩
abbrev s_steps_from : Stmt := top 14
theorem sc_steps_from : FnScope ["leads", "begin", "found", "row", "at", "number", "start", "goal"] ["leads", "begin"] (defScope s_steps_from) :=
  ⟨rfl, rfl, rfl, by decide +kernel, rfl, by decide +kernel, by decide +kernel⟩
def d_steps_from : He.DefD := ⟨("steps_from", none), "steps_from", "steps_from", defArgs s_steps_from, defBody s_steps_from, defScope s_steps_from, [], []⟩
abbrev s_way : Stmt := top 15
theorem sc_way : FnScope ["web", "pointing", "a", "b", "leads", "steps", "found", "here"] ["web", "pointing", "a", "b"] (defScope s_way) :=
  ⟨rfl, rfl, rfl, by decide +kernel, rfl, by decide +kernel, by decide +kernel⟩
def d_way : He.DefD := ⟨("way", none), "way", "way", defArgs s_way, defBody s_way, defScope s_way, [], []⟩
abbrev s_reached : Stmt := top 16
theorem sc_reached : FnScope ["web", "pointing", "point", "leads", "steps", "one"] ["web", "pointing", "point"] (defScope s_reached) :=
  ⟨rfl, rfl, rfl, by decide +kernel, rfl, by decide +kernel, by decide +kernel⟩
def d_reached : He.DefD := ⟨("reached", none), "reached", "reached", defArgs s_reached, defBody s_reached, defScope s_reached, [], []⟩
abbrev s_is_row : Stmt := top 22
theorem sc_is_row : FnScope ["thing"] ["thing"] (defScope s_is_row) :=
  ⟨rfl, rfl, rfl, by decide +kernel, rfl, by decide +kernel, by decide +kernel⟩
def d_is_row : He.DefD := ⟨("is_row", none), "is_row", "is_row", defArgs s_is_row, defBody s_is_row, defScope s_is_row, [], []⟩
abbrev s_is_name : Stmt := top 23
theorem sc_is_name : FnScope ["thing", "sign"] ["thing"] (defScope s_is_name) :=
  ⟨rfl, rfl, rfl, by decide +kernel, rfl, by decide +kernel, by decide +kernel⟩
def d_is_name : He.DefD := ⟨("is_name", none), "is_name", "is_name", defArgs s_is_name, defBody s_is_name, defScope s_is_name, [], []⟩
abbrev s_are_names : Stmt := top 24
theorem sc_are_names : FnScope ["thing", "one"] ["thing"] (defScope s_are_names) :=
  ⟨rfl, rfl, rfl, by decide +kernel, rfl, by decide +kernel, by decide +kernel⟩
def d_are_names : He.DefD := ⟨("are_names", none), "are_names", "are_names", defArgs s_are_names, defBody s_are_names, defScope s_are_names, [], []⟩
abbrev s_is_pair : Stmt := top 25
theorem sc_is_pair : FnScope ["points", "thing", "one"] ["points", "thing"] (defScope s_is_pair) :=
  ⟨rfl, rfl, rfl, by decide +kernel, rfl, by decide +kernel, by decide +kernel⟩
def d_is_pair : He.DefD := ⟨("is_pair", none), "is_pair", "is_pair", defArgs s_is_pair, defBody s_is_pair, defScope s_is_pair, [], []⟩
abbrev s_Web_init : Stmt := inClass (top 26) 0
theorem sc_Web_init : FnScope ["self", "points", "ties", "tie"] ["self", "points", "ties"] (defScope s_Web_init) :=
  ⟨rfl, rfl, rfl, by decide +kernel, rfl, by decide +kernel, by decide +kernel⟩
def d_Web_init : He.DefD := ⟨("Web", some "__init__"), "__init__", "Web.__init__", defArgs s_Web_init, defBody s_Web_init, defScope s_Web_init, [], []⟩
abbrev s_Web_points : Stmt := inClass (top 26) 1
theorem sc_Web_points : FnScope ["self"] ["self"] (defScope s_Web_points) :=
  ⟨rfl, rfl, rfl, by decide +kernel, rfl, by decide +kernel, by decide +kernel⟩
def d_Web_points : He.DefD := ⟨("Web", some "points"), "points", "Web.points", defArgs s_Web_points, defBody s_Web_points, defScope s_Web_points, [], []⟩
abbrev s_Web_ties : Stmt := inClass (top 26) 2
theorem sc_Web_ties : FnScope ["self"] ["self"] (defScope s_Web_ties) :=
  ⟨rfl, rfl, rfl, by decide +kernel, rfl, by decide +kernel, by decide +kernel⟩
def d_Web_ties : He.DefD := ⟨("Web", some "ties"), "ties", "Web.ties", defArgs s_Web_ties, defBody s_Web_ties, defScope s_Web_ties, [], []⟩
abbrev s_Web_many : Stmt := inClass (top 26) 3
theorem sc_Web_many : FnScope ["self"] ["self"] (defScope s_Web_many) :=
  ⟨rfl, rfl, rfl, by decide +kernel, rfl, by decide +kernel, by decide +kernel⟩
def d_Web_many : He.DefD := ⟨("Web", some "many"), "many", "Web.many", defArgs s_Web_many, defBody s_Web_many, defScope s_Web_many, [], []⟩
abbrev s_law_pot : Stmt := top 28
theorem sc_law_pot : FnScope ["_law_script", "_law_k", "_law_cell"] ["_law_script", "_law_k"] (defScope s_law_pot) :=
  ⟨rfl, rfl, rfl, by decide +kernel, rfl, by decide +kernel, by decide +kernel⟩
def d_law_pot : He.DefD := ⟨("_law_pot", none), "_law_pot", "_law_pot", defArgs s_law_pot, defBody s_law_pot, defScope s_law_pot, [], []⟩
abbrev s_law_take : Stmt := top 29
theorem sc_law_take : FnScope ["_law_pot_here", "_law_many", "_law_digit"] ["_law_pot_here", "_law_many"] (defScope s_law_take) :=
  ⟨rfl, rfl, rfl, by decide +kernel, rfl, by decide +kernel, by decide +kernel⟩
def d_law_take : He.DefD := ⟨("_law_take", none), "_law_take", "_law_take", defArgs s_law_take, defBody s_law_take, defScope s_law_take, [], []⟩
abbrev s_law_names : Stmt := top 30
theorem sc_law_names : FnScope ["_law_pot_here", "_law_many", "_law_letters", "_law_begin", "_law_found", "_law_k", "_law_more", "_law_j"] ["_law_pot_here", "_law_many"] (defScope s_law_names) :=
  ⟨rfl, rfl, rfl, by decide +kernel, rfl, by decide +kernel, by decide +kernel⟩
def d_law_names : He.DefD := ⟨("_law_names", none), "_law_names", "_law_names", defArgs s_law_names, defBody s_law_names, defScope s_law_names, [], []⟩
abbrev s_law_mixed : Stmt := top 31
theorem sc_law_mixed : FnScope ["_law_pot_here", "_law_things", "_law_found", "_law_thing"] ["_law_pot_here", "_law_things"] (defScope s_law_mixed) :=
  ⟨rfl, rfl, rfl, by decide +kernel, rfl, by decide +kernel, by decide +kernel⟩
def d_law_mixed : He.DefD := ⟨("_law_mixed", none), "_law_mixed", "_law_mixed", defArgs s_law_mixed, defBody s_law_mixed, defScope s_law_mixed, [], []⟩
abbrev s_law_tie : Stmt := top 32
theorem sc_law_tie : FnScope ["_law_pot_here", "_law_names_here", "_law_a", "_law_b"] ["_law_pot_here", "_law_names_here"] (defScope s_law_tie) :=
  ⟨rfl, rfl, rfl, by decide +kernel, rfl, by decide +kernel, by decide +kernel⟩
def d_law_tie : He.DefD := ⟨("_law_tie", none), "_law_tie", "_law_tie", defArgs s_law_tie, defBody s_law_tie, defScope s_law_tie, [], []⟩
abbrev s_law_web : Stmt := top 33
theorem sc_law_web : FnScope ["_law_pot_here", "_law_points", "_law_most", "_law_names_here", "_law_kind", "_law_ties", "_law_row", "_law_k", "_law_turns", "_law_tie_here", "_law_turn", "_law_a", "_law_b"] ["_law_pot_here", "_law_points", "_law_most"] (defScope s_law_web) :=
  ⟨rfl, rfl, rfl, by decide +kernel, rfl, by decide +kernel, by decide +kernel⟩
def d_law_web : He.DefD := ⟨("_law_web", none), "_law_web", "_law_web", defArgs s_law_web, defBody s_law_web, defScope s_law_web, [], []⟩
abbrev s_law_pointing : Stmt := top 34
theorem sc_law_pointing : FnScope ["_law_pot_here", "_law_web_here", "_law_tie_here"] ["_law_pot_here", "_law_web_here"] (defScope s_law_pointing) :=
  ⟨rfl, rfl, rfl, by decide +kernel, rfl, by decide +kernel, by decide +kernel⟩
def d_law_pointing : He.DefD := ⟨("_law_pointing", none), "_law_pointing", "_law_pointing", defArgs s_law_pointing, defBody s_law_pointing, defScope s_law_pointing, [], []⟩
abbrev s_law_handed : Stmt := top 35
theorem sc_law_handed : FnScope ["_law_pot_here", "_law_row"] ["_law_pot_here", "_law_row"] (defScope s_law_handed) :=
  ⟨rfl, rfl, rfl, by decide +kernel, rfl, by decide +kernel, by decide +kernel⟩
def d_law_handed : He.DefD := ⟨("_law_handed", none), "_law_handed", "_law_handed", defArgs s_law_handed, defBody s_law_handed, defScope s_law_handed, [], []⟩
abbrev s_law_rounds : Stmt := top 36
theorem sc_law_rounds : FnScope ["_law_web_here", "_law_row", "_law_start", "_law_found", "_law_turn", "_law_last", "_law_a", "_law_b", "_law_told", "_law_begin", "_law_goal", "_law_point"] ["_law_web_here", "_law_row", "_law_start"] (defScope s_law_rounds) :=
  ⟨rfl, rfl, rfl, by decide +kernel, rfl, by decide +kernel, by decide +kernel⟩
def d_law_rounds : He.DefD := ⟨("_law_rounds", none), "_law_rounds", "_law_rounds", defArgs s_law_rounds, defBody s_law_rounds, defScope s_law_rounds, [], []⟩
abbrev s_law_is_way : Stmt := top 37
theorem sc_law_is_way : FnScope ["_law_web_here", "_law_row", "_law_numbers", "_law_start", "_law_goal", "_law_met", "_law_number", "_law_a", "_law_b", "_law_begin", "_law_end"] ["_law_web_here", "_law_row", "_law_numbers", "_law_start", "_law_goal"] (defScope s_law_is_way) :=
  ⟨rfl, rfl, rfl, by decide +kernel, rfl, by decide +kernel, by decide +kernel⟩
def d_law_is_way : He.DefD := ⟨("_law_is_way", none), "_law_is_way", "_law_is_way", defArgs s_law_is_way, defBody s_law_is_way, defScope s_law_is_way, [], []⟩
abbrev s_law_right : Stmt := top 38
theorem sc_law_right : FnScope ["_law_made", "_law_web_here", "_law_row", "_law_given", "_law_a", "_law_b", "_law_rounds_here", "_law_found", "_law_kept"] ["_law_made", "_law_web_here", "_law_row", "_law_given", "_law_a", "_law_b", "_law_rounds_here"] (defScope s_law_right) :=
  ⟨rfl, rfl, rfl, by decide +kernel, rfl, by decide +kernel, by decide +kernel⟩
def d_law_right : He.DefD := ⟨("_law_right", none), "_law_right", "_law_right", defArgs s_law_right, defBody s_law_right, defScope s_law_right, [], []⟩
abbrev s_law : Stmt := top 39
theorem sc_law : FnScope ["_law_script", "_law_k", "_law_pot_here", "_law_web_here", "_law_made", "_law_row", "_law_given", "_law_a", "_law_rounds_here", "_law_due", "_law_told", "_law_point", "_law_b"] ["_law_script"] (defScope s_law) :=
  ⟨rfl, rfl, rfl, by decide +kernel, rfl, by decide +kernel, by decide +kernel⟩
def d_law : He.DefD := ⟨("law", none), "law", "law", defArgs s_law, defBody s_law, defScope s_law, [], []⟩
def fn : List He.DefD := [d_is_whole, d_is_listed, d_is_turn, d_is_pointing, d_want_pointing, d_leads_of, d_want_point, d_steps_from, d_way, d_reached, d_is_row, d_is_name, d_are_names, d_is_pair, d_Web_init, d_Web_points, d_Web_ties, d_Web_many, d_law_pot, d_law_take, d_law_names, d_law_mixed, d_law_tie, d_law_web, d_law_pointing, d_law_handed, d_law_rounds, d_law_is_way, d_law_right, d_law]
def fa : List He.Fa := [.glo "is_whole", .glo "is_listed", .glo "is_turn", .glo "is_pointing", .glo "want_pointing", .glo "leads_of", .glo "want_point", .glo "steps_from", .glo "way", .glo "reached", .glo "is_row", .glo "is_name", .glo "are_names", .glo "is_pair", .glo "_law_pot", .glo "_law_take", .glo "_law_names", .glo "_law_mixed", .glo "_law_tie", .glo "_law_web", .glo "_law_pointing", .glo "_law_handed", .glo "_law_rounds", .glo "_law_is_way", .glo "_law_right", .glo "law", .free "abs", .free "all", .free "bool", .free "divmod", .free "enumerate", .free "int", .free "isinstance", .free "len", .free "list", .free "max", .free "min", .free "range", .free "repr", .free "set", .free "str", .free "tuple", .free "zip", .str "SMALL" "abcdefghijklmnopqrstuvwxyz", .int "MOST_LETTERS" 4, .int "MOST_POINTS" 9, .int "MOST_TIES" 20, .glo "Web", .cls "Web", .mkr "Web", .noat "Web" "own_points", .noat "Web" "own_ties", .meth "Web" "__init__", .meth "Web" "points", .meth "Web" "ties", .meth "Web" "many"]
abbrev Top (K : PySem.W.Frag) (mg : Str → Option Value) : Prop := TopOf fa fn K mg
section
variable {K : PySem.W.Frag} {mg : Str → Option Value} (T : Top K mg)
include T
theorem g_is_whole : mg "is_whole" = some (.ref (He.ga K "is_whole")) := T.glo _ (T.says.fact 0 (f := .glo "is_whole") rfl)
theorem g_is_listed : mg "is_listed" = some (.ref (He.ga K "is_listed")) := T.glo _ (T.says.fact 1 (f := .glo "is_listed") rfl)
theorem g_is_turn : mg "is_turn" = some (.ref (He.ga K "is_turn")) := T.glo _ (T.says.fact 2 (f := .glo "is_turn") rfl)
theorem g_is_pointing : mg "is_pointing" = some (.ref (He.ga K "is_pointing")) := T.glo _ (T.says.fact 3 (f := .glo "is_pointing") rfl)
theorem g_want_pointing : mg "want_pointing" = some (.ref (He.ga K "want_pointing")) := T.glo _ (T.says.fact 4 (f := .glo "want_pointing") rfl)
theorem g_leads_of : mg "leads_of" = some (.ref (He.ga K "leads_of")) := T.glo _ (T.says.fact 5 (f := .glo "leads_of") rfl)
theorem g_want_point : mg "want_point" = some (.ref (He.ga K "want_point")) := T.glo _ (T.says.fact 6 (f := .glo "want_point") rfl)
theorem g_steps_from : mg "steps_from" = some (.ref (He.ga K "steps_from")) := T.glo _ (T.says.fact 7 (f := .glo "steps_from") rfl)
theorem g_way : mg "way" = some (.ref (He.ga K "way")) := T.glo _ (T.says.fact 8 (f := .glo "way") rfl)
theorem g_reached : mg "reached" = some (.ref (He.ga K "reached")) := T.glo _ (T.says.fact 9 (f := .glo "reached") rfl)
theorem g_is_row : mg "is_row" = some (.ref (He.ga K "is_row")) := T.glo _ (T.says.fact 10 (f := .glo "is_row") rfl)
theorem g_is_name : mg "is_name" = some (.ref (He.ga K "is_name")) := T.glo _ (T.says.fact 11 (f := .glo "is_name") rfl)
theorem g_are_names : mg "are_names" = some (.ref (He.ga K "are_names")) := T.glo _ (T.says.fact 12 (f := .glo "are_names") rfl)
theorem g_is_pair : mg "is_pair" = some (.ref (He.ga K "is_pair")) := T.glo _ (T.says.fact 13 (f := .glo "is_pair") rfl)
theorem g_law_pot : mg "_law_pot" = some (.ref (He.ga K "_law_pot")) := T.glo _ (T.says.fact 14 (f := .glo "_law_pot") rfl)
theorem g_law_take : mg "_law_take" = some (.ref (He.ga K "_law_take")) := T.glo _ (T.says.fact 15 (f := .glo "_law_take") rfl)
theorem g_law_names : mg "_law_names" = some (.ref (He.ga K "_law_names")) := T.glo _ (T.says.fact 16 (f := .glo "_law_names") rfl)
theorem g_law_mixed : mg "_law_mixed" = some (.ref (He.ga K "_law_mixed")) := T.glo _ (T.says.fact 17 (f := .glo "_law_mixed") rfl)
theorem g_law_tie : mg "_law_tie" = some (.ref (He.ga K "_law_tie")) := T.glo _ (T.says.fact 18 (f := .glo "_law_tie") rfl)
theorem g_law_web : mg "_law_web" = some (.ref (He.ga K "_law_web")) := T.glo _ (T.says.fact 19 (f := .glo "_law_web") rfl)
theorem g_law_pointing : mg "_law_pointing" = some (.ref (He.ga K "_law_pointing")) := T.glo _ (T.says.fact 20 (f := .glo "_law_pointing") rfl)
theorem g_law_handed : mg "_law_handed" = some (.ref (He.ga K "_law_handed")) := T.glo _ (T.says.fact 21 (f := .glo "_law_handed") rfl)
theorem g_law_rounds : mg "_law_rounds" = some (.ref (He.ga K "_law_rounds")) := T.glo _ (T.says.fact 22 (f := .glo "_law_rounds") rfl)
theorem g_law_is_way : mg "_law_is_way" = some (.ref (He.ga K "_law_is_way")) := T.glo _ (T.says.fact 23 (f := .glo "_law_is_way") rfl)
theorem g_law_right : mg "_law_right" = some (.ref (He.ga K "_law_right")) := T.glo _ (T.says.fact 24 (f := .glo "_law_right") rfl)
theorem g_law : mg "law" = some (.ref (He.ga K "law")) := T.glo _ (T.says.fact 25 (f := .glo "law") rfl)
theorem f_abs : mg "abs" = none := T.free _ (T.says.fact 26 (f := .free "abs") rfl)
theorem f_all : mg "all" = none := T.free _ (T.says.fact 27 (f := .free "all") rfl)
theorem f_bool : mg "bool" = none := T.free _ (T.says.fact 28 (f := .free "bool") rfl)
theorem f_divmod : mg "divmod" = none := T.free _ (T.says.fact 29 (f := .free "divmod") rfl)
theorem f_enumerate : mg "enumerate" = none := T.free _ (T.says.fact 30 (f := .free "enumerate") rfl)
theorem f_int : mg "int" = none := T.free _ (T.says.fact 31 (f := .free "int") rfl)
theorem f_isinstance : mg "isinstance" = none := T.free _ (T.says.fact 32 (f := .free "isinstance") rfl)
theorem f_len : mg "len" = none := T.free _ (T.says.fact 33 (f := .free "len") rfl)
theorem f_list : mg "list" = none := T.free _ (T.says.fact 34 (f := .free "list") rfl)
theorem f_max : mg "max" = none := T.free _ (T.says.fact 35 (f := .free "max") rfl)
theorem f_min : mg "min" = none := T.free _ (T.says.fact 36 (f := .free "min") rfl)
theorem f_range : mg "range" = none := T.free _ (T.says.fact 37 (f := .free "range") rfl)
theorem f_repr : mg "repr" = none := T.free _ (T.says.fact 38 (f := .free "repr") rfl)
theorem f_set : mg "set" = none := T.free _ (T.says.fact 39 (f := .free "set") rfl)
theorem f_str : mg "str" = none := T.free _ (T.says.fact 40 (f := .free "str") rfl)
theorem f_tuple : mg "tuple" = none := T.free _ (T.says.fact 41 (f := .free "tuple") rfl)
theorem f_zip : mg "zip" = none := T.free _ (T.says.fact 42 (f := .free "zip") rfl)
theorem c_SMALL : ∃ u, mg "SMALL" = some u ∧ RelV (.str "abcdefghijklmnopqrstuvwxyz") u := by
  obtain ⟨t, e⟩ := T.str _ _ (T.says.fact 43 (f := .str "SMALL" "abcdefghijklmnopqrstuvwxyz") rfl)
  exact ⟨_, e, t, rfl⟩
theorem c_MOST_LETTERS : ∃ u, mg "MOST_LETTERS" = some u ∧ RelV (.int 4) u := by
  obtain ⟨t, e⟩ := T.int _ _ (T.says.fact 44 (f := .int "MOST_LETTERS" 4) rfl)
  exact ⟨_, e, t, rfl⟩
theorem c_MOST_POINTS : ∃ u, mg "MOST_POINTS" = some u ∧ RelV (.int 9) u := by
  obtain ⟨t, e⟩ := T.int _ _ (T.says.fact 45 (f := .int "MOST_POINTS" 9) rfl)
  exact ⟨_, e, t, rfl⟩
theorem c_MOST_TIES : ∃ u, mg "MOST_TIES" = some u ∧ RelV (.int 20) u := by
  obtain ⟨t, e⟩ := T.int _ _ (T.says.fact 46 (f := .int "MOST_TIES" 20) rfl)
  exact ⟨_, e, t, rfl⟩
theorem g_Web : mg "Web" = some (.ref (He.ga K "Web")) := T.glo _ (T.says.fact 47 (f := .glo "Web") rfl)
theorem cl_Web : Cls K (He.ga K "Web") := He.cls_ok (T.says.fact 48 (f := .cls "Web") rfl)
theorem mk_Web : Mk K (He.ga K "Web") (He.fAd K ("Web", some "__init__")) := He.mkr_ok (T.says.fact 49 (f := .mkr "Web") rfl)
theorem na_Web_own_points : NoAttr K (He.ga K "Web") "own_points" := He.noat_ok (T.says.fact 50 (f := .noat "Web" "own_points") rfl)
theorem na_Web_own_ties : NoAttr K (He.ga K "Web") "own_ties" := He.noat_ok (T.says.fact 51 (f := .noat "Web" "own_ties") rfl)
theorem me_Web_init : Meth K (He.ga K "Web") "__init__" (He.fAd K ("Web", some "__init__")) := He.meth_ok (T.says.fact 52 (f := .meth "Web" "__init__") rfl)
theorem me_Web_points : Meth K (He.ga K "Web") "points" (He.fAd K ("Web", some "points")) := He.meth_ok (T.says.fact 53 (f := .meth "Web" "points") rfl)
theorem me_Web_ties : Meth K (He.ga K "Web") "ties" (He.fAd K ("Web", some "ties")) := He.meth_ok (T.says.fact 54 (f := .meth "Web" "ties") rfl)
theorem me_Web_many : Meth K (He.ga K "Web") "many" (He.fAd K ("Web", some "many")) := He.meth_ok (T.says.fact 55 (f := .meth "Web" "many") rfl)
end
theorem fd_is_whole {K : PySem.W.Frag} {mg : Str → Option Value} (T : Top K mg) : ∃ fd, FunD K "is_whole" "is_whole" (defArgs s_is_whole) (defBody s_is_whole) (defScope s_is_whole) [] [] (He.fAd K ("is_whole", none)) fd := T.says.def_ 0 (d := d_is_whole) rfl
theorem bi_is_whole : BindOf "is_whole" "is_whole" (defArgs s_is_whole) (defBody s_is_whole) (defScope s_is_whole) ["thing"] :=
  fun _ _ _ _ _ _ us hl => match us, hl with | [_], _ => rfl
theorem fd_is_listed {K : PySem.W.Frag} {mg : Str → Option Value} (T : Top K mg) : ∃ fd, FunD K "is_listed" "is_listed" (defArgs s_is_listed) (defBody s_is_listed) (defScope s_is_listed) [] [] (He.fAd K ("is_listed", none)) fd := T.says.def_ 1 (d := d_is_listed) rfl
theorem bi_is_listed : BindOf "is_listed" "is_listed" (defArgs s_is_listed) (defBody s_is_listed) (defScope s_is_listed) ["thing"] :=
  fun _ _ _ _ _ _ us hl => match us, hl with | [_], _ => rfl
theorem fd_is_turn {K : PySem.W.Frag} {mg : Str → Option Value} (T : Top K mg) : ∃ fd, FunD K "is_turn" "is_turn" (defArgs s_is_turn) (defBody s_is_turn) (defScope s_is_turn) [] [] (He.fAd K ("is_turn", none)) fd := T.says.def_ 2 (d := d_is_turn) rfl
theorem bi_is_turn : BindOf "is_turn" "is_turn" (defArgs s_is_turn) (defBody s_is_turn) (defScope s_is_turn) ["thing"] :=
  fun _ _ _ _ _ _ us hl => match us, hl with | [_], _ => rfl
theorem fd_is_pointing {K : PySem.W.Frag} {mg : Str → Option Value} (T : Top K mg) : ∃ fd, FunD K "is_pointing" "is_pointing" (defArgs s_is_pointing) (defBody s_is_pointing) (defScope s_is_pointing) [] [] (He.fAd K ("is_pointing", none)) fd := T.says.def_ 3 (d := d_is_pointing) rfl
theorem bi_is_pointing : BindOf "is_pointing" "is_pointing" (defArgs s_is_pointing) (defBody s_is_pointing) (defScope s_is_pointing) ["web", "thing"] :=
  fun _ _ _ _ _ _ us hl => match us, hl with | [_, _], _ => rfl
theorem fd_want_pointing {K : PySem.W.Frag} {mg : Str → Option Value} (T : Top K mg) : ∃ fd, FunD K "want_pointing" "want_pointing" (defArgs s_want_pointing) (defBody s_want_pointing) (defScope s_want_pointing) [] [] (He.fAd K ("want_pointing", none)) fd := T.says.def_ 4 (d := d_want_pointing) rfl
theorem bi_want_pointing : BindOf "want_pointing" "want_pointing" (defArgs s_want_pointing) (defBody s_want_pointing) (defScope s_want_pointing) ["web", "thing"] :=
  fun _ _ _ _ _ _ us hl => match us, hl with | [_, _], _ => rfl
theorem fd_leads_of {K : PySem.W.Frag} {mg : Str → Option Value} (T : Top K mg) : ∃ fd, FunD K "leads_of" "leads_of" (defArgs s_leads_of) (defBody s_leads_of) (defScope s_leads_of) [] [] (He.fAd K ("leads_of", none)) fd := T.says.def_ 5 (d := d_leads_of) rfl
theorem bi_leads_of : BindOf "leads_of" "leads_of" (defArgs s_leads_of) (defBody s_leads_of) (defScope s_leads_of) ["web", "pointing"] :=
  fun _ _ _ _ _ _ us hl => match us, hl with | [_, _], _ => rfl
theorem fd_want_point {K : PySem.W.Frag} {mg : Str → Option Value} (T : Top K mg) : ∃ fd, FunD K "want_point" "want_point" (defArgs s_want_point) (defBody s_want_point) (defScope s_want_point) [] [] (He.fAd K ("want_point", none)) fd := T.says.def_ 6 (d := d_want_point) rfl
theorem bi_want_point : BindOf "want_point" "want_point" (defArgs s_want_point) (defBody s_want_point) (defScope s_want_point) ["web", "thing"] :=
  fun _ _ _ _ _ _ us hl => match us, hl with | [_, _], _ => rfl
theorem fd_steps_from {K : PySem.W.Frag} {mg : Str → Option Value} (T : Top K mg) : ∃ fd, FunD K "steps_from" "steps_from" (defArgs s_steps_from) (defBody s_steps_from) (defScope s_steps_from) [] [] (He.fAd K ("steps_from", none)) fd := T.says.def_ 7 (d := d_steps_from) rfl
theorem bi_steps_from : BindOf "steps_from" "steps_from" (defArgs s_steps_from) (defBody s_steps_from) (defScope s_steps_from) ["leads", "begin"] :=
  fun _ _ _ _ _ _ us hl => match us, hl with | [_, _], _ => rfl
theorem fd_way {K : PySem.W.Frag} {mg : Str → Option Value} (T : Top K mg) : ∃ fd, FunD K "way" "way" (defArgs s_way) (defBody s_way) (defScope s_way) [] [] (He.fAd K ("way", none)) fd := T.says.def_ 8 (d := d_way) rfl
theorem bi_way : BindOf "way" "way" (defArgs s_way) (defBody s_way) (defScope s_way) ["web", "pointing", "a", "b"] :=
  fun _ _ _ _ _ _ us hl => match us, hl with | [_, _, _, _], _ => rfl
theorem fd_reached {K : PySem.W.Frag} {mg : Str → Option Value} (T : Top K mg) : ∃ fd, FunD K "reached" "reached" (defArgs s_reached) (defBody s_reached) (defScope s_reached) [] [] (He.fAd K ("reached", none)) fd := T.says.def_ 9 (d := d_reached) rfl
theorem bi_reached : BindOf "reached" "reached" (defArgs s_reached) (defBody s_reached) (defScope s_reached) ["web", "pointing", "point"] :=
  fun _ _ _ _ _ _ us hl => match us, hl with | [_, _, _], _ => rfl
theorem fd_is_row {K : PySem.W.Frag} {mg : Str → Option Value} (T : Top K mg) : ∃ fd, FunD K "is_row" "is_row" (defArgs s_is_row) (defBody s_is_row) (defScope s_is_row) [] [] (He.fAd K ("is_row", none)) fd := T.says.def_ 10 (d := d_is_row) rfl
theorem bi_is_row : BindOf "is_row" "is_row" (defArgs s_is_row) (defBody s_is_row) (defScope s_is_row) ["thing"] :=
  fun _ _ _ _ _ _ us hl => match us, hl with | [_], _ => rfl
theorem fd_is_name {K : PySem.W.Frag} {mg : Str → Option Value} (T : Top K mg) : ∃ fd, FunD K "is_name" "is_name" (defArgs s_is_name) (defBody s_is_name) (defScope s_is_name) [] [] (He.fAd K ("is_name", none)) fd := T.says.def_ 11 (d := d_is_name) rfl
theorem bi_is_name : BindOf "is_name" "is_name" (defArgs s_is_name) (defBody s_is_name) (defScope s_is_name) ["thing"] :=
  fun _ _ _ _ _ _ us hl => match us, hl with | [_], _ => rfl
theorem fd_are_names {K : PySem.W.Frag} {mg : Str → Option Value} (T : Top K mg) : ∃ fd, FunD K "are_names" "are_names" (defArgs s_are_names) (defBody s_are_names) (defScope s_are_names) [] [] (He.fAd K ("are_names", none)) fd := T.says.def_ 12 (d := d_are_names) rfl
theorem bi_are_names : BindOf "are_names" "are_names" (defArgs s_are_names) (defBody s_are_names) (defScope s_are_names) ["thing"] :=
  fun _ _ _ _ _ _ us hl => match us, hl with | [_], _ => rfl
theorem fd_is_pair {K : PySem.W.Frag} {mg : Str → Option Value} (T : Top K mg) : ∃ fd, FunD K "is_pair" "is_pair" (defArgs s_is_pair) (defBody s_is_pair) (defScope s_is_pair) [] [] (He.fAd K ("is_pair", none)) fd := T.says.def_ 13 (d := d_is_pair) rfl
theorem bi_is_pair : BindOf "is_pair" "is_pair" (defArgs s_is_pair) (defBody s_is_pair) (defScope s_is_pair) ["points", "thing"] :=
  fun _ _ _ _ _ _ us hl => match us, hl with | [_, _], _ => rfl
theorem fd_Web_init {K : PySem.W.Frag} {mg : Str → Option Value} (T : Top K mg) : ∃ fd, FunD K "__init__" "Web.__init__" (defArgs s_Web_init) (defBody s_Web_init) (defScope s_Web_init) [] [] (He.fAd K ("Web", some "__init__")) fd := T.says.def_ 14 (d := d_Web_init) rfl
theorem bi_Web_init : BindOf "__init__" "Web.__init__" (defArgs s_Web_init) (defBody s_Web_init) (defScope s_Web_init) ["self", "points", "ties"] :=
  fun _ _ _ _ _ _ us hl => match us, hl with | [_, _, _], _ => rfl
theorem fd_Web_points {K : PySem.W.Frag} {mg : Str → Option Value} (T : Top K mg) : ∃ fd, FunD K "points" "Web.points" (defArgs s_Web_points) (defBody s_Web_points) (defScope s_Web_points) [] [] (He.fAd K ("Web", some "points")) fd := T.says.def_ 15 (d := d_Web_points) rfl
theorem bi_Web_points : BindOf "points" "Web.points" (defArgs s_Web_points) (defBody s_Web_points) (defScope s_Web_points) ["self"] :=
  fun _ _ _ _ _ _ us hl => match us, hl with | [_], _ => rfl
theorem fd_Web_ties {K : PySem.W.Frag} {mg : Str → Option Value} (T : Top K mg) : ∃ fd, FunD K "ties" "Web.ties" (defArgs s_Web_ties) (defBody s_Web_ties) (defScope s_Web_ties) [] [] (He.fAd K ("Web", some "ties")) fd := T.says.def_ 16 (d := d_Web_ties) rfl
theorem bi_Web_ties : BindOf "ties" "Web.ties" (defArgs s_Web_ties) (defBody s_Web_ties) (defScope s_Web_ties) ["self"] :=
  fun _ _ _ _ _ _ us hl => match us, hl with | [_], _ => rfl
theorem fd_Web_many {K : PySem.W.Frag} {mg : Str → Option Value} (T : Top K mg) : ∃ fd, FunD K "many" "Web.many" (defArgs s_Web_many) (defBody s_Web_many) (defScope s_Web_many) [] [] (He.fAd K ("Web", some "many")) fd := T.says.def_ 17 (d := d_Web_many) rfl
theorem bi_Web_many : BindOf "many" "Web.many" (defArgs s_Web_many) (defBody s_Web_many) (defScope s_Web_many) ["self"] :=
  fun _ _ _ _ _ _ us hl => match us, hl with | [_], _ => rfl
theorem fd_law_pot {K : PySem.W.Frag} {mg : Str → Option Value} (T : Top K mg) : ∃ fd, FunD K "_law_pot" "_law_pot" (defArgs s_law_pot) (defBody s_law_pot) (defScope s_law_pot) [] [] (He.fAd K ("_law_pot", none)) fd := T.says.def_ 18 (d := d_law_pot) rfl
theorem bi_law_pot : BindOf "_law_pot" "_law_pot" (defArgs s_law_pot) (defBody s_law_pot) (defScope s_law_pot) ["_law_script", "_law_k"] :=
  fun _ _ _ _ _ _ us hl => match us, hl with | [_, _], _ => rfl
theorem fd_law_take {K : PySem.W.Frag} {mg : Str → Option Value} (T : Top K mg) : ∃ fd, FunD K "_law_take" "_law_take" (defArgs s_law_take) (defBody s_law_take) (defScope s_law_take) [] [] (He.fAd K ("_law_take", none)) fd := T.says.def_ 19 (d := d_law_take) rfl
theorem bi_law_take : BindOf "_law_take" "_law_take" (defArgs s_law_take) (defBody s_law_take) (defScope s_law_take) ["_law_pot_here", "_law_many"] :=
  fun _ _ _ _ _ _ us hl => match us, hl with | [_, _], _ => rfl
theorem fd_law_names {K : PySem.W.Frag} {mg : Str → Option Value} (T : Top K mg) : ∃ fd, FunD K "_law_names" "_law_names" (defArgs s_law_names) (defBody s_law_names) (defScope s_law_names) [] [] (He.fAd K ("_law_names", none)) fd := T.says.def_ 20 (d := d_law_names) rfl
theorem bi_law_names : BindOf "_law_names" "_law_names" (defArgs s_law_names) (defBody s_law_names) (defScope s_law_names) ["_law_pot_here", "_law_many"] :=
  fun _ _ _ _ _ _ us hl => match us, hl with | [_, _], _ => rfl
theorem fd_law_mixed {K : PySem.W.Frag} {mg : Str → Option Value} (T : Top K mg) : ∃ fd, FunD K "_law_mixed" "_law_mixed" (defArgs s_law_mixed) (defBody s_law_mixed) (defScope s_law_mixed) [] [] (He.fAd K ("_law_mixed", none)) fd := T.says.def_ 21 (d := d_law_mixed) rfl
theorem bi_law_mixed : BindOf "_law_mixed" "_law_mixed" (defArgs s_law_mixed) (defBody s_law_mixed) (defScope s_law_mixed) ["_law_pot_here", "_law_things"] :=
  fun _ _ _ _ _ _ us hl => match us, hl with | [_, _], _ => rfl
theorem fd_law_tie {K : PySem.W.Frag} {mg : Str → Option Value} (T : Top K mg) : ∃ fd, FunD K "_law_tie" "_law_tie" (defArgs s_law_tie) (defBody s_law_tie) (defScope s_law_tie) [] [] (He.fAd K ("_law_tie", none)) fd := T.says.def_ 22 (d := d_law_tie) rfl
theorem bi_law_tie : BindOf "_law_tie" "_law_tie" (defArgs s_law_tie) (defBody s_law_tie) (defScope s_law_tie) ["_law_pot_here", "_law_names_here"] :=
  fun _ _ _ _ _ _ us hl => match us, hl with | [_, _], _ => rfl
theorem fd_law_web {K : PySem.W.Frag} {mg : Str → Option Value} (T : Top K mg) : ∃ fd, FunD K "_law_web" "_law_web" (defArgs s_law_web) (defBody s_law_web) (defScope s_law_web) [] [] (He.fAd K ("_law_web", none)) fd := T.says.def_ 23 (d := d_law_web) rfl
theorem bi_law_web : BindOf "_law_web" "_law_web" (defArgs s_law_web) (defBody s_law_web) (defScope s_law_web) ["_law_pot_here", "_law_points", "_law_most"] :=
  fun _ _ _ _ _ _ us hl => match us, hl with | [_, _, _], _ => rfl
theorem fd_law_pointing {K : PySem.W.Frag} {mg : Str → Option Value} (T : Top K mg) : ∃ fd, FunD K "_law_pointing" "_law_pointing" (defArgs s_law_pointing) (defBody s_law_pointing) (defScope s_law_pointing) [] [] (He.fAd K ("_law_pointing", none)) fd := T.says.def_ 24 (d := d_law_pointing) rfl
theorem bi_law_pointing : BindOf "_law_pointing" "_law_pointing" (defArgs s_law_pointing) (defBody s_law_pointing) (defScope s_law_pointing) ["_law_pot_here", "_law_web_here"] :=
  fun _ _ _ _ _ _ us hl => match us, hl with | [_, _], _ => rfl
theorem fd_law_handed {K : PySem.W.Frag} {mg : Str → Option Value} (T : Top K mg) : ∃ fd, FunD K "_law_handed" "_law_handed" (defArgs s_law_handed) (defBody s_law_handed) (defScope s_law_handed) [] [] (He.fAd K ("_law_handed", none)) fd := T.says.def_ 25 (d := d_law_handed) rfl
theorem bi_law_handed : BindOf "_law_handed" "_law_handed" (defArgs s_law_handed) (defBody s_law_handed) (defScope s_law_handed) ["_law_pot_here", "_law_row"] :=
  fun _ _ _ _ _ _ us hl => match us, hl with | [_, _], _ => rfl
theorem fd_law_rounds {K : PySem.W.Frag} {mg : Str → Option Value} (T : Top K mg) : ∃ fd, FunD K "_law_rounds" "_law_rounds" (defArgs s_law_rounds) (defBody s_law_rounds) (defScope s_law_rounds) [] [] (He.fAd K ("_law_rounds", none)) fd := T.says.def_ 26 (d := d_law_rounds) rfl
theorem bi_law_rounds : BindOf "_law_rounds" "_law_rounds" (defArgs s_law_rounds) (defBody s_law_rounds) (defScope s_law_rounds) ["_law_web_here", "_law_row", "_law_start"] :=
  fun _ _ _ _ _ _ us hl => match us, hl with | [_, _, _], _ => rfl
theorem fd_law_is_way {K : PySem.W.Frag} {mg : Str → Option Value} (T : Top K mg) : ∃ fd, FunD K "_law_is_way" "_law_is_way" (defArgs s_law_is_way) (defBody s_law_is_way) (defScope s_law_is_way) [] [] (He.fAd K ("_law_is_way", none)) fd := T.says.def_ 27 (d := d_law_is_way) rfl
theorem bi_law_is_way : BindOf "_law_is_way" "_law_is_way" (defArgs s_law_is_way) (defBody s_law_is_way) (defScope s_law_is_way) ["_law_web_here", "_law_row", "_law_numbers", "_law_start", "_law_goal"] :=
  fun _ _ _ _ _ _ us hl => match us, hl with | [_, _, _, _, _], _ => rfl
theorem fd_law_right {K : PySem.W.Frag} {mg : Str → Option Value} (T : Top K mg) : ∃ fd, FunD K "_law_right" "_law_right" (defArgs s_law_right) (defBody s_law_right) (defScope s_law_right) [] [] (He.fAd K ("_law_right", none)) fd := T.says.def_ 28 (d := d_law_right) rfl
theorem bi_law_right : BindOf "_law_right" "_law_right" (defArgs s_law_right) (defBody s_law_right) (defScope s_law_right) ["_law_made", "_law_web_here", "_law_row", "_law_given", "_law_a", "_law_b", "_law_rounds_here"] :=
  fun _ _ _ _ _ _ us hl => match us, hl with | [_, _, _, _, _, _, _], _ => rfl
theorem fd_law {K : PySem.W.Frag} {mg : Str → Option Value} (T : Top K mg) : ∃ fd, FunD K "law" "law" (defArgs s_law) (defBody s_law) (defScope s_law) [] [] (He.fAd K ("law", none)) fd := T.says.def_ 29 (d := d_law) rfl
theorem bi_law : BindOf "law" "law" (defArgs s_law) (defBody s_law) (defScope s_law) ["_law_script"] :=
  fun _ _ _ _ _ _ us hl => match us, hl with | [_], _ => rfl
end PW

namespace PW
open PySem PySem.Spec PyProof.Rows L2
/-! ### heaps: what is kept -/
/-- all but p is as it was -/
def Kp (p : Addr) (H H' : Hp) : Prop := ∀ b o, b ≠ p → H b = some o → H' b = some o
theorem Kp.refl (p : Addr) (H : Hp) : Kp p H H := fun _ _ _ h => h
theorem Kp.trans {p : Addr} {H H1 H2 : Hp} (a : Kp p H H1) (b : Kp p H1 H2) : Kp p H H2 := fun c o n h => b c o n (a c o n h)
theorem Kp.same {p : Addr} {H H' : Hp} (e : Same H H') : Kp p H H' := fun b o _ h => e b o h
theorem Kp.free {p : Addr} {H H' : Hp} (e : Kp p H H') {l : Addr} (hl : l ≠ p) (h : H' l = none) : H l = none := by
  cases q : H l with
  | none => rfl
  | some o =>
    rw [e l o hl q] at h
    cases h
theorem Kp.write (p : Addr) (H : Hp) (o : HO) : Kp p H (upd H p o) := fun b u n h => by
  rw [upd_ne n]
  exact h
theorem same_new {H : Hp} {p : Addr} {o : HO} (h : H p = none) : Same H (upd H p o) := fun b x e => by
  rw [upd_ne (ne_of_none e h)]
  exact e
theorem Kp.new {p q : Addr} {H H1 : Hp} {o : HO} (e : Kp p H H1) (h : H1 q = none) : Kp p H (upd H1 q o) := e.trans (Kp.same (same_new h))
/-- writing into what is new since H -/
theorem _root_.L2.Same.into {H H1 : Hp} {q : Addr} {o : HO} (e : Same H H1) (h : H q = none) : Same H (upd H1 q o) := fun b x z => by
  rw [upd_ne (ne_of_none z h)]
  exact e b x z
theorem _root_.L2.Same.next {H H1 : Hp} {q : Addr} {o : HO} (e : Same H H1) (h : H1 q = none) : Same H (upd H1 q o) := e.into (e.free h)
theorem Kp.into {p q : Addr} {H H1 : Hp} {o : HO} (e : Kp p H H1) (h : H q = none) : Kp p H (upd H1 q o) := fun b x n z => by
  rw [upd_ne (ne_of_none z h)]
  exact e b x n z
/-! ### the pot of draws -/
def Pot (H : Hp) (p : Addr) : Prop := ∃ x y : Int, 0 ≤ x ∧ 0 ≤ y ∧ H p = some (.lst [.int x, .int y])
theorem Pot.same {H H' : Hp} {p : Addr} (h : Pot H p) (e : Same H H') : Pot H' p := by
  obtain ⟨x, y, hx, hy, z⟩ := h
  exact ⟨x, y, hx, hy, e _ _ z⟩
theorem Pot.ne {H : Hp} {p q : Addr} (h : Pot H p) (e : H q = none) : q ≠ p := by
  obtain ⟨x, y, hx, hy, z⟩ := h
  exact (ne_of_none z e).symm
theorem Pot.into {H : Hp} {p q : Addr} {o : HO} (h : Pot H p) (n : q ≠ p) : Pot (upd H q o) p := by
  obtain ⟨x, y, hx, hy, z⟩ := h
  exact ⟨x, y, hx, hy, by rw [upd_ne n.symm]; exact z⟩
end PW

namespace PW
open PySem PySem.Spec PyProof.Rows L2
def spPot (K : PySem.W.Frag) : Sp := fun vs H Q _ => ∃ (a : Addr) (k : Int) (ns : List Int), vs = [.ref a, .int k] ∧ SqL K H a (ns.map V.int) ∧ ns.length ≤ 1000 ∧ 0 ≤ k ∧ k < 1000 ∧
  ∀ p H', H p = none → Same H H' → Pot H' p → Q (.ref p) H'
def spTake : Sp := fun vs H Q _ => ∃ (p : Addr) (n : Int), vs = [.ref p, .int n] ∧ Pot H p ∧ 0 < n ∧ n < 1073741824 ∧
  ∀ d H', 0 ≤ d → d < n → Kp p H H' → Pot H' p → Q (.int d) H'
theorem fmod_pos {a b : Int} (h : 0 < b) : a.fmod b = a % b := Int.fmod_eq_emod_of_nonneg a (by omega)
theorem fdiv_pos {a b : Int} (h : 0 < b) : a.fdiv b = a / b := Int.fdiv_eq_ediv_of_nonneg a (by omega)
theorem ok_law_pot {P : Program} {w : World} {K : PySem.W.Frag} {mg : Str → Option Value} {base : Heap} (T : Top K mg) :
    C8.Cal P w K mg base 1 "_law_pot" (spPot K) [] := by
  refine cal_of (fd_law_pot T) (g_law_pot T) sc_law_pot bi_law_pot (fun vs H Q E h => ?_) (fun cdv A outer s H vs Q E hr h => ?_)
  · obtain ⟨a, k, ns, rfl, _⟩ := h
    rfl
  · obtain ⟨a, k, ns, rfl, hS, hlen, hk0, hk1, q⟩ := h
    refine ⟨_, (C8.pss_cut (ps_set (i := 2) sc_law_pot.nd rfl (by first | exact Or.inl rfl | exact Or.inr rfl) (pe_ifExp (pt_cmpR op_lt (pv 1) (pe_callB (lenK (K := K)) (by rfl) (f_len T) PySem.boot_len (pa_cons (pv 0) pa_nil)) (nomark _)) (pe_ix (ixL (K := K)) (pv 0) (pv 1) (fun _ _ => rfl)) pe_int))
      (pss_one (ps_ret (pe_lst (pa_cons (pe_callB (call_max2 rfl) (by rfl) (f_max T) (by decide +kernel) (pa_cons pe_int (pa_cons (pe_op op_sub (pe_callB call_abs (by rfl) (f_abs T) (by decide +kernel) (pa_cons (pv 2) pa_nil)) (pe_op op_pow pe_int pe_int)) pa_nil))) (pa_cons (pe_op op_add (pe_op op_add (pe_op op_modN (pe_callB call_abs (by rfl) (f_abs T) (by decide +kernel) (pa_cons (pv 2) pa_nil)) pe_int) (pe_op op_mul pe_int (pv 1))) pe_int) pa_nil)))))), ?_⟩
    refine ⟨fun σ' H' => ∃ c : Int, σ' = [some (.ref a), some (.int k), some (.int c)] ∧ H' = H, ?_, ?_⟩
    · refine ⟨.int k, rfl, .ref a, rfl, a, ns.map V.int, rfl, .inl hS, k, _, rfl, rfl, _, rfl, ite2 (fun e => ?_) (fun e => ?_)⟩
      · have hk : k < ((ns.map V.int).length : Int) := of_decide_eq_true e
        rw [List.length_map] at hk
        have hi : k.toNat < ns.length := by omega
        refine ⟨.ref a, rfl, .int k, rfl, a, ns.map V.int, k, .int ns[k.toNat], rfl, rfl, hS, ?_, ns[k.toNat], rfl, rfl⟩
        have e1 : k = ((k.toNat : Nat) : Int) := by omega
        exact at_of (j := k.toNat) e1 (by rw [List.getElem?_map, List.getElem?_eq_getElem hi]; rfl)
      · exact ⟨0, rfl, rfl⟩
    · rintro σ' H' ⟨c, rfl, rfl⟩
      refine ⟨.int c, rfl, c, rfl, 10, 18, rfl, rfl, ⟨by decide, by decide, by decide⟩, _, _, rfl, rfl, _, _, rfl, .int c, rfl, c, rfl, _, _, rfl, rfl, (by show (2147483629 : Int) ≠ 0; decide), .int k, rfl, _, _, rfl, rfl, .inl ⟨by decide, by decide⟩, _, _, rfl, rfl, _, _, rfl, rfl, (by show 2 ≤ sizeLine; decide), fun p hp => ?_⟩
      refine q p _ hp (same_new hp) ⟨_, _, ?_, ?_, upd_same⟩
      · split <;> omega
      · rw [fmod_pos (by decide)]
        have h1 : 0 ≤ (if c < 0 then -c else c) % 2147483629 := Int.emod_nonneg _ (by decide)
        omega
theorem ok_law_take {P : Program} {w : World} {K : PySem.W.Frag} {mg : Str → Option Value} {base : Heap} (T : Top K mg) :
    C8.Cal P w K mg base 1 "_law_take" spTake [] := by
  refine cal_of (fd_law_take T) (g_law_take T) sc_law_take bi_law_take (fun vs H Q E h => ?_) (fun cdv A outer s H vs Q E hr h => ?_)
  · obtain ⟨p, n, rfl, _⟩ := h
    rfl
  · obtain ⟨p, n, rfl, hp, hn0, hn1, q⟩ := h
    refine ⟨_, (pss_cons (ps_if (pt_cmpR op_gt (pe_ix (ixL (K := K)) (pv 0) pe_int (fun _ _ => rfl)) pe_int (nomark _)) (pss_cons (ps_asg (pe_callB call_divmod (by rfl) (f_divmod T) (by decide +kernel) (pa_cons (pe_ix (ixL (K := K)) (pv 0) pe_int (fun _ _ => rfl)) (pa_cons (pv 1) pa_nil))) (pg_tup (n := 2) rfl (pgs_cons (pg_sub (pv 0) pe_int set_list) (pgs_cons (pg_name (i := 2) sc_law_take.nd rfl (by first | exact Or.inl rfl | exact Or.inr rfl)) pgs_nil))))
      (pss_one (ps_ret (pv 2)))) pss_nil)
      (pss_cons (ps_asg (pe_op op_modN (pe_op op_add (pe_op op_mul (pe_ix (ixL (K := K)) (pv 0) pe_int (fun _ _ => rfl)) pe_int) pe_int) pe_int) (pg_sub (pv 0) pe_int set_list))
      (pss_one (ps_ret (pe_op op_modN (pe_op op_fdivN (pe_op op_modN (pe_op op_mul (pe_ix (ixL (K := K)) (pv 0) pe_int (fun _ _ => rfl)) (pe_ix (ixL (K := K)) (pv 0) pe_int (fun _ _ => rfl))) pe_int) pe_int) (pv 1)))))), ?_⟩
    obtain ⟨x, y, hx, hy, hp⟩ := hp
    refine ⟨.ref p, rfl, p, _, 0, .int x, rfl, rfl, SqL.of hp, rfl, x, 0, rfl, rfl, _, rfl, ite2 (fun e => ?_) (fun e => ?_)⟩
    · refine ⟨.ref p, rfl, p, _, 0, .int x, rfl, rfl, SqL.of hp, rfl, .int n, rfl, x, n, rfl, ⟨hn0, hn1⟩, fun t nt => ?_⟩
      have npt : p ≠ t := ne_of_none hp nt
      have hp1 : upd H t (.tup [.int (x / n), .int (x % n)]) p = some (.lst [.int x, .int y]) := by
        rw [upd_ne npt]
        exact hp
      refine ⟨t, _, rfl, SqT.of upd_same, rfl, _, _, rfl, .ref p, rfl, p, _, 0, 0, rfl, rfl, hp1, rfl, _, _, rfl, rfl, .int (x % n), rfl, ?_⟩
      refine q _ _ (Int.emod_nonneg _ (by omega)) (Int.emod_lt_of_pos _ hn0) ((Kp.same (same_new nt)).trans (Kp.write _ _ _)) ⟨x / n, y, Int.ediv_nonneg hx (by omega), hy, upd_same⟩
    · refine ⟨.ref p, rfl, p, _, 1, .int y, rfl, rfl, SqL.of hp, rfl, y, 48271, rfl, rfl, .inr ⟨by decide, by decide⟩, _, _, rfl, rfl, _, _, rfl, rfl, (by show (2147483647 : Int) ≠ 0; decide), .ref p, rfl, p, _, 1, 1, rfl, rfl, hp, rfl, ?_⟩
      have hz : (y * 48271 + 12345).fmod 2147483647 = (y * 48271 + 12345) % 2147483647 := fmod_pos (by decide)
      have z0 : 0 ≤ (y * 48271 + 12345) % 2147483647 := Int.emod_nonneg _ (by decide)
      have z1 : (y * 48271 + 12345) % 2147483647 < 2147483647 := Int.emod_lt_of_pos _ (by decide)
      simp only [hz]
      generalize (y * 48271 + 12345) % 2147483647 = z at z0 z1
      refine ⟨.ref p, rfl, p, _, 1, .int z, rfl, rfl, SqL.of upd_same, rfl, .ref p, rfl, p, _, 1, .int z, rfl, rfl, SqL.of upd_same, rfl, z, z, rfl, rfl, .inl ⟨by omega, by omega⟩, _, _, rfl, rfl, (by show (2147483629 : Int) ≠ 0; decide), _, _, rfl, rfl, ⟨by decide, by decide⟩, .int n, rfl, _, _, rfl, rfl, (by omega), ?_⟩
      refine q _ _ ?_ ?_ (Kp.write _ _ _) ⟨x, z, hx, z0, upd_same⟩
      · rw [fmod_pos hn0]
        exact Int.emod_nonneg _ (by omega)
      · rw [fmod_pos hn0]
        exact Int.emod_lt_of_pos _ hn0
end PW

namespace PW
open PySem PySem.Spec PyProof.Rows L2
/-! ### names -/
def Code (c : Nat) : Prop := 97 ≤ c ∧ c ≤ 122
def IsName (x : Str) : Prop := ∃ l : List Nat, x = SX.S l ∧ 1 ≤ l.length ∧ l.length ≤ 4 ∧ ∀ c ∈ l, Code c
structure NamesOk (ns : List Str) : Prop where
  nd : ns.Nodup
  ok : ∀ x ∈ ns, IsName x
def Heads (b : Int) (ws : List Str) : Prop := ∀ (j : Nat) (x : Str), ws[j]? = some x → ∃ l : List Nat, x = SX.S ((97 + ((b + 5 * (j : Int)) % 26).toNat) :: l) ∧ l.length ≤ 3 ∧ ∀ c ∈ l, Code c
theorem Heads.nil (b : Int) : Heads b [] := fun j x h => by simp at h
theorem Heads.snoc {b : Int} {ws : List Str} (h : Heads b ws) {l : List Nat} (hl : l.length ≤ 3) (hc : ∀ c ∈ l, Code c) : Heads b (ws ++ [SX.S ((97 + ((b + 5 * (ws.length : Int)) % 26).toNat) :: l)]) := fun j x e => by
  by_cases hj : j < ws.length
  · rw [List.getElem?_append_left hj] at e
    exact h j x e
  · rw [List.getElem?_append_right (by omega)] at e
    by_cases hz : j - ws.length = 0
    · have ej : j = ws.length := by omega
      rw [hz] at e
      have ex : SX.S ((97 + ((b + 5 * (ws.length : Int)) % 26).toNat) :: l) = x := Option.some.inj e
      subst ej
      exact ⟨l, ex.symm, hl, hc⟩
    · obtain ⟨k, hk⟩ : ∃ k, j - ws.length = k + 1 := ⟨j - ws.length - 1, by omega⟩
      rw [hk] at e
      simp at e
theorem Heads.ok {b : Int} {ws : List Str} (h : Heads b ws) (hl : ws.length ≤ 9) : NamesOk ws where
  nd := by
    unfold List.Nodup
    rw [List.pairwise_iff_getElem]
    intro i j hi hj hij e
    obtain ⟨l1, e1, _, _⟩ := h i _ (List.getElem?_eq_getElem hi)
    obtain ⟨l2, e2, _, _⟩ := h j _ (List.getElem?_eq_getElem hj)
    rw [e1, e2] at e
    have e3 := (List.cons.inj (SX.S_inj e)).1
    omega
  ok := fun x hx => by
    obtain ⟨j, hj, e⟩ := List.getElem_of_mem hx
    obtain ⟨l, e1, h1, h2⟩ := h j x (by rw [← e]; exact List.getElem?_eq_getElem hj)
    refine ⟨_, e1, by simp, by simp; omega, fun c hc => ?_⟩
    rcases List.mem_cons.mp hc with rfl | hc
    · unfold Code
      omega
    · exact h2 c hc
theorem ixN_of {n : Nat} {i : Int} {j : Nat} (e : i = (j : Int)) (h : j < n) : ixN n i = some j := by
  subst e
  unfold ixN
  rw [if_pos (by omega), if_pos (by omega)]
  simp
theorem atI_of {α : Type} {xs : List α} {i : Int} {j : Nat} {v : α} (e : i = (j : Int)) (h : xs[j]? = some v) : atI xs i = some v := by
  have hj : j < xs.length := (List.getElem?_eq_some_iff.mp h).1
  unfold atI
  rw [ixN_of e hj]
  exact h
theorem letters_eq : ("abcdefghijklmnopqrstuvwxyz" : Str).cps.toList = List.range' 97 26 := by decide +kernel
theorem letters_at {i : Int} (h0 : 0 ≤ i) (h1 : i < 26) : atI ("abcdefghijklmnopqrstuvwxyz" : Str).cps.toList i = some (97 + i.toNat) := by
  rw [letters_eq]
  refine atI_of (j := i.toNat) (show i = ((i.toNat : Nat) : Int) by omega) ?_
  rw [List.getElem?_range' (by omega), Nat.one_mul]
theorem letters_len : ("abcdefghijklmnopqrstuvwxyz" : Str).length ≤ sizeLine := by decide +kernel
theorem code_of {i : Int} (h0 : 0 ≤ i) (h1 : i < 26) : Code (97 + i.toNat) := ⟨by omega, by omega⟩
theorem small_size {n : Nat} (h : n ≤ 1000) : n ≤ sizeLine := Nat.le_of_lt (small1000 h)
def spNames : Sp := fun vs H Q _ => ∃ (p : Addr) (n : Int), vs = [.ref p, .int n] ∧ Pot H p ∧ 1 ≤ n ∧ n ≤ 9 ∧
  ∀ r ns H', NamesOk ns → ns.length = n.toNat → H r = none → Kp p H H' → Pot H' p → H' r = some (.lst (ns.map V.str)) → Q (.ref r) H'
theorem all_snocC {l : List Nat} {x : Nat} (h : ∀ y ∈ l, Code y) (hx : Code x) : ∀ y ∈ l ++ [x], Code y := fun y hy => by
  rcases List.mem_append.mp hy with hy | hy
  · exact h y hy
  · rw [List.mem_singleton.mp hy]
    exact hx
end PW

namespace PW
open PySem PySem.Spec PyProof.Rows L2
theorem joinL_nil : ∀ ys : List (List Nat), TL.joinL [] ys = ys.flatten
  | [] => rfl
  | [p] => by simp [TL.joinL]
  | p :: q :: r => by
    show p ++ ([] ++ TL.joinL [] (q :: r)) = _
    rw [joinL_nil (q :: r)]
    simp
theorem join_signs (l : List Nat) : Txt.join ("" : Str) (l.map fun c => SX.S [c]) = SX.S l := by
  have e : (l.map fun c => SX.S [c]) = (l.map fun c => [c]).map SX.S := by
    rw [List.map_map]
    rfl
  have e0 : ("" : Str) = SX.S [] := by decide +kernel
  rw [e, e0, SX.join_S, joinL_nil]
  congr 1
  induction l with
  | nil => rfl
  | cons c r ih => simpa using ih
theorem ok_law_names {P : Program} {w : World} {K : PySem.W.Frag} {mg : Str → Option Value} {base : Heap} (T : Top K mg) :
    C8.Cal P w K mg base 2 "_law_names" spNames [] := by
  refine cal_of (fd_law_names T) (g_law_names T) sc_law_names bi_law_names (fun vs H Q E h => ?_) (fun cdv A outer s H vs Q E hr h => ?_)
  · obtain ⟨p, n, rfl, _⟩ := h
    rfl
  · obtain ⟨p, n, rfl, hp, hn0, hn1, q⟩ := h
    refine ⟨_, (pss_cons (ps_set (i := 2) sc_law_names.nd rfl (by first | exact Or.inl rfl | exact Or.inr rfl) pe_str)
      (pss_cons (ps_set (i := 3) sc_law_names.nd rfl (by first | exact Or.inl rfl | exact Or.inr rfl) (C8.pe_c (ok_law_take T) hr (by decide) (by rfl) (pa_cons (pv 0) (pa_cons pe_int pa_nil))))
      (pss_cons (ps_set (i := 4) sc_law_names.nd rfl (by first | exact Or.inl rfl | exact Or.inr rfl) (pe_lst pa_nil))
      (pss_cons (ps_for PassesOwn.never rfl (pi_range1 (by rfl) (f_range T) (pa_cons (pv 1) pa_nil)) (pg_name (i := 5) sc_law_names.nd rfl (by first | exact Or.inl rfl | exact Or.inr rfl)) (pss_cons (ps_setLc (i := 6) (own := [("_law_j", 7)]) (g := gName 7) (by rfl) sc_law_names.nd rfl rfl (sw_true rfl rfl rfl (by decide +kernel)) (pi_range1 (by rfl) (f_range T) (pa_cons (C8.pe_c (ok_law_take T) hr (by decide) (by rfl) (pa_cons (pv 0) (pa_cons pe_int pa_nil))) pa_nil)) (blkOk_by (own := [("_law_j", 7)]) (N := ["_law_pot_here", "_law_many", "_law_letters", "_law_begin", "_law_found", "_law_k", "_law_more", "_law_j"]) (sc := defScope s_law_names) (by decide +kernel)) (fun _ _ _ _ _ => (pg_name (i := 7) sc_law_names.nd rfl (by first | exact Or.inl rfl | exact Or.inr rfl))) (fun _ _ _ _ _ => pts_nil) (fun _ _ _ _ _ => (pe_ix ix_str (pv 2) (C8.pe_c (ok_law_take T) hr (by decide) (by rfl) (pa_cons (pv 0) (pa_cons pe_int pa_nil))) (fun _ _ => rfl))))
      (pss_one (ps_expr (pe_bmK (K := K) PySem.F.plainAttrs_list PySem.F.slot_list_append PySem.F.type_list_append mt_append (pv 4) (pa_cons (pe_op op_add_str (pe_ix ix_str (pv 2) (pe_op op_modN (pe_op op_add (pv 3) (pe_op op_mul pe_int (pv 5))) pe_int) (fun _ _ => rfl)) (pe_join pe_str (pv 6))) pa_nil))))))
      (pss_one (ps_ret (pv 4))))))), ?_⟩
    refine ⟨.ref p, rfl, p, 26, rfl, hp, by decide, by decide, fun b H1 hb0 hb1 k1 p1 => ⟨Nat.zero_le _, fun r nr => ?_⟩⟩
    have nrp : r ≠ p := p1.ne nr
    have fr : H r = none := k1.free nrp nr
    refine ⟨.int n, rfl, n, rfl, by omega, by omega, for_range (lo := 0) (n := n.toNat) (fun i σ H2 => ∃ (ws : List Str) (y5 y6 : Option V),
      σ = [some (.ref p), some (.int n), some (.str "abcdefghijklmnopqrstuvwxyz"), some (.int b), some (.ref r), y5, y6, none] ∧ ws.length = i ∧ Heads b ws ∧ Kp p H H2 ∧ Pot H2 p ∧ H2 r = some (.lst (ws.map V.str)))
      ⟨[], none, none, rfl, rfl, Heads.nil b, k1.new nr, p1.same (same_new nr), upd_same⟩ ?_ ?_⟩
    · rintro i σ H2 hi ⟨ws, y5, y6, rfl, hw, hh, k2, p2, er⟩
      -- more
      refine ⟨.ref p, rfl, p, 4, rfl, p2, by decide, by decide, fun d H3 d0 d1 k3 p3 => ⟨d, rfl, by omega, by omega, fun D nD => ?_⟩⟩
      have er3 := k3 r _ nrp er
      have nDp : D ≠ p := p3.ne nD
      have k23 := k2.trans k3
      have fD : H D = none := k23.free nDp nD
      have nDr : D ≠ r := (ne_of_none er3 nD).symm
      refine lc_range (lo := 0) (n := d.toNat) (fun j Hc => ∃ l : List Nat, l.length = j ∧ (∀ c ∈ l, Code c) ∧ Kp p H Hc ∧ Pot Hc p ∧ Hc r = some (.lst (ws.map V.str)) ∧ Hc D = some (.lst ((l.map fun c => SX.S [c]).map V.str)))
        ⟨[], rfl, fun c hc => by simp at hc, k23.new nD, p3.same (same_new nD), same_new nD _ _ er3, upd_same⟩ ?_ ?_
      · rintro j Hc hj ⟨l, hl, hc, kc, pc, erc, eD⟩
        refine ⟨rfl, _, rfl, .ref p, rfl, p, 26, rfl, pc, by decide, by decide, fun e H5 e0 e1 k5 p5 => ⟨_, _, _, rfl, rfl, letters_len, letters_at e0 e1, _, k5 D _ nDp eD, ?_, ?_⟩⟩
        · rw [List.length_map, List.length_map]
          exact small1000 (by omega)
        · refine ⟨l ++ [97 + e.toNat], by simp [hl], all_snocC hc (code_of e0 e1), (kc.trans k5).into fD, p5.into nDp, ?_, ?_⟩
          · rw [upd_ne nDr.symm]
            exact k5 r _ nrp erc
          · rw [upd_same, List.map_append, List.map_append]
            rfl
      · rintro Hc ⟨l, hl, hc, kc, pc, erc, eD⟩
        refine ⟨.ref r, rfl, .inl ⟨rfl, _, SqL.of erc⟩, _, rfl, .int b, rfl, _, rfl, 5, _, rfl, rfl, .inl ⟨by decide, by decide⟩, b, _, rfl, rfl, _, 26, rfl, rfl, (by show (26 : Int) ≠ 0; decide), _, _, _, rfl, rfl, letters_len, letters_at ?_ ?_, ⟨_, rfl⟩, _, rfl, _, D, _, rfl, rfl, .inl (SqL.of eD), ?_, ?_⟩
        · rw [fmod_pos (by decide)]
          exact Int.emod_nonneg _ (by decide)
        · rw [fmod_pos (by decide)]
          exact Int.emod_lt_of_pos _ (by decide)
        · have e0 : ("" : Str).length = 0 := by decide +kernel
          rw [e0, Nat.mul_zero, Nat.add_zero, List.map_map]
          have : (l.map ((fun x : Str => x.length) ∘ fun c => SX.S [c])).sum = l.length := by
            clear hl hc eD
            induction l with
            | nil => rfl
            | cons c r ih =>
              rw [List.map_cons, List.sum_cons, ih, List.length_cons]
              show (SX.S [c]).length + _ = _
              rw [SX.S_len]
              simp
              omega
          rw [this]
          omega
        rw [join_signs]
        refine ⟨_, _, rfl, rfl, ?_, r, _, _, rfl, rfl, erc, ?_, ?_⟩
        · rw [SX.S_len]
          exact small_size (by show 1 + l.length ≤ 1000; omega)
        · rw [List.length_map]
          exact small1000 (by omega)
        · rw [fmod_pos (by decide)]
          refine ⟨ws ++ [SX.S ((97 + ((b + 5 * (ws.length : Int)) % 26).toNat) :: l)], _, _, rfl, by simp [hw], hh.snoc (by omega) hc, kc.into fr, pc.into nrp, ?_⟩
          rw [upd_same, List.map_append, hw]
          have e2 : ((⟨#[97 + ((b + 5 * (i : Int)) % 26).toNat]⟩ : Str) ++ SX.S l) = SX.S ((97 + ((b + 5 * (i : Int)) % 26).toNat) :: l) := SX.S_cat [97 + ((b + 5 * (i : Int)) % 26).toNat] l
          rw [show ((0 : Int) + (i : Int)) = (i : Int) by omega, e2]
          rfl
    · rintro σ H2 ⟨ws, y5, y6, rfl, hw, hh, k2, p2, er⟩
      exact ⟨_, rfl, q r ws H2 (hh.ok (by omega)) hw fr k2 p2 er⟩
end PW

namespace PW
open PySem PySem.Spec PyProof.Rows L2
/-! ### lists that hold what another holds, in another order -/
theorem perm_of_map {α β : Type} {f : α → β} : ∀ {ys zs : List β}, ys.Perm zs → ∀ l : List α, zs = l.map f → ∃ l' : List α, ys = l'.map f ∧ l'.Perm l := by
  intro ys zs h
  induction h with
  | nil =>
    intro l e
    have : l = [] := by
      cases l with
      | nil => rfl
      | cons a b => cases e
    subst this
    exact ⟨[], rfl, .nil⟩
  | cons x _ ih =>
    intro l e
    cases l with
    | nil => cases e
    | cons a b =>
      rw [List.map_cons] at e
      obtain ⟨e1, e2⟩ := List.cons.inj e
      obtain ⟨l', h1, h2⟩ := ih b e2
      exact ⟨a :: l', by rw [List.map_cons, e1, h1], h2.cons a⟩
  | swap x y r =>
    intro l e
    match l, e with
    | [], e => cases e
    | [_], e => cases e
    | a :: b :: c, e =>
      rw [List.map_cons, List.map_cons] at e
      obtain ⟨e1, e2⟩ := List.cons.inj e
      obtain ⟨e3, e4⟩ := List.cons.inj e2
      exact ⟨b :: a :: c, by rw [List.map_cons, List.map_cons, e1, e3, e4], .swap a b c⟩
  | trans _ _ ih1 ih2 =>
    intro l e
    obtain ⟨l1, a1, b1⟩ := ih2 l e
    obtain ⟨l2, a2, b2⟩ := ih1 l1 a1
    exact ⟨l2, a2, b2.trans b1⟩
theorem perm_insert {α : Type} (ys : List α) (x : α) (n : Nat) : (ys.take n ++ [x] ++ ys.drop n).Perm (ys ++ [x]) := by
  have h1 : (ys.take n ++ [x] ++ ys.drop n).Perm (ys.take n ++ (ys.drop n ++ [x])) := by
    rw [List.append_assoc]
    exact List.Perm.append_left _ List.perm_append_comm
  rw [← List.append_assoc, List.take_append_drop] at h1
  exact h1
theorem take_snoc {α : Type} {xs : List α} {i : Nat} {x : α} (h : xs[i]? = some x) : xs.take (i + 1) = xs.take i ++ [x] := by
  rw [List.take_add_one, h]
  rfl
/-! ### ties -/
abbrev Ats := List (Addr × Str × Str)
def Ats.vals (l : Ats) : List V := l.map fun x => V.ref x.1
def Ats.ties (l : Ats) : List (Str × Str) := l.map fun x => x.2
def TieOk (ns : List Str) (t : Str × Str) : Prop := t.1 ∈ ns ∧ t.2 ∈ ns ∧ t.1 ≠ t.2
def TupsAt (H : Hp) (l : Ats) : Prop := ∀ x ∈ l, H x.1 = some (.tup [.str x.2.1, .str x.2.2])
theorem TupsAt.nil (H : Hp) : TupsAt H [] := fun x h => by simp at h
theorem TupsAt.same {H H' : Hp} {l : Ats} (h : TupsAt H l) (e : Same H H') : TupsAt H' l := fun x hx => e _ _ (h x hx)
theorem TupsAt.kp {H H' : Hp} {l : Ats} {p : Addr} (h : TupsAt H l) (hp : Pot H p) (e : Kp p H H') : TupsAt H' l := fun x hx => by
  obtain ⟨a, b, _, _, z⟩ := hp
  exact e _ _ (ne_of (h x hx) z (by intro q; cases q)) (h x hx)
theorem TupsAt.snoc {H : Hp} {l : Ats} {x : Addr × Str × Str} (h : TupsAt H l) (hx : H x.1 = some (.tup [.str x.2.1, .str x.2.2])) : TupsAt H (l ++ [x]) := fun y hy => by
  rcases List.mem_append.mp hy with hy | hy
  · exact h y hy
  · rw [List.mem_singleton.mp hy]
    exact hx
theorem TupsAt.upd {H : Hp} {l : Ats} {q : Addr} {xs ys : List V} (h : TupsAt H l) (e : H q = some (.lst xs)) : TupsAt (L2.upd H q (.lst ys)) l := fun x hx => by
  rw [upd_ne (ne_of (h x hx) e (by intro z; cases z))]
  exact h x hx
theorem TupsAt.perm {H : Hp} {l l' : Ats} (h : TupsAt H l) (e : l'.Perm l) : TupsAt H l' := fun x hx => h x (e.mem_iff.mp hx)
theorem Pot.tup_ne {H : Hp} {p q : Addr} {xs : List V} (h : Pot H p) (e : H q = some (.tup xs)) : q ≠ p := by
  obtain ⟨a, b, _, _, z⟩ := h
  exact ne_of e z (by intro w; cases w)
def spMixed : Sp := fun vs H Q _ => ∃ (p a : Addr) (xs : List V), vs = [.ref p, .ref a] ∧ Pot H p ∧ a ≠ p ∧ H a = some (.lst xs) ∧ xs.length ≤ 1000 ∧
  ∀ r ys H', ys.Perm xs → H r = none → Kp p H H' → Pot H' p → H' r = some (.lst ys) → Q (.ref r) H'
def spTie : Sp := fun vs H Q _ => ∃ (p a : Addr) (ns : List Str), vs = [.ref p, .ref a] ∧ Pot H p ∧ a ≠ p ∧ H a = some (.lst (ns.map V.str)) ∧ ns.Nodup ∧ 2 ≤ ns.length ∧ ns.length ≤ 1000 ∧
  ∀ t x y H', TieOk ns (x, y) → H t = none → Kp p H H' → Pot H' p → H' t = some (.tup [.str x, .str y]) → Q (.ref t) H'
theorem nodup_ne {ns : List Str} (h : ns.Nodup) {i j : Nat} {x y : Str} (hi : ns[i]? = some x) (hj : ns[j]? = some y) (ne : i ≠ j) : x ≠ y := by
  obtain ⟨h1, e1⟩ := List.getElem?_eq_some_iff.mp hi
  obtain ⟨h2, e2⟩ := List.getElem?_eq_some_iff.mp hj
  unfold List.Nodup at h
  rw [List.pairwise_iff_getElem] at h
  rw [← e1, ← e2]
  rcases Nat.lt_or_gt_of_ne ne with z | z
  · exact h i j h1 h2 z
  · exact fun q => h j i h2 h1 z q.symm
theorem nodup_len : ∀ {ms ns : List Str}, ms.Nodup → (∀ x ∈ ms, x ∈ ns) → ms.length ≤ ns.length
  | [], _, _, _ => Nat.zero_le _
  | x :: r, ns, nd, h => by
    have hx : x ∈ ns := h x List.mem_cons_self
    obtain ⟨nx, nr⟩ := List.nodup_cons.mp nd
    have h2 : ∀ y ∈ r, y ∈ ns.erase x := fun y hy => by
      have ne : y ≠ x := fun e => nx (e ▸ hy)
      exact (List.mem_erase_of_ne ne).mpr (h y (List.mem_cons_of_mem _ hy))
    have h3 := nodup_len nr h2
    rw [List.length_erase_of_mem hx] at h3
    have h4 : 0 < ns.length := List.length_pos_of_mem hx
    rw [List.length_cons]
    omega
end PW

namespace PW
open PySem PySem.Spec PyProof.Rows L2
theorem ok_law_mixed {P : Program} {w : World} {K : PySem.W.Frag} {mg : Str → Option Value} {base : Heap} (T : Top K mg) :
    C8.Cal P w K mg base 2 "_law_mixed" spMixed [] := by
  refine cal_of (fd_law_mixed T) (g_law_mixed T) sc_law_mixed bi_law_mixed (fun vs H Q E h => ?_) (fun cdv A outer s H vs Q E hr h => ?_)
  · obtain ⟨p, a, xs, rfl, _⟩ := h
    rfl
  · obtain ⟨p, a, xs, rfl, hp, nap, ha, hx, q⟩ := h
    refine ⟨_, (pss_cons (ps_set (i := 2) sc_law_mixed.nd rfl (by first | exact Or.inl rfl | exact Or.inr rfl) (pe_lst pa_nil))
      (pss_cons (ps_for PassesOwn.never rfl (pi_list (pv 1)) (pg_name (i := 3) sc_law_mixed.nd rfl (by first | exact Or.inl rfl | exact Or.inr rfl)) (pss_one (ps_expr (pe_bmK (K := K) PySem.F.plainAttrs_list PySem.F.slot_list_insert PySem.F.type_list_insert mt_insert (pv 2) (pa_cons (C8.pe_c (ok_law_take T) hr (by decide) (by rfl) (pa_cons (pv 0) (pa_cons (pe_op op_add (pe_callB (lenK (K := K)) (by rfl) (f_len T) PySem.boot_len (pa_cons (pv 2) pa_nil)) pe_int) pa_nil))) (pa_cons (pv 3) pa_nil))))))
      (pss_one (ps_ret (pv 2))))), ?_⟩
    refine ⟨Nat.zero_le _, fun r nr => ?_⟩
    have nrp : r ≠ p := hp.ne nr
    have nar : a ≠ r := ne_of_none ha nr
    refine ⟨.ref a, rfl, a, rfl, ⟨xs, SqL.of (same_new nr _ _ ha)⟩, for_list (K := K) (a := a) (xs := xs) (fun i σ H2 => ∃ (ys : List V) (y3 : Option V),
      σ = [some (.ref p), some (.ref a), some (.ref r), y3] ∧ ys.Perm (xs.take i) ∧ Kp p H H2 ∧ Pot H2 p ∧ H2 r = some (.lst ys))
      ⟨[], none, rfl, .nil, Kp.same (same_new nr), hp.same (same_new nr), upd_same⟩ (fun i σ H2 _ ⟨_, _, _, _, k, _, _⟩ => SqL.of (k a _ nap ha)) ?_ ?_⟩
    · rintro i x σ H2 hi ⟨ys, y3, rfl, hy, k2, p2, er⟩
      have hl : ys.length = (xs.take i).length := hy.length_eq
      rw [List.length_take] at hl
      refine ⟨.ref r, rfl, .inl ⟨rfl, _, SqL.of er⟩, .ref p, rfl, .ref r, rfl, r, ys, rfl, .inl (SqL.of er), _, _, rfl, rfl, p, _, rfl, p2, by omega, by omega, fun d H3 d0 d1 k3 p3 => ⟨_, rfl, r, ys, d, x, rfl, rfl, k3 r _ nrp er, small1000 (by omega), d0, by omega, ?_⟩⟩
      refine ⟨_, some x, rfl, (perm_insert ys x d.toNat).trans ?_, (k2.trans k3).into nr, p3.into nrp, upd_same⟩
      rw [take_snoc hi]
      exact hy.append_right [x]
    · rintro σ H2 ⟨ys, y3, rfl, hy, k2, p2, er⟩
      rw [List.take_length] at hy
      exact ⟨_, rfl, q r ys H2 hy nr k2 p2 er⟩
theorem ok_law_tie {P : Program} {w : World} {K : PySem.W.Frag} {mg : Str → Option Value} {base : Heap} (T : Top K mg) :
    C8.Cal P w K mg base 2 "_law_tie" spTie [] := by
  refine cal_of (fd_law_tie T) (g_law_tie T) sc_law_tie bi_law_tie (fun vs H Q E h => ?_) (fun cdv A outer s H vs Q E hr h => ?_)
  · obtain ⟨p, a, ns, rfl, _⟩ := h
    rfl
  · obtain ⟨p, a, ns, rfl, hp, nap, ha, nd, h2, h3, q⟩ := h
    refine ⟨_, (pss_cons (ps_set (i := 2) sc_law_tie.nd rfl (by first | exact Or.inl rfl | exact Or.inr rfl) (C8.pe_c (ok_law_take T) hr (by decide) (by rfl) (pa_cons (pv 0) (pa_cons (pe_callB (lenK (K := K)) (by rfl) (f_len T) PySem.boot_len (pa_cons (pv 1) pa_nil)) pa_nil))))
      (pss_cons (ps_set (i := 3) sc_law_tie.nd rfl (by first | exact Or.inl rfl | exact Or.inr rfl) (pe_op op_modN (pe_op op_add (pe_op op_add (pv 2) pe_int) (C8.pe_c (ok_law_take T) hr (by decide) (by rfl) (pa_cons (pv 0) (pa_cons (pe_op op_sub (pe_callB (lenK (K := K)) (by rfl) (f_len T) PySem.boot_len (pa_cons (pv 1) pa_nil)) pe_int) pa_nil)))) (pe_callB (lenK (K := K)) (by rfl) (f_len T) PySem.boot_len (pa_cons (pv 1) pa_nil))))
      (pss_one (ps_ret (pe_tup (pa_cons (pe_ix (ixL (K := K)) (pv 1) (pv 2) (fun _ _ => rfl)) (pa_cons (pe_ix (ixL (K := K)) (pv 1) (pv 3) (fun _ _ => rfl)) pa_nil))))))), ?_⟩
    have hl : ((ns.map V.str).length : Int) = ns.length := by rw [List.length_map]
    refine ⟨.ref p, rfl, .ref a, rfl, a, _, rfl, .inl (SqL.of ha), p, _, rfl, hp, by omega, by omega, fun i H1 i0 i1 k1 p1 => ?_⟩
    have ha1 := k1 a _ nap ha
    refine ⟨.int i, rfl, _, _, rfl, rfl, .ref p, rfl, .ref a, rfl, a, _, rfl, .inl (SqL.of ha1), _, _, rfl, rfl, p, _, rfl, p1, by omega, by omega, fun j H2 j0 j1 k2 p2 => ?_⟩
    have ha2 := k2 a _ nap ha1
    refine ⟨_, _, rfl, rfl, .ref a, rfl, a, _, rfl, .inl (SqL.of ha2), _, _, rfl, rfl, (by rw [hl]; omega), ?_⟩
    have hm : (i + 1 + j).fmod ((ns.map V.str).length : Int) = (i + 1 + j) % (ns.length : Int) := by
      rw [hl, fmod_pos (by omega)]
    obtain ⟨z, hz, z0, z1, zi⟩ : ∃ z : Int, (i + 1 + j) % (ns.length : Int) = z ∧ 0 ≤ z ∧ z < ns.length ∧ z ≠ i := by
      refine ⟨_, rfl, Int.emod_nonneg _ (by omega), Int.emod_lt_of_pos _ (by omega), ?_⟩
      by_cases hw : i + 1 + j < ns.length
      · rw [Int.emod_eq_of_lt (by omega) hw]
        omega
      · have e : (i + 1 + j) % (ns.length : Int) = (i + 1 + j - ns.length) % (ns.length : Int) := by
          rw [Int.sub_emod_right]
        rw [e, Int.emod_eq_of_lt (by omega) (by omega)]
        omega
    simp only [hm, hz]
    have hi : i.toNat < ns.length := by omega
    have hj : z.toNat < ns.length := by omega
    have gi : (ns.map V.str)[i.toNat]? = some (.str ns[i.toNat]) := by
      rw [List.getElem?_map, List.getElem?_eq_getElem hi]
      rfl
    have gj : (ns.map V.str)[z.toNat]? = some (.str ns[z.toNat]) := by
      rw [List.getElem?_map, List.getElem?_eq_getElem hj]
      rfl
    refine ⟨.ref a, rfl, .int i, rfl, a, _, i, _, rfl, rfl, SqL.of ha2, atI_of (show i = ((i.toNat : Nat) : Int) by omega) gi, .ref a, rfl, .int z, rfl, a, _, z, _, rfl, rfl, SqL.of ha2, atI_of (show z = ((z.toNat : Nat) : Int) by omega) gj, (by show 2 ≤ sizeLine; decide), fun t nt => ?_⟩
    have ft : H t = none := k1.free (p1.ne (k2.free (p2.ne nt) nt)) (k2.free (p2.ne nt) nt)
    exact q t _ _ _ ⟨List.getElem_mem hi, List.getElem_mem hj, nodup_ne nd (List.getElem?_eq_getElem hi) (List.getElem?_eq_getElem hj) (by omega)⟩ ft ((k1.trans k2).new nt) (p2.same (same_new nt)) upd_same
end PW

namespace PW
open PySem PySem.Spec PyProof.Rows L2
theorem ring_at {xs : List Str} (hn : 2 ≤ xs.length) (nd : xs.Nodup) {k : Int} (h0 : 0 ≤ k) (h1 : k < xs.length) :
    ∃ x y, atI (xs.map V.str) (k - 1) = some (.str x) ∧ atI (xs.map V.str) k = some (.str y) ∧ TieOk xs (x, y) := by
  have hk : k.toNat < xs.length := by omega
  have g : ∀ j : Nat, (h : j < xs.length) → (xs.map V.str)[j]? = some (.str xs[j]) := fun j h => by
    rw [List.getElem?_map, List.getElem?_eq_getElem h]
    rfl
  by_cases hz : k = 0
  · have hl : xs.length - 1 < xs.length := by omega
    refine ⟨xs[xs.length - 1], xs[k.toNat], ?_, atI_of (show k = ((k.toNat : Nat) : Int) by omega) (g _ hk), List.getElem_mem hl, List.getElem_mem hk, nodup_ne nd (List.getElem?_eq_getElem hl) (List.getElem?_eq_getElem hk) (by omega)⟩
    subst hz
    unfold atI ixN
    rw [if_neg (by omega), List.length_map, if_pos (by omega)]
    show (xs.map V.str)[((0 : Int) - 1 + (xs.length : Int)).toNat]? = _
    rw [show ((0 : Int) - 1 + (xs.length : Int)).toNat = xs.length - 1 by omega]
    exact g _ hl
  · have hl : (k - 1).toNat < xs.length := by omega
    exact ⟨xs[(k - 1).toNat], xs[k.toNat], atI_of (show k - 1 = (((k - 1).toNat : Nat) : Int) by omega) (g _ hl), atI_of (show k = ((k.toNat : Nat) : Int) by omega) (g _ hk), List.getElem_mem hl, List.getElem_mem hk, nodup_ne nd (List.getElem?_eq_getElem hl) (List.getElem?_eq_getElem hk) (by omega)⟩
theorem TieOk.perm {ns ms : List Str} {t : Str × Str} (h : TieOk ns t) (e : ns.Perm ms) : TieOk ms t := ⟨e.mem_iff.mp h.1, e.mem_iff.mp h.2.1, h.2.2⟩
theorem Ats.vals_len (l : Ats) : l.vals.length = l.length := by
  unfold Ats.vals
  rw [List.length_map]
theorem Ats.vals_snoc (l : Ats) (x : Addr × Str × Str) : Ats.vals (l ++ [x]) = l.vals ++ [V.ref x.1] := by
  unfold Ats.vals
  rw [List.map_append]
  rfl
theorem Ats.vals_at {l : Ats} {i : Nat} {v : V} (h : l.vals[i]? = some v) : ∃ x, l[i]? = some x ∧ v = V.ref x.1 := by
  unfold Ats.vals at h
  rw [List.getElem?_map] at h
  cases e : l[i]? with
  | none =>
    rw [e] at h
    cases h
  | some x =>
    rw [e] at h
    exact ⟨x, rfl, (Option.some.inj h).symm⟩
theorem ints_at {ts : List Int} {i : Nat} {v : V} (h : (ts.map V.int)[i]? = some v) : ∃ x, ts[i]? = some x ∧ v = V.int x := by
  rw [List.getElem?_map] at h
  cases e : ts[i]? with
  | none =>
    rw [e] at h
    cases h
  | some x =>
    rw [e] at h
    exact ⟨x, rfl, (Option.some.inj h).symm⟩
theorem strs_at {ts : List Str} {i : Nat} {v : V} (h : (ts.map V.str)[i]? = some v) : ∃ x, ts[i]? = some x ∧ v = V.str x := by
  rw [List.getElem?_map] at h
  cases e : ts[i]? with
  | none =>
    rw [e] at h
    cases h
  | some x =>
    rw [e] at h
    exact ⟨x, rfl, (Option.some.inj h).symm⟩
theorem all_snoc {α : Type} {P : α → Prop} {l : List α} {x : α} (h : ∀ y ∈ l, P y) (hx : P x) : ∀ y ∈ l ++ [x], P y := fun y hy => by
  rcases List.mem_append.mp hy with hy | hy
  · exact h y hy
  · rw [List.mem_singleton.mp hy]
    exact hx
def spWeb : Sp := fun vs H Q _ => ∃ (p : Addr) (pts most : Int), vs = [.ref p, .int pts, .int most] ∧ Pot H p ∧ 1 ≤ pts ∧ pts ≤ 9 ∧ pts ≤ most ∧ most ≤ 20 ∧
  ∀ t a b ns (ats : Ats) H', NamesOk ns → 1 ≤ ns.length → (ns.length : Int) ≤ pts → (ats.length : Int) ≤ most → (∀ x ∈ ats, TieOk ns x.2) → H t = none → H a = none → H b = none → a ≠ b → Kp p H H' → Pot H' p →
    H' t = some (.tup [.ref a, .ref b]) → H' a = some (.lst (ns.map V.str)) → H' b = some (.lst ats.vals) → TupsAt H' ats → Q (.ref t) H'
theorem Ats.ties_len (l : Ats) : l.ties.length = l.length := by
  unfold Ats.ties
  rw [List.length_map]
theorem Ats.ties_at {l : Ats} {i : Nat} {x : Addr × Str × Str} (h : l[i]? = some x) : l.ties[i]? = some x.2 := by
  unfold Ats.ties
  rw [List.getElem?_map, h]
  rfl
theorem Ats.ties_snoc (l : Ats) (x : Addr × Str × Str) : Ats.ties (l ++ [x]) = l.ties ++ [x.2] := by
  unfold Ats.ties
  rw [List.map_append]
  rfl
theorem same_filter {ns xs : List Str} (i : Nat) {z : Str} (h : ns[i]? = some z) : ((ns.take (i + 1)).filter fun z => decide (z ∈ xs)) = if z ∈ xs then ((ns.take i).filter fun z => decide (z ∈ xs)) ++ [z] else ((ns.take i).filter fun z => decide (z ∈ xs)) := by
  rw [take_snoc h, List.filter_append, List.filter_cons, List.filter_nil]
  by_cases hz : z ∈ xs
  · rw [decide_eq_true hz, if_pos hz]
    rfl
  · rw [decide_eq_false hz, if_neg hz]
    simp
end PW

namespace PW
open PySem PySem.Spec PyProof.Rows L2
theorem ok_law_web {P : Program} {w : World} {K : PySem.W.Frag} {mg : Str → Option Value} {base : Heap} (T : Top K mg) :
    C8.Cal P w K mg base 3 "_law_web" spWeb [] := by
  refine cal_of (fd_law_web T) (g_law_web T) sc_law_web bi_law_web (fun vs H Q E h => ?_) (fun cdv A outer s H vs Q E hr h => ?_)
  · obtain ⟨p, pts, most, rfl, _⟩ := h
    rfl
  · obtain ⟨p, pts, most, rfl, hp, hp1, hp9, hpm, hm20, q⟩ := h
    refine ⟨_, (pss_cons (ps_set (i := 3) sc_law_web.nd rfl (by first | exact Or.inl rfl | exact Or.inr rfl) (C8.pe_c (ok_law_names T) hr (by decide) (by rfl) (pa_cons (pv 0) (pa_cons (pe_op op_add pe_int (C8.pe_c (ok_law_take T) hr (by decide) (by rfl) (pa_cons (pv 0) (pa_cons (pv 1) pa_nil)))) pa_nil))))
      (pss_cons (ps_set (i := 4) sc_law_web.nd rfl (by first | exact Or.inl rfl | exact Or.inr rfl) (C8.pe_c (ok_law_take T) hr (by decide) (by rfl) (pa_cons (pv 0) (pa_cons pe_int pa_nil))))
      (pss_cons (ps_set (i := 5) sc_law_web.nd rfl (by first | exact Or.inl rfl | exact Or.inr rfl) (pe_lst pa_nil))
      (C8.pss_cut (ps_if (pt_cmpR op_gt (pe_callB (lenK (K := K)) (by rfl) (f_len T) PySem.boot_len (pa_cons (pv 3) pa_nil)) pe_int (nomark _)) (pss_cons (ps_set (i := 6) sc_law_web.nd rfl (by first | exact Or.inl rfl | exact Or.inr rfl) (C8.pe_c (ok_law_mixed T) hr (by decide) (by rfl) (pa_cons (pv 0) (pa_cons (pv 3) pa_nil))))
      (C8.pss_cut (ps_if (pt_cmpR op_gt (pv 4) pe_int (nomark _)) (pss_one (ps_setLc (i := 5) (own := [("_law_k", 7)]) (g := gName 7) (by rfl) sc_law_web.nd rfl rfl (sw_true rfl rfl rfl (by decide +kernel)) (pi_range2 (by rfl) (f_range T) (pa_cons (pe_callTy call_int1 (by rfl) (f_int T) (by decide +kernel) (pa_cons (pe_cmpR op_eq (pv 4) pe_int (nomark _)) pa_nil)) (pa_cons (pe_callB (lenK (K := K)) (by rfl) (f_len T) PySem.boot_len (pa_cons (pv 6) pa_nil)) pa_nil))) (blkOk_by (own := [("_law_k", 7)]) (N := ["_law_pot_here", "_law_points", "_law_most", "_law_names_here", "_law_kind", "_law_ties", "_law_row", "_law_k", "_law_turns", "_law_tie_here", "_law_turn", "_law_a", "_law_b"]) (sc := defScope s_law_web) (by decide +kernel)) (fun _ _ _ _ _ => (pg_name (i := 7) sc_law_web.nd rfl (by first | exact Or.inl rfl | exact Or.inr rfl))) (fun _ _ _ _ _ => pts_nil) (fun _ _ _ _ _ => (pe_tup (pa_cons (pe_ix (ixL (K := K)) (pv 6) (pe_op op_sub (pv 7) pe_int) (fun _ _ => rfl)) (pa_cons (pe_ix (ixL (K := K)) (pv 6) (pv 7) (fun _ _ => rfl)) pa_nil)))))) pss_nil)
      (pss_one (ps_for PassesOwn.never rfl (pi_range1 (by rfl) (f_range T) (pa_cons (C8.pe_c (ok_law_take T) hr (by decide) (by rfl) (pa_cons (pv 0) (pa_cons (pe_op op_add (pe_op op_sub (pv 2) (pe_callB (lenK (K := K)) (by rfl) (f_len T) PySem.boot_len (pa_cons (pv 5) pa_nil))) pe_int) pa_nil))) pa_nil)) (pg_name (i := 7) sc_law_web.nd rfl (by first | exact Or.inl rfl | exact Or.inr rfl)) (pss_one (ps_expr (pe_bmK (K := K) PySem.F.plainAttrs_list PySem.F.slot_list_append PySem.F.type_list_append mt_append (pv 5) (pa_cons (C8.pe_c (ok_law_tie T) hr (by decide) (by rfl) (pa_cons (pv 0) (pa_cons (pv 3) pa_nil))) pa_nil)))))))) pss_nil)
      (pss_cons (ps_setLc (i := 8) (own := [("_law_tie_here", 9)]) (g := gName 9) (by rfl) sc_law_web.nd rfl rfl (sw_true rfl rfl rfl (by decide +kernel)) (pi_list (pv 5)) (blkOk_by (own := [("_law_tie_here", 9)]) (N := ["_law_pot_here", "_law_points", "_law_most", "_law_names_here", "_law_kind", "_law_ties", "_law_row", "_law_k", "_law_turns", "_law_tie_here", "_law_turn", "_law_a", "_law_b"]) (sc := defScope s_law_web) (by decide +kernel)) (fun _ _ _ _ _ => (pg_name (i := 9) sc_law_web.nd rfl (by first | exact Or.inl rfl | exact Or.inr rfl))) (fun _ _ _ _ _ => pts_nil) (fun _ _ _ _ _ => (C8.pe_c (ok_law_take T) hr (by decide) (by rfl) (pa_cons (pv 0) (pa_cons pe_int pa_nil)))))
      (pss_cons (ps_setLc (i := 5) (own := [("_law_a", 11), ("_law_b", 12), ("_law_turn", 10)]) (g := gTup K 2 (gCons (gTup K 2 (gCons (gName 11) (gCons (gName 12) gNil))) (gCons (gName 10) gNil))) (by rfl) sc_law_web.nd rfl rfl (sw_true rfl rfl rfl (by decide +kernel)) (pi_zip (by rfl) (f_zip T) (pa_cons (pv 5) (pa_cons (pv 8) pa_nil))) (blkOk_by (own := [("_law_a", 11), ("_law_b", 12), ("_law_turn", 10)]) (N := ["_law_pot_here", "_law_points", "_law_most", "_law_names_here", "_law_kind", "_law_ties", "_law_row", "_law_k", "_law_turns", "_law_tie_here", "_law_turn", "_law_a", "_law_b"]) (sc := defScope s_law_web) (by decide +kernel)) (fun _ _ _ _ _ => (pg_tup (n := 2) rfl (pgs_cons (pg_tup (n := 2) rfl (pgs_cons (pg_name (i := 11) sc_law_web.nd rfl (by first | exact Or.inl rfl | exact Or.inr rfl)) (pgs_cons (pg_name (i := 12) sc_law_web.nd rfl (by first | exact Or.inl rfl | exact Or.inr rfl)) pgs_nil))) (pgs_cons (pg_name (i := 10) sc_law_web.nd rfl (by first | exact Or.inl rfl | exact Or.inr rfl)) pgs_nil)))) (fun _ _ _ _ _ => pts_nil) (fun _ _ _ _ _ => (pe_ix (ixL (K := K)) (pe_lst (pa_cons (pe_tup (pa_cons (pv 11) (pa_cons (pv 12) pa_nil))) (pa_cons (pe_tup (pa_cons (pv 12) (pa_cons (pv 11) pa_nil))) pa_nil))) (pv 10) (fun _ _ => rfl))))
      (pss_one (ps_ret (pe_tup (pa_cons (pv 3) (pa_cons (C8.pe_c (ok_law_mixed T) hr (by decide) (by rfl) (pa_cons (pv 0) (pa_cons (pv 5) pa_nil))) pa_nil))))))))))), ?_⟩
    refine ⟨.ref p, rfl, .ref p, rfl, .int pts, rfl, p, pts, rfl, hp, by omega, by omega, fun d H1 d0 d1 k1 p1 => ⟨_, _, rfl, rfl, p, _, rfl, p1, by omega, by omega, fun a ns H2 hns hlen na k2 p2 ea => ?_⟩⟩
    have nap : a ≠ p := p1.ne na
    have fa : H a = none := k1.free nap na
    refine ⟨.ref p, rfl, p, 4, rfl, p2, by decide, by decide, fun kd H3 kd0 kd1 k3 p3 => ⟨Nat.zero_le _, fun b0 nb0 => ?_⟩⟩
    have k13 : Kp p H H3 := (k1.trans k2).trans k3
    have ea3 := k3 a _ nap ea
    have nb0p : b0 ≠ p := p3.ne nb0
    have fb0 : H b0 = none := k13.free nb0p nb0
    have nab0 : b0 ≠ a := (ne_of_none ea3 nb0).symm
    refine ⟨fun σ' H' => ∃ (b : Addr) (ats : Ats) (y6 y7 : Option V), σ' = [some (.ref p), some (.int pts), some (.int most), some (.ref a), some (.int kd), some (.ref b), y6, y7, none, none, none, none, none] ∧
      Kp p H H' ∧ Pot H' p ∧ H' a = some (.lst (ns.map V.str)) ∧ H b = none ∧ b ≠ a ∧ H' b = some (.lst ats.vals) ∧ TupsAt H' ats ∧ (∀ x ∈ ats, TieOk ns x.2) ∧ (ats.length : Int) ≤ most, ?_, ?_⟩
    · have ea4 : upd H3 b0 (.lst []) a = some (.lst (ns.map V.str)) := same_new nb0 _ _ ea3
      have p4 : Pot (upd H3 b0 (.lst [])) p := p3.same (same_new nb0)
      refine ⟨.ref a, rfl, a, _, rfl, .inl (SqL.of ea4), _, _, rfl, rfl, _, rfl, ite2 (fun e => ?_) (fun e => ?_)⟩
      · have hl2 : 2 ≤ ns.length := by
          have e1 : (1 : Int) < ((ns.map V.str).length : Int) := of_decide_eq_true e
          rw [List.length_map] at e1
          omega
        -- row
        refine ⟨.ref p, rfl, .ref a, rfl, p, a, _, rfl, p4, nap, ea4, (by rw [List.length_map]; omega), fun rw' ys H5 hperm nrw k5 p5 erw => ?_⟩
        obtain ⟨row, rfl, hrow⟩ := perm_of_map hperm ns rfl
        have nrwp : rw' ≠ p := p4.ne nrw
        have hrl : row.length = ns.length := hrow.length_eq
        have rnd : row.Nodup := hrow.nodup_iff.mpr hns.nd
        have kH5 : Kp p H H5 := (k13.new nb0).trans k5
        have ea5 := k5 a _ nap ea4
        have eb5 : H5 b0 = some (.lst []) := k5 b0 _ nb0p upd_same
        refine ⟨fun σ' H' => ∃ (b : Addr) (ats : Ats), σ' = [some (.ref p), some (.int pts), some (.int most), some (.ref a), some (.int kd), some (.ref b), some (.ref rw'), none, none, none, none, none, none] ∧
          Kp p H H' ∧ Pot H' p ∧ H' a = some (.lst (ns.map V.str)) ∧ H b = none ∧ b ≠ a ∧ H' b = some (.lst ats.vals) ∧ TupsAt H' ats ∧ (∀ x ∈ ats, TieOk ns x.2) ∧ (ats.length : Int) ≤ most, ?_, ?_⟩
        · refine ⟨.int kd, rfl, _, _, rfl, rfl, _, rfl, ite2 (fun e2 => ?_) (fun e2 => ?_)⟩
          · refine ⟨.int kd, rfl, rfl, .inr ⟨_, rfl, .ref rw', rfl, rw', _, rfl, .inl (SqL.of erw), _, _, rfl, ?_⟩⟩
            obtain ⟨lo, elo, lo0, lo1⟩ : ∃ lo : Int, (if decide (V.int kd = V.int 3) = true then (1 : Int) else 0) = lo ∧ 0 ≤ lo ∧ lo ≤ 1 := by
              refine ⟨_, rfl, ?_, ?_⟩ <;> split <;> omega
            have hrl2 : ((row.map V.str).length : Int) = row.length := by rw [List.length_map]
            refine ⟨⟨?_, ?_, ?_, ?_⟩, ?_⟩
            · rw [elo]
              omega
            · rw [elo]
              omega
            · rw [hrl2]
              omega
            · rw [hrl2]
              omega
            simp only [elo, hrl2]
            intro D nD
            have nDp : D ≠ p := p5.ne nD
            have fD : H D = none := kH5.free nDp nD
            refine lc_range (lo := lo) (n := ((row.length : Int) - lo).toNat) (fun i Hc => ∃ ats : Ats, Kp p H Hc ∧ Pot Hc p ∧ Hc a = some (.lst (ns.map V.str)) ∧ Hc rw' = some (.lst (row.map V.str)) ∧ Hc D = some (.lst ats.vals) ∧ TupsAt Hc ats ∧ (∀ x ∈ ats, TieOk ns x.2) ∧ ats.length = i)
              ⟨[], kH5.new nD, p5.same (same_new nD), same_new nD _ _ ea5, same_new nD _ _ erw, upd_same, TupsAt.nil _, fun x h => by simp at h, rfl⟩ ?_ ?_
            · rintro i Hc hi ⟨ats, kc, pc, eac, erc, eD, hT, hv, hlc⟩
              obtain ⟨x, y, g1, g2, hxy⟩ := ring_at (xs := row) (by omega) rnd (k := lo + i) (by omega) (by omega)
              refine ⟨rfl, .ref rw', rfl, .int (lo + i), rfl, _, _, rfl, rfl, rw', _, _, _, rfl, rfl, SqL.of erc, g1, .ref rw', rfl, .int (lo + i), rfl, rw', _, _, _, rfl, rfl, SqL.of erc, g2, (by show 2 ≤ sizeLine; decide), fun t nt => ⟨_, same_new nt _ _ eD, ?_, ?_⟩⟩
              · rw [Ats.vals_len]
                exact small1000 (by omega)
              · have nDt : D ≠ t := ne_of_none eD nt
                refine ⟨ats ++ [(t, x, y)], (kc.new nt).into fD, (pc.same (same_new nt)).into nDp, ?_, ?_, ?_, ?_, all_snoc hv (hxy.perm hrow), by simp [hlc]⟩
                · rw [upd_ne (ne_of_none ea5 nD)]
                  exact same_new nt _ _ eac
                · rw [upd_ne (ne_of_none erw nD)]
                  exact same_new nt _ _ erc
                · rw [upd_same, Ats.vals_snoc]
                · refine ((hT.same (same_new nt)).upd (same_new nt _ _ eD)).snoc ?_
                  rw [upd_ne nDt.symm]
                  exact upd_same
            · rintro Hc ⟨ats, kc, pc, eac, erc, eD, hT, hv, hlc⟩
              exact ⟨D, ats, rfl, kc, pc, eac, fD, (ne_of_none ea5 nD).symm, eD, hT, hv, by omega⟩
          · exact ⟨b0, [], rfl, kH5, p5, ea5, fb0, nab0, eb5, TupsAt.nil _, fun x h => by simp at h, by show (0 : Int) ≤ most; omega⟩
        · rintro σ' H6 ⟨b, ats, rfl, k6, p6, ea6, fb, nba, eb, hT, hv, hl⟩
          have nbp : b ≠ p := fun z => by
            subst z
            obtain ⟨_, _, _, _, e1⟩ := hp
            rw [fb] at e1
            cases e1
          have hal : ((ats.vals).length : Int) = ats.length := by rw [Ats.vals_len]
          refine ⟨.ref p, rfl, .int most, rfl, .ref b, rfl, b, _, rfl, .inl (SqL.of eb), _, _, rfl, rfl, _, _, rfl, rfl, p, _, rfl, p6, by omega, by omega, fun d H7 d0 d1 k7 p7 => ⟨d, rfl, by omega, by omega, ?_⟩⟩
          refine for_range (lo := 0) (n := d.toNat) (fun i σ H8 => ∃ (bts : Ats) (y7 : Option V), σ = [some (.ref p), some (.int pts), some (.int most), some (.ref a), some (.int kd), some (.ref b), some (.ref rw'), y7, none, none, none, none, none] ∧
            Kp p H H8 ∧ Pot H8 p ∧ H8 a = some (.lst (ns.map V.str)) ∧ H8 b = some (.lst bts.vals) ∧ TupsAt H8 bts ∧ (∀ x ∈ bts, TieOk ns x.2) ∧ bts.length = ats.length + i)
            ⟨ats, none, rfl, k6.trans k7, p7, k7 a _ nap ea6, k7 b _ nbp eb, hT.kp p6 k7, hv, rfl⟩ ?_ ?_
          · rintro i σ H8 hi ⟨bts, y7, rfl, k8, p8, ea8, eb8, hT8, hv8, hl8⟩
            refine ⟨.ref b, rfl, .inl ⟨rfl, _, SqL.of eb8⟩, .ref p, rfl, .ref a, rfl, p, a, ns, rfl, p8, nap, ea8, hns.nd, hl2, by omega, fun t x y H9 hxy nt k9 p9 et => ⟨b, _, _, rfl, rfl, k9 b _ nbp eb8, ?_, ?_⟩⟩
            · rw [Ats.vals_len]
              exact small1000 (by omega)
            · have nbt : b ≠ t := ne_of_none eb8 nt
              refine ⟨bts ++ [(t, x, y)], _, rfl, (k8.trans k9).into fb, p9.into nbp, ?_, ?_, ?_, all_snoc hv8 hxy, by simp [hl8]; omega⟩
              · rw [upd_ne nba.symm]
                exact k9 a _ nap ea8
              · rw [upd_same, Ats.vals_snoc]
              · refine ((hT8.kp p8 k9).upd (k9 b _ nbp eb8)).snoc ?_
                rw [upd_ne nbt.symm]
                exact et
          · rintro σ H8 ⟨bts, y7, rfl, k8, p8, ea8, eb8, hT8, hv8, hl8⟩
            exact ⟨b, bts, _, _, rfl, k8, p8, ea8, fb, nba, eb8, hT8, hv8, by omega⟩
      · exact ⟨b0, [], none, none, rfl, k13.new nb0, p4, ea4, fb0, nab0, upd_same, TupsAt.nil _, fun x h => by simp at h, by show (0 : Int) ≤ most; omega⟩
    · rintro σ' H4 ⟨b, ats, y6, y7, rfl, k4, p4, ea4, fb, nba, eb, hT, hv, hl⟩
      have nbp : b ≠ p := fun z => by
        subst z
        obtain ⟨_, _, _, _, e1⟩ := hp
        rw [fb] at e1
        cases e1
      -- turns
      refine ⟨.ref b, rfl, b, rfl, ⟨_, SqL.of eb⟩, fun D nD => ?_⟩
      have nDp : D ≠ p := p4.ne nD
      have fD : H D = none := k4.free nDp nD
      have nDa : D ≠ a := (ne_of_none ea4 nD).symm
      have nDb : D ≠ b := (ne_of_none eb nD).symm
      refine lc_list (K := K) (a := b) (xs := ats.vals) (fun i Hc => ∃ ts : List Int, Kp p H Hc ∧ Pot Hc p ∧ Hc a = some (.lst (ns.map V.str)) ∧ Hc b = some (.lst ats.vals) ∧ TupsAt Hc ats ∧ Hc D = some (.lst (ts.map V.int)) ∧ ts.length = i ∧ ∀ t ∈ ts, t = 0 ∨ t = 1)
        ⟨[], k4.new nD, p4.same (same_new nD), same_new nD _ _ ea4, same_new nD _ _ eb, hT.same (same_new nD), upd_same, rfl, fun x h => by simp at h⟩
        (fun i Hc _ ⟨_, _, _, _, z, _⟩ => SqL.of z) ?_ ?_
      · rintro i x Hc hi ⟨ts, kc, pc, eac, ebc, hTc, eD, hlc, hv2⟩
        have hil : i < ats.length := by
          have := (List.getElem?_eq_some_iff.mp hi).1
          rw [Ats.vals_len] at this
          exact this
        refine ⟨rfl, .ref p, rfl, p, 2, rfl, pc, by decide, by decide, fun e H9 e0 e1 k9 p9 => ⟨_, k9 D _ nDp eD, ?_, ?_⟩⟩
        · rw [List.length_map]
          exact small1000 (by omega)
        · refine ⟨ts ++ [e], (kc.trans k9).into fD, p9.into nDp, ?_, ?_, ?_, ?_, by simp [hlc], all_snoc hv2 (by omega)⟩
          · rw [upd_ne nDa.symm]
            exact k9 a _ nap eac
          · rw [upd_ne nDb.symm]
            exact k9 b _ nbp ebc
          · exact (hTc.kp pc k9).upd (k9 D _ nDp eD)
          · rw [upd_same, List.map_append]
            rfl
      · rintro Hc ⟨ts, kc, pc, eac, ebc, hTc, eD, hlc, hv2⟩
        rw [Ats.vals_len] at hlc
        -- ties, told either way about
        refine ⟨.ref b, rfl, .ref D, rfl, b, D, _, _, rfl, SqL.of ebc, SqL.of eD, fun E' nE => ?_⟩
        have nEp : E' ≠ p := pc.ne nE
        have fE : H E' = none := kc.free nEp nE
        have nEa : E' ≠ a := (ne_of_none eac nE).symm
        have nEb : E' ≠ b := (ne_of_none ebc nE).symm
        have nED : E' ≠ D := (ne_of_none eD nE).symm
        refine lc_it (walk_zip (K := K) (a := b) (b := D) (xs := ats.vals) (ys := ts.map V.int) (n := ats.length) (by rw [Ats.vals_len, List.length_map]; omega))
          (fun i Hc => ∃ bts : Ats, Kp p H Hc ∧ Pot Hc p ∧ Hc a = some (.lst (ns.map V.str)) ∧ Hc b = some (.lst ats.vals) ∧ TupsAt Hc ats ∧ Hc D = some (.lst (ts.map V.int)) ∧ Hc E' = some (.lst bts.vals) ∧ TupsAt Hc bts ∧ (∀ x ∈ bts, TieOk ns x.2) ∧ bts.length = i)
          ⟨[], kc.new nE, pc.same (same_new nE), same_new nE _ _ eac, same_new nE _ _ ebc, hTc.same (same_new nE), same_new nE _ _ eD, upd_same, TupsAt.nil _, fun x h => by simp at h, rfl⟩
          (fun i Hc _ ⟨_, _, _, _, z1, _, z2, _⟩ => ⟨SqL.of z1, SqL.of z2⟩) ?_ ?_
        · rintro i x Hd Hd' hi ⟨bts, kd', pd, ead, ebd, hTd, eDd, eEd, hTb, hvb, hlb⟩ ⟨T', x1, x2, rfl, nT, rfl, f1, f2⟩
          obtain ⟨⟨A', s1, s2⟩, g1, rfl⟩ := Ats.vals_at f1
          obtain ⟨tt, g2, rfl⟩ := ints_at f2
          have hA : Hd A' = some (.tup [.str s1, .str s2]) := hTd _ (List.mem_of_getElem? g1)
          have hok : TieOk ns (s1, s2) := hv _ (List.mem_of_getElem? g1)
          have htt : tt = 0 ∨ tt = 1 := hv2 _ (List.mem_of_getElem? g2)
          refine ⟨T', _, rfl, SqT.of upd_same, rfl, _, _, rfl, A', _, rfl, SqT.of (same_new nT _ _ hA), rfl, _, _, rfl, _, _, rfl, rfl, _, _, rfl, rfl, rfl, ?_⟩
          refine ⟨.str s1, rfl, .str s2, rfl, (by show 2 ≤ sizeLine; decide), fun t1 n1 => ⟨.str s2, rfl, .str s1, rfl, (by show 2 ≤ sizeLine; decide), fun t2 n2 => ⟨(by show 2 ≤ sizeLine; decide), fun l nl => ?_⟩⟩⟩
          have sA : Same Hd (upd Hd T' (.tup [.ref A', .int tt])) := same_new nT
          have sB := sA.next (o := .tup [.str s1, .str s2]) n1
          have sC := sB.next (o := .tup [.str s2, .str s1]) n2
          have sD := sC.next (o := .lst [.ref t1, .ref t2]) nl
          have et2 := (same_new (o := HO.lst [.ref t1, .ref t2]) nl) _ _ (upd_same (H := upd (upd Hd T' (.tup [.ref A', .int tt])) t1 (.tup [.str s1, .str s2])) (a := t2) (o := .tup [.str s2, .str s1]))
          have et1 := (same_new (o := HO.lst [.ref t1, .ref t2]) nl) _ _ ((same_new (o := HO.tup [.str s2, .str s1]) n2) _ _ (upd_same (H := upd Hd T' (.tup [.ref A', .int tt])) (a := t1) (o := .tup [.str s1, .str s2])))
          have fin : ∀ (t : Addr) (u v : Str), TieOk ns (u, v) → (upd (upd (upd (upd Hd T' (.tup [.ref A', .int tt])) t1 (.tup [.str s1, .str s2])) t2 (.tup [.str s2, .str s1])) l (.lst [.ref t1, .ref t2])) t = some (.tup [.str u, .str v]) →
              ∃ cts : Ats, Kp p H (upd (upd (upd (upd (upd Hd T' (.tup [.ref A', .int tt])) t1 (.tup [.str s1, .str s2])) t2 (.tup [.str s2, .str s1])) l (.lst [.ref t1, .ref t2])) E' (.lst (bts.vals ++ [V.ref t]))) ∧ Pot (upd (upd (upd (upd (upd Hd T' (.tup [.ref A', .int tt])) t1 (.tup [.str s1, .str s2])) t2 (.tup [.str s2, .str s1])) l (.lst [.ref t1, .ref t2])) E' (.lst (bts.vals ++ [V.ref t]))) p ∧
                (upd (upd (upd (upd (upd Hd T' (.tup [.ref A', .int tt])) t1 (.tup [.str s1, .str s2])) t2 (.tup [.str s2, .str s1])) l (.lst [.ref t1, .ref t2])) E' (.lst (bts.vals ++ [V.ref t]))) a = some (.lst (ns.map V.str)) ∧ (upd (upd (upd (upd (upd Hd T' (.tup [.ref A', .int tt])) t1 (.tup [.str s1, .str s2])) t2 (.tup [.str s2, .str s1])) l (.lst [.ref t1, .ref t2])) E' (.lst (bts.vals ++ [V.ref t]))) b = some (.lst ats.vals) ∧
                TupsAt (upd (upd (upd (upd (upd Hd T' (.tup [.ref A', .int tt])) t1 (.tup [.str s1, .str s2])) t2 (.tup [.str s2, .str s1])) l (.lst [.ref t1, .ref t2])) E' (.lst (bts.vals ++ [V.ref t]))) ats ∧ (upd (upd (upd (upd (upd Hd T' (.tup [.ref A', .int tt])) t1 (.tup [.str s1, .str s2])) t2 (.tup [.str s2, .str s1])) l (.lst [.ref t1, .ref t2])) E' (.lst (bts.vals ++ [V.ref t]))) D = some (.lst (ts.map V.int)) ∧
                (upd (upd (upd (upd (upd Hd T' (.tup [.ref A', .int tt])) t1 (.tup [.str s1, .str s2])) t2 (.tup [.str s2, .str s1])) l (.lst [.ref t1, .ref t2])) E' (.lst (bts.vals ++ [V.ref t]))) E' = some (.lst cts.vals) ∧ TupsAt (upd (upd (upd (upd (upd Hd T' (.tup [.ref A', .int tt])) t1 (.tup [.str s1, .str s2])) t2 (.tup [.str s2, .str s1])) l (.lst [.ref t1, .ref t2])) E' (.lst (bts.vals ++ [V.ref t]))) cts ∧
                (∀ x ∈ cts, TieOk ns x.2) ∧ cts.length = i + 1 := fun t u v huv het => by
            generalize hG : upd (upd (upd (upd Hd T' (.tup [.ref A', .int tt])) t1 (.tup [.str s1, .str s2])) t2 (.tup [.str s2, .str s1])) l (.lst [.ref t1, .ref t2]) = G at sD het
            have eEG := sD _ _ eEd
            refine ⟨bts ++ [(t, u, v)], (kd'.trans (Kp.same sD)).into fE, (pd.same sD).into nEp, ?_, ?_, (hTd.same sD).upd eEG, ?_, ?_, ((hTb.same sD).upd eEG).snoc ?_, all_snoc hvb huv, by simp [hlb]⟩
            · rw [upd_ne nEa.symm]
              exact sD _ _ ead
            · rw [upd_ne nEb.symm]
              exact sD _ _ ebd
            · rw [upd_ne nED.symm]
              exact sD _ _ eDd
            · rw [upd_same, Ats.vals_snoc]
            · rw [upd_ne (ne_of het eEG (by intro z; cases z))]
              exact het
          have hsz : bts.vals.length < sizeLine := by
            rw [Ats.vals_len]
            exact small1000 (by omega)
          rcases htt with rfl | rfl
          · exact ⟨.int 0, rfl, l, _, 0, _, rfl, rfl, SqL.of upd_same, rfl, _, sD _ _ eEd, hsz, fin t1 s1 s2 hok et1⟩
          · exact ⟨.int 1, rfl, l, _, 1, _, rfl, rfl, SqL.of upd_same, rfl, _, sD _ _ eEd, hsz, fin t2 s2 s1 ⟨hok.2.1, hok.1, hok.2.2.symm⟩ et2⟩
        · rintro Hd ⟨bts, kd', pd, ead, ebd, hTd, eDd, eEd, hTb, hvb, hlb⟩
          refine ⟨.ref a, rfl, .ref p, rfl, .ref E', rfl, p, E', _, rfl, pd, nEp, eEd, (by rw [Ats.vals_len]; omega), fun r ys H9 hperm nr k9 p9 er => ⟨(by show 2 ≤ sizeLine; decide), fun t nt => ?_⟩⟩
          obtain ⟨cts, rfl, hc⟩ := perm_of_map (f := fun x : Addr × Str × Str => V.ref x.1) hperm bts rfl
          have nrp : r ≠ p := pd.ne nr
          have fr : H r = none := kd'.free nrp nr
          have ntp : t ≠ p := p9.ne nt
          have ea9 := k9 a _ nap ead
          refine q t a r ns cts _ hns (by omega) (by omega) ?_ (fun x hx => hvb x (hc.mem_iff.mp hx)) ((kd'.trans k9).free ntp nt) fa fr (ne_of_none ead nr) ((kd'.trans k9).new nt) (p9.same (same_new nt)) upd_same (same_new nt _ _ ea9) (same_new nt _ _ er) (((hTb.kp pd k9).perm hc).same (same_new nt))
          rw [hc.length_eq]
          omega
end PW

namespace PW
open PySem PySem.Spec PyProof.Rows L2
/-! ### set(list of texts), its length -/
/-- the first k of val, each once -/
def onceS (val : Nat → Str) : Nat → List Str
  | 0 => []
  | k + 1 => if (onceS val k).any (· == val k) then onceS val k else onceS val k ++ [val k]
theorem onceS_len (val : Nat → Str) : ∀ k, (onceS val k).length ≤ k
  | 0 => Nat.le_refl _
  | k + 1 => by
    have := onceS_len val k
    unfold onceS
    split
    · omega
    · rw [List.length_append, List.length_singleton]
      omega
theorem onceS_any (val : Nat → Str) (k : Nat) (z : Str) : (onceS val (k + 1)).any (· == z) = ((onceS val k).any (· == z) || decide (z = val k)) := by
  rw [show onceS val (k + 1) = if (onceS val k).any (· == val k) then onceS val k else onceS val k ++ [val k] from rfl]
  by_cases h : (onceS val k).any (· == val k) = true
  · rw [if_pos h]
    by_cases hz : z = val k
    · rw [hz, h]
      rfl
    · rw [decide_eq_false hz, Bool.or_false]
  · rw [if_neg h, List.any_append, List.any_cons, List.any_nil, Bool.or_false]
    congr 1
    by_cases hz : z = val k
    · rw [decide_eq_true hz, hz]
      exact beq_self_eq_true _
    · rw [decide_eq_false hz]
      exact beq_eq_false_iff_ne.mpr fun q => hz q.symm
theorem onceS_size (val : Nat → Str) (k : Nat) : (onceS val (k + 1)).length = if (onceS val k).any (· == val k) then (onceS val k).length else (onceS val k).length + 1 := by
  rw [show onceS val (k + 1) = if (onceS val k).any (· == val k) then onceS val k else onceS val k ++ [val k] from rfl]
  split
  · rfl
  · rw [List.length_append, List.length_singleton]
theorem onceS_nodup {xs : List Str} (h : xs.Nodup) : ∀ k, k ≤ xs.length → onceS (fun i => xs.getD i Str.empty) k = xs.take k
  | 0, _ => by
    rw [List.take_zero]
    rfl
  | k + 1, hk => by
    have hk2 : k < xs.length := hk
    have e1 : xs.getD k Str.empty = xs[k] := by
      rw [List.getD_eq_getElem?_getD, List.getElem?_eq_getElem hk2]
      rfl
    have e2 : xs.take (k + 1) = xs.take k ++ [xs[k]] := by
      rw [List.take_add_one, List.getElem?_eq_getElem hk2]
      rfl
    have no : ((xs.take k).any (· == xs[k])) = false := by
      rw [List.any_eq_false]
      intro y hy ey
      have ey2 : y = xs[k] := eq_of_beq ey
      obtain ⟨j, hj, ej⟩ := List.getElem_of_mem hy
      rw [List.length_take] at hj
      rw [List.getElem_take] at ej
      exact List.pairwise_iff_getElem.mp h j k (by omega) hk2 (by omega) (ej.trans ey2)
    rw [show onceS (fun i => xs.getD i Str.empty) (k + 1) = if (onceS (fun i => xs.getD i Str.empty) k).any (· == xs.getD k Str.empty) then onceS (fun i => xs.getD i Str.empty) k else onceS (fun i => xs.getD i Str.empty) k ++ [xs.getD k Str.empty] from rfl]
    rw [onceS_nodup h k (Nat.le_of_lt hk2), e1, no, e2]
    rfl
section
variable {prog : Program} {w : World} {A : Around} {R : Result → Shared → Prop} {I : Addr} {fp wr : List Addr} {G : Array GenState → Array GenState → Prop} {n : Nat} {P : Nat → Value → Prop} {St : Nat → Shared → Prop}
abbrev SetHas (prog : Program) (w : World) (h : Heap) (S : Addr) (l : List Str) : Prop := h.SetOf (PySem.strKind prog w) S (fun z => l.any (· == z)) l.length
theorem set_loop_str (W : WalksS prog w A.in1 I fp wr G n P St) (S : Addr) (out : S ∉ fp) (val : Nat → Str) (isv : ∀ i v, P i v → ∃ t, v = .str (val i) t) (small : n + 1 < scanBound) :
    ∀ (m i : Nat) (s : Shared), n - i = m → i ≤ n → St i s → SetHas prog w s.heap S (onceS val i) →
      (∀ s', Moved (S :: wr) G s s' → SetHas prog w s'.heap S (onceS val n) → R (.ok (.ret .none)) s') →
      codeAny (model prog w) A (.builtin "set.update.loop" ⟨[.ref S, .ref I], []⟩) R s := by
  have outw : S ∉ wr := fun z => out (W.sub _ z)
  have more : ∀ b ∈ wr, b ∈ S :: wr := fun b z => List.mem_cons_of_mem _ z
  intro m
  induction m with
  | zero =>
    intro i s hm hi st hs fin
    have ei : i = n := by omega
    subst ei
    refine codeAny_builtin PyProof.Rows.F.entry_set_update_loop ?_
    rw [Around.under_plainId PyProof.Rows.F.plain_set_update_loop _]
    show wpAny _ A.in1 (pyNext (.ref I) >>= _) _ _ s
    refine wpAny_bind (W.done s _ _ st fun s' mv => ?_)
    show wpAny _ A.in1 (ret Value.none) _ _ s'
    refine wpAny_pure (fin s' (mv.mono more) ?_)
    obtain ⟨o, es, ep, t, ho, rest⟩ := hs
    exact ⟨o, es, ep, t, mv.heap S _ outw ho, rest⟩
  | succ m ih =>
    intro i s hm hi st hs fin
    have lt : i < n := by omega
    refine codeAny_builtin PyProof.Rows.F.entry_set_update_loop ?_
    rw [Around.under_plainId PyProof.Rows.F.plain_set_update_loop _]
    show wpAny _ A.in1 (pyNext (.ref I) >>= _) _ _ s
    refine wpAny_bind (W.item i s _ _ lt st fun v s' pv st' mv => ?_)
    obtain ⟨t, rfl⟩ := isv i v pv
    have hs1 : SetHas prog w s'.heap S (onceS val i) := by
      obtain ⟨o, es, ep, tb, ho, rest⟩ := hs
      exact ⟨o, es, ep, tb, mv.heap S _ outw ho, rest⟩
    show wpAny _ A.in1 (holding [Value.str (val i) t] (setAdd S (.str (val i) t)) >>= _) _ _ s'
    refine wpAny_bind (wpAny_holding ?_)
    unfold setAdd
    refine wpAny_holding (wpAny_bind ((PySem.strKind prog w).pyHash (k := val i) (PySem.strKind_is _ _ _ _) ?_))
    have room : (onceS val i).length + 1 < scanBound := Nat.lt_of_le_of_lt (Nat.add_le_add_right (onceS_len val i) 1) (by omega)
    refine wpAny_setAddHashed_of (knd := PySem.strKind prog w) (s := { s' with toks := s'.toks + 1 }) (PySem.strKind_is _ _ _ _) rfl hs1 room fun h' sb hs2 => ?_
    have hs3 : SetHas prog w h' S (onceS val (i + 1)) := PyProof.Rows.SetOf_congr hs2 (fun z => (onceS_any val i z).symm) (onceS_size val i).symm
    refine wpAny_pure ⟨plainId_quiet PyProof.Rows.F.plain_set_update_loop _, ih (i + 1) _ (by omega) lt (W.frame _ s' _ _ st' (Nat.le_succ _) fun b hb o e => ?_) hs3 fun s'' mv2 hs4 => ?_⟩
    · rw [sb.2 b fun z : b = S => out (z ▸ hb)]
      exact e
    · refine fin s'' (Moved.trans W.gtrans ((mv.mono more).then_heap (Nat.le_succ _) fun b o hb e => ?_) mv2) hs4
      rw [sb.2 b fun z : b = S => hb (z ▸ List.mem_cons_self)]
      exact e
end
end PW

namespace PySem
open PySem.Spec
section
variable {prog : Program} {w : World} {A : Around} {E : Value → Shared → Prop} {s : Shared}
def strsAre (items : Array Value) (xs : List Str) : Prop := ∀ (i : Nat) (v : Value), items[i]? = some v → ∃ t, v = .str (xs.getD i Str.empty) t
set_option maxHeartbeats 3200000 in
theorem pw_set_list {l : Addr} {items : Array Value} {xs : List Str} {Q : Value → Shared → Prop} (quiet : A.handled = none) (il : s.heap.IsList l items) (isv : strsAre items xs) (small : items.size + 1 < scanBound)
    (fin : ∀ (h' : Heap) (tk : Nat), PW.SetHas prog w h' s.heap.objs.size (PW.onceS (fun i => xs.getD i Str.empty) items.size) → (∀ b o, b < s.heap.objs.size → s.heap.get? b = some o → h'.get? b = some o) → Q (.ref s.heap.objs.size) { s with heap := h', toks := tk }) :
    wpAny (model prog w) A (call (.type "set") [.ref l]) Q E s := by
  obtain ⟨c, tl, hmro⟩ := F.called_set.mro
  have z1 := F.called_set.made
  have z2 := F.called_set.sub
  refine wpAny_call (codeAny_of_tree ?_)
  show wpAny _ _ (callAny (.type "set") _) _ _ _
  refine wpAny_pure ⟨Code.quiet_builtin _ (by decide +kernel), codeAny_builtin F.entry_type_call ?_⟩
  rw [Around.under_plain (weight_type_call_type "set" [.ref l] []) rfl]
  have z3 := F.called_set.notType
  have z4 := F.called_set.canCreate
  have z5 := F.typeCall_set_1 (.ref l)
  repeat (any_goals (first | assumption | wp_step))
  refine codeAny_mono (code_set_new_1 (.ref l) (E := E) (Q₁ := fun obj s₁ => ∃ led : Bool, obj = .ref s.heap.objs.size ∧
    s₁ = { s with heap := s.heap.push { cls := .type "set", dict := none, data := .set #[] 0 (.fresh 0 0 led) } }) fun led => ⟨led, rfl, rfl⟩) fun r s₁ hr => ?_
  cases r with
  | error e => exact hr
  | ok fl =>
    cases fl with
    | ret obj =>
      obtain ⟨led, rfl, rfl⟩ := hr
      have gS : (s.heap.push { cls := .type "set", dict := none, data := .set #[] 0 (.fresh 0 0 led) }).get? s.heap.objs.size = some { cls := .type "set", dict := none, data := .set #[] 0 (.fresh 0 0 led) } := by
        exact Heap.get?_push_size _ rfl
      have hT : Shared.TypeIs { s with heap := s.heap.push { cls := .type "set", dict := none, data := .set #[] 0 (.fresh 0 0 led) } } (.ref s.heap.objs.size) "set" := ⟨_, gS, rfl⟩
      have y1 := F.called_set.init.lookup
      have y2 := F.called_set.init.bind (.ref s.heap.objs.size)
      repeat (any_goals (first | assumption | wp_step))
      refine codeAny_mono (codeAny_call_builtin (R := wants (fun r s₂ => r = .none ∧ ∃ h' tk, s₂ = { s with heap := h', toks := tk } ∧ PW.SetHas prog w h' s.heap.objs.size (PW.onceS (fun i => xs.getD i Str.empty) items.size) ∧
          (∀ b o, b < s.heap.objs.size → s.heap.get? b = some o → h'.get? b = some o)) E) F.called_set.init.plain F.entry_set_init (check_set_init_1 hT ?_)) fun r₂ s₂ hr₂ => ?_
      · obtain ⟨ol, hol, hcl, nl, hdl⟩ := il
        obtain ⟨ocls, odict, odata, oslots⟩ := ol
        simp only at hcl hdl
        subst hcl
        subst hdl
        have hol1 : (s.heap.push { cls := .type "set", dict := none, data := .set #[] 0 (.fresh 0 0 led) }).get? l = some { cls := .type "list", dict := odict, data := .seq items nl, slots := oslots } := Heap.get?_push_of_some _ hol
        have y3 := F.sub_list_set
        have y4 := F.sub_list_frozenset
        have y5 : (Value.type "list" == Value.type "dict") = false := by decide
        have il1 : (s.heap.push { cls := .type "set", dict := none, data := .set #[] 0 (.fresh 0 0 led) }).IsList l items := ⟨_, hol1, rfl, nl, rfl⟩
        unfold Builtin.«set.__init__» noKeywords Builtin.Frozenset.updateFrom
        generalize hPI : pyIter = PI
        wp_walk
        subst hPI
        refine wpAny_pyIter_list il1 ?_
        refine wpAny_bind (wpAny_runValue ?_)
        have lS : l < s.heap.objs.size := Heap.lt_size hol
        have quiet3 : A.in1.in1.in1.handled = none := by simp [quiet]
        have nI : l ≠ (s.heap.push { cls := .type "set", dict := none, data := .set #[] 0 (.fresh 0 0 led) }).objs.size := by
          rw [Heap.size_push]
          exact Nat.ne_of_lt (Nat.lt_succ_of_lt lS)
        have outS : s.heap.objs.size ∉ [(s.heap.push { cls := .type "set", dict := none, data := .set #[] 0 (.fresh 0 0 led) }).objs.size, l] := by
          rw [Heap.size_push]
          simp only [List.mem_cons, List.not_mem_nil, or_false, not_or]
          exact ⟨Nat.ne_of_lt (Nat.lt_succ_self _), Nat.ne_of_gt lS⟩
        refine PW.set_loop_str ((Walks.list quiet3 _ l nI items).toS) s.heap.objs.size outS (fun i => xs.getD i Str.empty) isv small (items.size - 0) 0 _ (by omega) (Nat.zero_le _)
          ⟨⟨_, Heap.get?_push_size _ rfl, rfl, rfl⟩, (il1.push _)⟩ ?first ?last
        case first =>
          have gS2 : ((s.heap.push { cls := .type "set", dict := none, data := .set #[] 0 (.fresh 0 0 led) }).push { cls := .type "list_iterator", data := .fields #[.ref l, .int 0 0] }).get? s.heap.objs.size = some { cls := .type "set", dict := none, data := .set #[] 0 (.fresh 0 0 led) } := Heap.get?_push_of_some _ gS
          exact PyProof.Rows.SetOf_congr ((PyProof.Rows.setObjOf_fresh (knd := PySem.strKind prog w) led).setOf gS2 (by unfold scanBound; omega)) (fun _ => rfl) rfl
        case last =>
          intro s' mv hs'
          obtain ⟨h', g', d', tk', os'⟩ := s'
          have eg : g' = s.gens := mv.gens
          have ed : d' = s.drawn := mv.drawn
          have eo : os' = s.os := mv.os
          subst eg
          subst ed
          subst eo
          show wpAny _ _ _ _ _ _
          refine wpAny_pure ?_
          show wpAny _ _ (ret Value.none) _ _ _
          refine wpAny_pure ⟨rfl, h', tk', rfl, hs', fun b o hb e => ?_⟩
          refine mv.heap b o ?_ (Heap.get?_push_of_some _ (Heap.get?_push_of_some _ e))
          rw [Heap.size_push]
          simp only [List.mem_cons, List.not_mem_nil, or_false, not_or]
          exact ⟨Nat.ne_of_lt hb, Nat.ne_of_lt (Nat.lt_succ_of_lt hb)⟩
      · cases r₂ with
        | error e => exact hr₂
        | ok fl₂ =>
          cases fl₂ with
          | ret r =>
            obtain ⟨rfl, h', tk, rfl, hS', hk'⟩ := hr₂
            repeat (any_goals (first | assumption | wp_step))
            exact fin _ _ hS' hk'
          | _ => exact hr₂.elim
    | _ => exact hr.elim
end
end PySem
namespace PW
open PySem PySem.Spec PyProof.Rows L2
theorem strsAre_vals {xs : List Str} {us : List Value} (h : Vals (xs.map V.str) us) : strsAre us.toArray xs := fun i v e => by
  have e1 : us[i]? = some v := by simpa using e
  have hl := h.length
  rw [List.length_map] at hl
  have hi : i < xs.length := by
    have := (List.getElem?_eq_some_iff.mp e1).1
    omega
  have e2 : (xs.map V.str)[i]? = some (.str xs[i]) := by
    rw [List.getElem?_map, List.getElem?_eq_getElem hi]
    rfl
  obtain ⟨u, e3, r⟩ := h.get e2
  rw [e1] at e3
  have eu : v = u := Option.some.inj e3
  obtain ⟨t, rfl⟩ := r
  refine ⟨t, ?_⟩
  rw [eu, List.getD_eq_getElem?_getD, List.getElem?_eq_getElem hi]
  rfl
/-- how many unlike ones a list of texts has -/
def manyS (xs : List Str) : Nat := (onceS (fun i => xs.getD i Str.empty) xs.length).length
theorem manyS_nodup {xs : List Str} (h : xs.Nodup) : manyS xs = xs.length := by
  unfold manyS
  rw [onceS_nodup h xs.length (Nat.le_refl _), List.take_length]
def tLenSetS (K : PySem.W.Frag) (ta : TE) : TE := fun σ H Q => ta σ H fun x H1 => ∃ (l : Addr) (xs : List Str), x = .ref l ∧ SqL K H1 l (xs.map V.str) ∧ xs.length ≤ 1000 ∧ Q (.int (manyS xs : Nat)) H1
theorem pe_lenSetS {X : Cx} {K : PySem.W.Frag} {a : Expr} {ta : TE} {p p2 q pos : Pos} (hg : Gl X "len") (hm : X.mg "len" = none) (hg2 : Gl X "set") (hm2 : X.mg "set" = none) (ha : PE X a ta) (hc : X.calm = true := by rfl) (hK : X.K = K := by rfl)
    (na : starEach [a] X.env = (false, eval a X.env) :: starEach [] X.env := by rfl) : PE X (.Call (.Name "len" p) [.Call (.Name "set" p2) [a] [] q] [] pos) (tLenSetS K ta) := by
  subst hK
  refine ⟨fun pins s σ H Q I h => Call_ (ld_blt I hg hm boot_len ?_)⟩
  refine PyProof.Rows.callWith_builtin1 (PyProof.Rows.args_cons (Call_ (ld_blt I hg2 hm2 boot_set ?_)) rfl) rfl rfl
  refine PyProof.Rows.callWith_type1 (PyProof.Rows.args_cons (thn (ha.run pins s σ H _ I h) fun v s1 ⟨x, H1, I1, r1, q1⟩ => PyProof.Rows.args_nil ?_) na) na rfl
  obtain ⟨l, xs, rfl, sq, hl, q1⟩ := q1
  cases r1
  obtain ⟨its, r, pl, hz⟩ := I1.list sq
  have el : its.toArray.size = xs.length := by rw [List.size_toArray, ← r.length, List.length_map]
  refine pw_set_list (I1.ok.hd hc) pl.isList (strsAre_vals r) (by rw [el]; unfold scanBound; omega) fun h' tk hS hk => PyProof.Rows.args_nil ?_
  rw [el] at hS
  obtain ⟨o, es, ep, t, ho, hex, hd, _, _, _, hf, hn⟩ := hS
  have I2 : Inv X pins σ H1 { s1 with heap := h', toks := tk } := I1.kept fun b o e => hk b o (Heap.lt_size e) e
  have hml : manyS xs ≤ xs.length := onceS_len _ _
  exact call_len_set ho hex hd hf (by rw [hn]; show ((manyS xs : Nat) : Int) < 2 ^ 63; omega) ⟨.int (manyS xs : Nat), H1, I2.tok _, ⟨_, by rw [hn]; rfl⟩, q1⟩
end PW

namespace PW
open PySem PySem.Spec PyProof.Rows L2
/-! ### small facts -/
theorem _root_.L2.TyX.same {K : PySem.W.Frag} {H H' : Hp} {v : V} {t : Value} (h : TyX K H v t) (e : Same H H') : TyX K H' v t := by
  cases h with
  | base b =>
    cases b with
    | non => exact .base .non
    | bl x => exact .base (.bl x)
    | int x => exact .base (.int x)
    | str x => exact .base (.str x)
    | flt x => exact .base (.flt x)
    | lst z => exact .base (.lst (e _ _ z))
    | frz z => exact .base (.frz (e _ _ z))
    | tup z => exact .base (.tup (e _ _ z))
    | dK z => exact .base (.dK (e _ _ z))
    | dT z => exact .base (.dT (e _ _ z))
    | ins z a b c d f => exact .base (.ins (e _ _ z) a b c d f)
  | byt b => exact .byt b
  | set z => exact .set (e _ _ z)
  | kList a b => exact .kList a b
  | kTuple a b => exact .kTuple a b
  | kDict a b => exact .kDict a b
  | fTuple z => exact .fTuple (e _ _ z)
  | fDict z => exact .fDict (e _ _ z)
theorem _root_.L2.Same.seqT {K : PySem.W.Frag} {H H' : Hp} {a : Addr} {xs : List V} (e : Same H H') (h : SqT K H a xs) : SqT K H' a xs := by
  rcases h with (h | ⟨o, h⟩) | h
  · exact .inl (.inl (e _ _ h))
  · exact .inl (.inr ⟨o, e _ _ h⟩)
  · exact .inr h
theorem flat_strs (xs : List Str) : (xs.map V.str).all flatV = true := by
  rw [List.all_eq_true]
  intro v hv
  obtain ⟨x, _, rfl⟩ := List.mem_map.mp hv
  rfl
theorem inV_strs (x : Str) (xs : List Str) : inV (.str x) (xs.map V.str) = decide (x ∈ xs) := by
  unfold inV
  rw [List.any_map]
  induction xs with
  | nil => rfl
  | cons y r ih =>
    rw [List.any_cons, ih]
    show ((y == x) || decide (x ∈ r)) = decide (x ∈ y :: r)
    by_cases h : y = x
    · subst h
      simp
    · have h2 : (y == x) = false := beq_eq_false_iff_ne.mpr h
      rw [h2, Bool.false_or]
      have : (x ∈ y :: r) ↔ x ∈ r := by
        rw [List.mem_cons]
        exact ⟨fun z => z.resolve_left fun q => h q.symm, Or.inr⟩
      exact decide_eq_decide.mpr this.symm
theorem bT {p : Prop} [Decidable p] (h : p) : V.bl (decide p) = .bl true := by rw [decide_eq_true h]
theorem bF {p : Prop} [Decidable p] (h : ¬ p) : V.bl (decide p) = .bl false := by rw [decide_eq_false h]
/-! ### the web's object -/
def wf (a b : Addr) : List (Str × V) := putF "own_ties" (.ref b) (putF "own_points" (.ref a) [])
theorem wf_ne : ¬ (("own_points" : Str) = "own_ties") := by decide +kernel
theorem wf_points (a b : Addr) : (wf a b).lookup ("own_points" : Str) = some (.ref a) := by
  unfold wf
  rw [lookup_putF, if_neg wf_ne, lookup_putF, if_pos rfl]
theorem wf_ties (a b : Addr) : (wf a b).lookup ("own_ties" : Str) = some (.ref b) := by
  unfold wf
  rw [lookup_putF, if_pos rfl]
theorem wf_no (a b : Addr) {m : Str} (h1 : ¬ m = "own_ties") (h2 : ¬ m = "own_points") : (wf a b).lookup m = none := by
  unfold wf
  rw [lookup_putF, if_neg h1, lookup_putF, if_neg h2]
  rfl
theorem wf_mp (a b : Addr) : (wf a b).lookup ("points" : Str) = none := wf_no a b (by decide +kernel) (by decide +kernel)
theorem wf_mt (a b : Addr) : (wf a b).lookup ("ties" : Str) = none := wf_no a b (by decide +kernel) (by decide +kernel)
theorem wf_mm (a b : Addr) : (wf a b).lookup ("many" : Str) = none := wf_no a b (by decide +kernel) (by decide +kernel)
def WebAt (K : PySem.W.Frag) (H : Hp) (x : Addr) (ns : List Str) (ats : Ats) : Prop :=
  ∃ dx a b, H x = some (.ins (He.ga K "Web") dx (wf a b)) ∧ H a = some (.lst (ns.map V.str)) ∧ H b = some (.lst ats.vals) ∧ TupsAt H ats
theorem WebAt.same {K : PySem.W.Frag} {H H' : Hp} {x : Addr} {ns : List Str} {ats : Ats} (h : WebAt K H x ns ats) (e : Same H H') : WebAt K H' x ns ats := by
  obtain ⟨dx, a, b, h1, h2, h3, h4⟩ := h
  exact ⟨dx, a, b, e _ _ h1, e _ _ h2, e _ _ h3, h4.same e⟩
theorem WebAt.kp {K : PySem.W.Frag} {H H' : Hp} {x p : Addr} {ns : List Str} {ats : Ats} (h : WebAt K H x ns ats) (hp : Pot H p) (n1 : 1 ≤ ns.length) (e : Kp p H H') : WebAt K H' x ns ats := by
  obtain ⟨dx, a, b, g1, g2, g3, g4⟩ := h
  obtain ⟨u1, u2, h1, h2, u3⟩ := id hp
  refine ⟨dx, a, b, e _ _ (ne_of g1 u3 (by intro z; cases z)) g1, e _ _ ?_ g2, e _ _ ?_ g3, g4.kp hp e⟩
  · intro z
    rw [z, u3] at g2
    have := HO.lst.inj (Option.some.inj g2)
    cases ns with
    | nil => simp at n1
    | cons y r => cases this
  · intro z
    rw [z, u3] at g3
    have := HO.lst.inj (Option.some.inj g3)
    unfold Ats.vals at this
    cases ats with
    | nil => cases this
    | cons y r => cases this
structure WebOk (ns : List Str) (ats : Ats) : Prop where
  names : NamesOk ns
  n1 : 1 ≤ ns.length
  n9 : ns.length ≤ 9
  t20 : ats.length ≤ 20
  ties : ∀ x ∈ ats, TieOk ns x.2
/-! ### promises -/
def spIsRow (K : PySem.W.Frag) : Sp := fun vs H Q _ => ∃ (v : V) (t : Value) (b : Bool), vs = [v] ∧ TyX K H v t ∧ PySem.W.kitAny K t [.type "list", .type "tuple"] = some b ∧ ∀ H', Same H H' → Q (.bl b) H'
def spIsName : Sp := fun vs H Q _ => ∃ x : Str, vs = [.str x] ∧ IsName x ∧ ∀ H', Same H H' → Q (.bl true) H'
def spAreNames (K : PySem.W.Frag) : Sp := fun vs H Q _ => ∃ (a : Addr) (ns : List Str), vs = [.ref a] ∧ H a = some (.lst (ns.map V.str)) ∧ NamesOk ns ∧ 1 ≤ ns.length ∧ ns.length ≤ 9 ∧ ∀ H', Same H H' → Q (.bl true) H'
def spIsPair (K : PySem.W.Frag) : Sp := fun vs H Q _ => ∃ (a t : Addr) (ns : List Str) (x y : Str), vs = [.ref a, .ref t] ∧ H a = some (.lst (ns.map V.str)) ∧ H t = some (.tup [.str x, .str y]) ∧ (∀ z ∈ ns, IsName z) ∧ TieOk ns (x, y) ∧ ∀ H', Same H H' → Q (.bl true) H'
def spWebInit (K : PySem.W.Frag) : Sp := fun vs H Q _ => ∃ (x dx a b : Addr) (ns : List Str) (ats : Ats), vs = [.ref x, .ref a, .ref b] ∧ H x = some (.ins (He.ga K "Web") dx []) ∧ H a = some (.lst (ns.map V.str)) ∧ H b = some (.lst ats.vals) ∧ TupsAt H ats ∧ WebOk ns ats ∧
  ∀ H', (∀ c o, H c = some o → c ≠ x → H' c = some o) → WebAt K H' x ns ats → Q .non H'
def spPoints (K : PySem.W.Frag) : Sp := fun vs H Q _ => ∃ (x : Addr) (ns : List Str) (ats : Ats), vs = [.ref x] ∧ WebAt K H x ns ats ∧ ∀ l, H l = none → Q (.ref l) (upd H l (.lst (ns.map V.str)))
def spTies (K : PySem.W.Frag) : Sp := fun vs H Q _ => ∃ (x : Addr) (ns : List Str) (ats : Ats), vs = [.ref x] ∧ WebAt K H x ns ats ∧ ∀ l, H l = none → Q (.ref l) (upd H l (.lst ats.vals))
def spMany (K : PySem.W.Frag) : Sp := fun vs H Q _ => ∃ (x : Addr) (ns : List Str) (ats : Ats), vs = [.ref x] ∧ WebAt K H x ns ats ∧ Q (.int (ats.length : Nat)) H
theorem small_eq : ("abcdefghijklmnopqrstuvwxyz" : Str).cps.toList = List.range' 97 26 := letters_eq
theorem code_in {c : Nat} (h : Code c) : decide (c ∈ ("abcdefghijklmnopqrstuvwxyz" : Str).cps.toList) = true := by
  rw [letters_eq]
  refine decide_eq_true (List.mem_range'.mpr ⟨c - 97, ?_, ?_⟩)
  · have := h.2
    have := h.1
    omega
  · have := h.1
    omega
/-- making a web -/
theorem make_web {K : PySem.W.Frag} {H : Hp} {a b : Addr} {ns : List Str} {ats : Ats} {Q : Addr → Hp → Prop} {E : XK} (ea : H a = some (.lst (ns.map V.str))) (eb : H b = some (.lst ats.vals)) (hT : TupsAt H ats) (ok : WebOk ns ats)
    (k : ∀ x H', H x = none → Same H H' → WebAt K H' x ns ats → Q x H') :
    ∀ x dx, H x = none → H dx = none → dx ≠ x → spWebInit K [.ref x, .ref a, .ref b] (upd (upd H dx (.own x)) x (.ins (He.ga K "Web") dx [])) (fun v H2 => v = .non ∧ Q x H2) E := fun x dx nx ndx ne => by
  have sM : Same H (upd (upd H dx (.own x)) x (.ins (He.ga K "Web") dx [])) := fun z o h => by
    rw [upd_ne (ne_of_none h nx), upd_ne (ne_of_none h ndx)]
    exact h
  exact ⟨x, dx, a, b, ns, ats, rfl, upd_same, sM _ _ ea, sM _ _ eb, hT.same sM, ok, fun H' k' hW => ⟨rfl, k x H' nx (Same.made nx ndx k') hW⟩⟩
theorem name_of {x : Str} (l : List Nat) (e : x = SX.S l) (h1 : 1 ≤ l.length) (h4 : l.length ≤ 4) (h : l.all (fun c => decide (97 ≤ c ∧ c ≤ 122)) = true) : IsName x :=
  ⟨l, e, h1, h4, fun c hc => (of_decide_eq_true (List.all_eq_true.mp h c hc) : 97 ≤ c ∧ c ≤ 122)⟩
theorem names_lit {ns : List Str} (h : ∀ x ∈ ns, IsName x) (nd : ns.Nodup) : NamesOk ns := ⟨nd, h⟩
end PW

namespace PW
open PySem PySem.Spec PyProof.Rows L2
theorem ok_is_row {P : Program} {w : World} {K : PySem.W.Frag} {mg : Str → Option Value} {base : Heap} (T : Top K mg) :
    C8.Cal P w K mg base 1 "is_row" (spIsRow K) [] := by
  refine cal_of (fd_is_row T) (g_is_row T) sc_is_row bi_is_row (fun vs H Q E h => ?_) (fun cdv A outer s H vs Q E hr h => ?_)
  · obtain ⟨v, t, b, rfl, _⟩ := h
    rfl
  · obtain ⟨v, t, b, rfl, ht, hk, q⟩ := h
    refine ⟨_, (pss_one (ps_ret (pe_callB (isiKT (K := K)) (by rfl) (f_isinstance T) (by decide +kernel) (pa_cons (pv 0) (pa_cons (pe_tup (pa_cons (pe_bltn (v := .ty "list") (by rfl) (f_list T) (by decide +kernel) rfl) (pa_cons (pe_bltn (v := .ty "tuple") (by rfl) (f_tuple T) (by decide +kernel) rfl) pa_nil))) pa_nil))))), ?_⟩
    refine ⟨v, rfl, (by show 2 ≤ sizeLine; decide), fun p np => ⟨v, p, _, t, _, b, rfl, upd_same, .cons (.ty _) (.cons (.ty _) .nil), ht.same (same_new np), hk, q _ (same_new np)⟩⟩
theorem ok_is_name {P : Program} {w : World} {K : PySem.W.Frag} {mg : Str → Option Value} {base : Heap} (T : Top K mg) :
    C8.Cal P w K mg base 1 "is_name" spIsName [] := by
  refine cal_of (fd_is_name T) (g_is_name T) sc_is_name bi_is_name (fun vs H Q E h => ?_) (fun cdv A outer s H vs Q E hr h => ?_)
  · obtain ⟨x, rfl, _⟩ := h
    rfl
  · obtain ⟨x, rfl, hx, q⟩ := h
    refine ⟨_, (pss_cons (ps_if (PW.pt (pw_or (pt_not (pt_val (pe_callB (isiK1 (K := K)) (by rfl) (f_isinstance T) (by decide +kernel) (pa_cons (pv 0) (pa_cons (pe_bltn (v := .ty "str") (by rfl) (f_str T) (by decide +kernel) rfl) pa_nil))))) (pw_or1 (pt_not (pt_chain op_le op_le pe_int (pe_callB call_len_str (by rfl) (f_len T) PySem.boot_len (pa_cons (pv 0) pa_nil)) (C8.pe_gc (by rfl) (c_MOST_LETTERS T))))))) (pss_one (ps_ret pe_bl)) pss_nil)
      (pss_one (ps_ret (pe_callB (allK (K := K) rfl) (by rfl) (f_all T) (by decide +kernel) (pa_cons (pe_lc (own := [("sign", 1)]) (g := gName 1) (by rfl) sc_is_name.nd (pi_str (pv 0)) (blkOk_by (own := [("sign", 1)]) (N := ["thing", "sign"]) (sc := defScope s_is_name) (by decide +kernel)) (fun _ _ _ _ _ => (pg_name (i := 1) sc_is_name.nd rfl (by first | exact Or.inl rfl | exact Or.inr rfl))) (fun _ _ _ _ _ => pts_nil) (fun _ _ _ _ _ => (pe_cmpR op_in_sign (pv 1) (C8.pe_gc (by rfl) (c_SMALL T)) (by with_unfolding_all rfl)))) pa_nil))))), ?_⟩
    obtain ⟨l, rfl, h1, h4, hc⟩ := hx
    have hlen : (SX.S l).length = l.length := SX.S_len l
    refine ⟨_, rfl, _, _, _, _, true, rfl, .ty _, .base (.str _), kit_ty (by decide +kernel), true, rfl, ?_⟩
    refine ⟨_, rfl, _, rfl, (by rw [hlen]; exact small_size (by omega)), 1, _, rfl, rfl, true, ?_, _, _, rfl, rfl, true, ?_, ?_⟩
    · exact bT (by rw [hlen]; omega)
    · exact bT (by rw [hlen]; omega)
    refine ⟨_, rfl, _, rfl, fun D nD => ?_⟩
    refine lc_it (walk_str (z := SX.S l)) (fun i Hc => Same H Hc ∧ Hc D = some (.lst ((List.replicate i true).map V.bl))) ⟨same_new nD, upd_same⟩ (fun _ _ _ _ => trivial) ?_ ?_
    · rintro i x Hc Hc' hi ⟨sm, eD⟩ ⟨rfl, c, ec, rfl⟩
      have hmem : c ∈ l := by
        have : l.toArray[i]? = some c := ec
        rw [List.getElem?_toArray] at this
        exact List.mem_of_getElem? this
      have hi2 : i < l.length := by simpa using hi
      refine ⟨rfl, _, rfl, c, _, rfl, rfl, _, eD, ?_, sm.into nD, ?_⟩
      · rw [List.length_map, List.length_replicate]
        exact small1000 (by omega)
      · rw [upd_same, code_in (hc c hmem), List.replicate_succ', List.map_append]
        rfl
    · rintro Hc ⟨sm, eD⟩
      refine ⟨D, _, rfl, SqL.of eD, ?_⟩
      rw [show (List.replicate (SX.S l).cps.size true).all id = true by rw [List.all_replicate]; simp]
      exact q _ sm
theorem ok_are_names {P : Program} {w : World} {K : PySem.W.Frag} {mg : Str → Option Value} {base : Heap} (T : Top K mg) :
    C8.Cal P w K mg base 2 "are_names" (spAreNames K) [] := by
  refine cal_of (fd_are_names T) (g_are_names T) sc_are_names bi_are_names (fun vs H Q E h => ?_) (fun cdv A outer s H vs Q E hr h => ?_)
  · obtain ⟨a, ns, rfl, _⟩ := h
    rfl
  · obtain ⟨a, ns, rfl, ha, hn, h1, h9, q⟩ := h
    refine ⟨_, (pss_cons (ps_if (PW.pt (pw_or (pt_not (pt_val (C8.pe_c (ok_is_row T) hr (by decide) (by rfl) (pa_cons (pv 0) pa_nil)))) (pw_or (pt_not (pt_chain op_le op_le pe_int (pe_callB (lenK (K := K)) (by rfl) (f_len T) PySem.boot_len (pa_cons (pv 0) pa_nil)) (C8.pe_gc (by rfl) (c_MOST_POINTS T)))) (pw_or1 (pt_not (pt_val (pe_callB (allK (K := K) rfl) (by rfl) (f_all T) (by decide +kernel) (pa_cons (pe_lc (own := [("one", 1)]) (g := gName 1) (by rfl) sc_are_names.nd (pi_list (pv 0)) (blkOk_by (own := [("one", 1)]) (N := ["thing", "one"]) (sc := defScope s_are_names) (by decide +kernel)) (fun _ _ _ _ _ => (pg_name (i := 1) sc_are_names.nd rfl (by first | exact Or.inl rfl | exact Or.inr rfl))) (fun _ _ _ _ _ => pts_nil) (fun _ _ _ _ _ => (C8.pe_c (ok_is_name T) hr (by decide) (by rfl) (pa_cons (pv 1) pa_nil)))) pa_nil)))))))) (pss_one (ps_ret pe_bl)) pss_nil)
      (pss_one (ps_ret (pe_cmpR op_eq (pe_lenSetS (K := K) (by rfl) (f_len T) (by rfl) (f_set T) (pv 0)) (pe_callB (lenK (K := K)) (by rfl) (f_len T) PySem.boot_len (pa_cons (pv 0) pa_nil)) (nomark _))))), ?_⟩
    have hlm : (ns.map V.str).length = ns.length := List.length_map ..
    refine ⟨_, rfl, _, _, true, rfl, .base (.lst ha), rfl, fun H1 s1 => ⟨true, rfl, ?_⟩⟩
    refine ⟨_, rfl, a, _, rfl, .inl (SqL.of (s1 _ _ ha)), 1, _, rfl, rfl, true, ?_, _, _, rfl, rfl, true, ?_, ?_⟩
    · exact bT (by rw [hlm]; omega)
    · exact bT (by rw [hlm]; omega)
    refine ⟨_, rfl, a, rfl, ⟨_, SqL.of (s1 _ _ ha)⟩, fun D nD => ?_⟩
    have fD := s1.free nD
    refine lc_list (K := K) (a := a) (xs := ns.map V.str) (fun i Hc => Same H Hc ∧ Hc D = some (.lst ((List.replicate i true).map V.bl))) ⟨s1.next nD, upd_same⟩ (fun i Hc _ z => SqL.of (z.1 _ _ ha)) ?_ ?_
    · rintro i x Hc hi ⟨sm, eD⟩
      obtain ⟨z, hz, rfl⟩ := strs_at hi
      have hil := (List.getElem?_eq_some_iff.mp hz).1
      refine ⟨rfl, _, rfl, z, rfl, hn.ok z (List.mem_of_getElem? hz), fun H2 s2 => ⟨_, s2 _ _ eD, ?_, (sm.trans s2).into fD, ?_⟩⟩
      · rw [List.length_map, List.length_replicate]
        exact small1000 (by omega)
      · rw [upd_same, List.replicate_succ', List.map_append]
        rfl
    · rintro Hc ⟨sm, eD⟩
      refine ⟨D, _, rfl, SqL.of eD, true, ?_, ?_⟩
      · rw [List.all_replicate]
        simp
      · refine ⟨_, rfl, a, ns, rfl, SqL.of (sm _ _ ha), by omega, _, rfl, a, _, rfl, .inl (SqL.of (sm _ _ ha)), rfl, ?_⟩
        rw [manyS_nodup hn.nd, hlm, decide_eq_true rfl]
        exact q _ sm
theorem ok_is_pair {P : Program} {w : World} {K : PySem.W.Frag} {mg : Str → Option Value} {base : Heap} (T : Top K mg) :
    C8.Cal P w K mg base 2 "is_pair" (spIsPair K) [] := by
  refine cal_of (fd_is_pair T) (g_is_pair T) sc_is_pair bi_is_pair (fun vs H Q E h => ?_) (fun cdv A outer s H vs Q E hr h => ?_)
  · obtain ⟨a, t, ns, x, y, rfl, _⟩ := h
    rfl
  · obtain ⟨a, t, ns, x, y, rfl, ha, ht, hn, hxy, q⟩ := h
    refine ⟨_, (pss_cons (ps_if (PW.pt (pw_or (pt_not (pt_val (C8.pe_c (ok_is_row T) hr (by decide) (by rfl) (pa_cons (pv 1) pa_nil)))) (pw_or (pt_cmpR op_ne (pe_callB (lenK (K := K)) (by rfl) (f_len T) PySem.boot_len (pa_cons (pv 1) pa_nil)) pe_int (nomark _)) (pw_or1 (pt_not (pt_val (pe_callB (allK (K := K) rfl) (by rfl) (f_all T) (by decide +kernel) (pa_cons (pe_lc (own := [("one", 2)]) (g := gName 2) (by rfl) sc_is_pair.nd (pi_tup (pv 1)) (blkOk_by (own := [("one", 2)]) (N := ["points", "thing", "one"]) (sc := defScope s_is_pair) (by decide +kernel)) (fun _ _ _ _ _ => (pg_name (i := 2) sc_is_pair.nd rfl (by first | exact Or.inl rfl | exact Or.inr rfl))) (fun _ _ _ _ _ => pts_nil) (fun _ _ _ _ _ => (C8.pe_c (ok_is_name T) hr (by decide) (by rfl) (pa_cons (pv 2) pa_nil)))) pa_nil)))))))) (pss_one (ps_ret pe_bl)) pss_nil)
      (pss_one (ps_ret (pe_and (pe_cmpR (inSeq (K := K)) (pe_ix (ixT (K := K)) (pv 1) pe_int (fun _ _ => rfl)) (pv 0) (by with_unfolding_all rfl)) (pe_and (pe_cmpR (inSeq (K := K)) (pe_ix (ixT (K := K)) (pv 1) pe_int (fun _ _ => rfl)) (pv 0) (by with_unfolding_all rfl)) (pe_one (pe_cmpR op_ne (pe_ix (ixT (K := K)) (pv 1) pe_int (fun _ _ => rfl)) (pe_ix (ixT (K := K)) (pv 1) pe_int (fun _ _ => rfl)) (nomark _)))))))), ?_⟩
    refine ⟨_, rfl, _, _, true, rfl, .base (.tup ht), rfl, fun H1 s1 => ⟨true, rfl, ?_⟩⟩
    refine ⟨_, rfl, t, _, rfl, .inr (SqT.of (s1 _ _ ht)), rfl, false, rfl, ?_⟩
    refine ⟨_, rfl, t, rfl, ⟨_, SqT.of (s1 _ _ ht)⟩, fun D nD => ?_⟩
    have fD := s1.free nD
    refine lc_tup (K := K) (a := t) (xs := [.str x, .str y]) (fun i Hc => Same H Hc ∧ i ≤ 2 ∧ Hc D = some (.lst ((List.replicate i true).map V.bl))) ⟨s1.next nD, by omega, upd_same⟩ (fun i Hc _ z => SqT.of (z.1 _ _ ht)) ?_ ?_
    · rintro i v Hc hi ⟨sm, hi2, eD⟩
      obtain ⟨z, hz, rfl, hi3⟩ : ∃ z, IsName z ∧ v = .str z ∧ i < 2 := by
        match i, hi with
        | 0, hi => exact ⟨x, hn x hxy.1, (Option.some.inj hi).symm, by omega⟩
        | 1, hi => exact ⟨y, hn y hxy.2.1, (Option.some.inj hi).symm, by omega⟩
        | i + 2, hi => simp at hi
      refine ⟨rfl, _, rfl, z, rfl, hz, fun H2 s2 => ⟨_, s2 _ _ eD, ?_, (sm.trans s2).into fD, by omega, ?_⟩⟩
      · rw [List.length_map, List.length_replicate]
        exact small1000 (by omega)
      · rw [upd_same, List.replicate_succ', List.map_append]
        rfl
    · rintro Hc ⟨sm, _, eD⟩
      refine ⟨D, _, rfl, SqL.of eD, true, rfl, ?_⟩
      refine ⟨_, rfl, t, _, 0, _, rfl, rfl, SqT.of (sm _ _ ht), rfl, _, rfl, a, _, rfl, .inl (SqL.of (sm _ _ ha)), rfl, flat_strs ns, true, ?_, ?_⟩
      · show V.bl (inV (.str x) (ns.map V.str)) = _
        rw [inV_strs, decide_eq_true hxy.1]
      refine ⟨_, rfl, t, _, 1, _, rfl, rfl, SqT.of (sm _ _ ht), rfl, _, rfl, a, _, rfl, .inl (SqL.of (sm _ _ ha)), rfl, flat_strs ns, true, ?_, ?_⟩
      · show V.bl (inV (.str y) (ns.map V.str)) = _
        rw [inV_strs, decide_eq_true hxy.2.1]
      refine ⟨_, rfl, t, _, 0, _, rfl, rfl, SqT.of (sm _ _ ht), rfl, _, rfl, t, _, 1, _, rfl, rfl, SqT.of (sm _ _ ht), rfl, rfl, ?_⟩
      have hne : ¬ (V.str x = V.str y) := fun e => hxy.2.2 (V.str.inj e)
      rw [decide_eq_false hne]
      exact q _ sm
theorem ok_Web_init {P : Program} {w : World} {K : PySem.W.Frag} {mg : Str → Option Value} {base : Heap} (T : Top K mg) :
    C8.Mak P w K mg base 3 "Web" (He.ga K "Web") (spWebInit K) [] := by
  refine mak_of (mk_Web T) (g_Web T) (fd_Web_init T) sc_Web_init bi_Web_init (fun vs H Q E h => ?_) (fun cdv A outer s H vs Q E hr h => ?_)
  · obtain ⟨x, dx, a, b, ns, ats, rfl, _⟩ := h
    rfl
  · obtain ⟨x, dx, a, b, ns, ats, rfl, hx, ha, hb, hT, ok, q⟩ := h
    refine ⟨_, (pss_cons (ps_if (pt_not (pt_val (C8.pe_c (ok_are_names T) hr (by decide) (by rfl) (pa_cons (pv 1) pa_nil)))) (pss_one ps_never) pss_nil)
      (pss_cons (ps_if (PW.pt (pw_or (pt_not (pt_val (C8.pe_c (ok_is_row T) hr (by decide) (by rfl) (pa_cons (pv 2) pa_nil)))) (pw_or (pt_cmpR op_gt (pe_callB (lenK (K := K)) (by rfl) (f_len T) PySem.boot_len (pa_cons (pv 2) pa_nil)) (C8.pe_gc (by rfl) (c_MOST_TIES T)) (nomark _)) (pw_or1 (pt_not (pt_val (pe_callB (allK (K := K) rfl) (by rfl) (f_all T) (by decide +kernel) (pa_cons (pe_lc (own := [("tie", 3)]) (g := gName 3) (by rfl) sc_Web_init.nd (pi_list (pv 2)) (blkOk_by (own := [("tie", 3)]) (N := ["self", "points", "ties", "tie"]) (sc := defScope s_Web_init) (by decide +kernel)) (fun _ _ _ _ _ => (pg_name (i := 3) sc_Web_init.nd rfl (by first | exact Or.inl rfl | exact Or.inr rfl))) (fun _ _ _ _ _ => pts_nil) (fun _ _ _ _ _ => (C8.pe_c (ok_is_pair T) hr (by decide) (by rfl) (pa_cons (pv 1) (pa_cons (pv 3) pa_nil))))) pa_nil)))))))) (pss_one ps_never) pss_nil)
      (pss_cons (ps_fld (pv 0) (pe_callTy (listK (K := K)) (by rfl) (f_list T) (by decide +kernel) (pa_cons (pv 1) pa_nil)) rfl)
      (pss_one (ps_fld (pv 0) (pe_lc (own := [("tie", 3)]) (g := gName 3) (by rfl) sc_Web_init.nd (pi_list (pv 2)) (blkOk_by (own := [("tie", 3)]) (N := ["self", "points", "ties", "tie"]) (sc := defScope s_Web_init) (by decide +kernel)) (fun _ _ _ _ _ => (pg_name (i := 3) sc_Web_init.nd rfl (by first | exact Or.inl rfl | exact Or.inr rfl))) (fun _ _ _ _ _ => pts_nil) (fun _ _ _ _ _ => (pe_callTy (tupK (K := K)) (by rfl) (f_tuple T) (by decide +kernel) (pa_cons (pv 3) pa_nil)))) rfl))))), ?_⟩
    refine ⟨_, rfl, a, ns, rfl, ha, ok.names, ok.n1, ok.n9, fun H1 s1 => ⟨true, rfl, ?_⟩⟩
    refine ⟨_, rfl, _, _, true, rfl, .base (.lst (s1 _ _ hb)), rfl, fun H2 s2' => ⟨true, rfl, ?_⟩⟩
    have s2 := s1.trans s2'
    refine ⟨_, rfl, b, _, rfl, .inl (SqL.of (s2 _ _ hb)), _, _, rfl, rfl, false, ?_, ?_⟩
    · refine bF ?_
      rw [Ats.vals_len]
      have := ok.t20
      omega
    refine ⟨_, rfl, b, rfl, ⟨_, SqL.of (s2 _ _ hb)⟩, fun D nD => ?_⟩
    have fD := s2.free nD
    refine lc_list (K := K) (a := b) (xs := ats.vals) (fun i Hc => Same H Hc ∧ Hc D = some (.lst ((List.replicate i true).map V.bl))) ⟨s2.next nD, upd_same⟩ (fun i Hc _ z => SqL.of (z.1 _ _ hb)) ?_ ?_
    · rintro i v Hc hi ⟨sm, eD⟩
      obtain ⟨⟨t, u, w'⟩, hz, rfl⟩ := Ats.vals_at hi
      have hil := (List.getElem?_eq_some_iff.mp hz).1
      have hm := List.mem_of_getElem? hz
      have := ok.t20
      refine ⟨rfl, _, rfl, _, rfl, a, t, ns, u, w', rfl, sm _ _ ha, sm _ _ (hT _ hm), ok.names.ok, ok.ties _ hm, fun H3 s3 => ⟨_, s3 _ _ eD, ?_, (sm.trans s3).into fD, ?_⟩⟩
      · rw [List.length_map, List.length_replicate]
        exact small1000 (by omega)
      · rw [upd_same, List.replicate_succ', List.map_append]
        rfl
    · rintro H3 ⟨s3, eD⟩
      refine ⟨D, _, rfl, SqL.of eD, true, ?_, ?_⟩
      · rw [List.all_replicate]
        simp
      -- the fields
      refine ⟨_, rfl, a, _, rfl, .inl (SqL.of (s3 _ _ ha)), fun l nl => ?_⟩
      have s4 := s3.next (o := .lst (ns.map V.str)) nl
      have nxl : x ≠ l := ne_of_none hx (s3.free nl)
      refine ⟨_, rfl, x, _, dx, [], rfl, s4 _ _ hx, cl_Web T, na_Web_own_points T, (by show 0 < 1000; decide), ?_⟩
      have kx : ∀ c o, H c = some o → c ≠ x → upd (upd H3 l (.lst (ns.map V.str))) x (.ins (He.ga K "Web") dx (putF "own_points" (.ref l) [])) c = some o := fun c o h n => by
        rw [upd_ne n]
        exact s4 _ _ h
      have nbx : b ≠ x := ne_of hb hx (by intro z; cases z)
      refine ⟨_, rfl, b, rfl, ⟨_, SqL.of (kx _ _ hb nbx)⟩, fun B nB => ?_⟩
      have nBx : B ≠ x := fun e => by
        rw [e, upd_same] at nB
        cases nB
      have nBl : B ≠ l := fun e => by
        rw [e, upd_ne nxl.symm, upd_same] at nB
        cases nB
      have fB : H B = none := by
        cases e : H B with
        | none => rfl
        | some o =>
          rw [kx _ _ e nBx] at nB
          cases nB
      refine lc_list (K := K) (a := b) (xs := ats.vals) (fun i Hc => (∀ c o, H c = some o → c ≠ x → Hc c = some o) ∧ Hc x = some (.ins (He.ga K "Web") dx (putF "own_points" (.ref l) [])) ∧ Hc l = some (.lst (ns.map V.str)) ∧ Hc B = some (.lst (ats.vals.take i)))
        ⟨fun c o h n => by rw [upd_ne (ne_of_none h fB)]; exact kx c o h n, by rw [upd_ne nBx.symm]; exact upd_same, by rw [upd_ne nBl.symm, upd_ne nxl.symm]; exact upd_same, upd_same⟩ (fun i Hc _ z => SqL.of (z.1 _ _ hb nbx)) ?_ ?_
      · rintro i v Hc hi ⟨kc, ex, el, eB⟩
        obtain ⟨⟨t, u, w'⟩, hz, rfl⟩ := Ats.vals_at hi
        have hil := (List.getElem?_eq_some_iff.mp hz).1
        have hm := List.mem_of_getElem? hz
        have ht := hT _ hm
        have := ok.t20
        refine ⟨rfl, _, rfl, t, _, rfl, .inr ⟨SqT.of (kc _ _ ht (ne_of ht hx (by intro z; cases z))), _, eB, ?_, ?_⟩⟩
        · rw [List.length_take, Ats.vals_len]
          exact small1000 (by omega)
        · refine ⟨fun c o h n => by rw [upd_ne (ne_of_none h fB)]; exact kc c o h n, by rw [upd_ne nBx.symm]; exact ex, by rw [upd_ne nBl.symm]; exact el, ?_⟩
          rw [upd_same, take_snoc hi]
      · rintro Hc ⟨kc, ex, el, eB⟩
        rw [List.take_length] at eB
        refine ⟨_, rfl, x, _, dx, _, rfl, ex, cl_Web T, na_Web_own_ties T, (by show 1 < 1000; decide), ?_⟩
        refine q _ (fun c o h n => by rw [upd_ne n]; exact kc c o h n) ⟨dx, l, B, upd_same, ?_, ?_, fun z hz => ?_⟩
        · rw [upd_ne nxl.symm]
          exact el
        · rw [upd_ne nBx]
          exact eB
        · have ht := hT z hz
          have nz := ne_of ht hx (by intro q; cases q)
          rw [upd_ne nz]
          exact kc _ _ ht nz
theorem ok_Web_points {P : Program} {w : World} {K : PySem.W.Frag} {mg : Str → Option Value} {base : Heap} (T : Top K mg) :
    C8.Met P w K mg base 1 (He.ga K "Web") "points" (spPoints K) [] := by
  refine met_of (cl_Web T) (me_Web_points T) (fd_Web_points T) sc_Web_points bi_Web_points (fun vs H Q E h => ?_) (fun cdv A outer s H vs Q E hr h => ?_)
  · obtain ⟨x, ns, ats, rfl, _⟩ := h
    rfl
  · obtain ⟨x, ns, ats, rfl, hW, q⟩ := h
    refine ⟨_, (pss_one (ps_ret (pe_callTy (listK (K := K)) (by rfl) (f_list T) (by decide +kernel) (pa_cons (pe_fldK (K := K) (pv 0) rfl) pa_nil)))), ?_⟩
    obtain ⟨dx, a, b, h1, h2, h3, h4⟩ := hW
    exact ⟨_, rfl, x, _, dx, _, _, rfl, h1, cl_Web T, na_Web_own_points T, wf_points a b, a, _, rfl, .inl (SqL.of h2), q⟩
theorem ok_Web_ties {P : Program} {w : World} {K : PySem.W.Frag} {mg : Str → Option Value} {base : Heap} (T : Top K mg) :
    C8.Met P w K mg base 1 (He.ga K "Web") "ties" (spTies K) [] := by
  refine met_of (cl_Web T) (me_Web_ties T) (fd_Web_ties T) sc_Web_ties bi_Web_ties (fun vs H Q E h => ?_) (fun cdv A outer s H vs Q E hr h => ?_)
  · obtain ⟨x, ns, ats, rfl, _⟩ := h
    rfl
  · obtain ⟨x, ns, ats, rfl, hW, q⟩ := h
    refine ⟨_, (pss_one (ps_ret (pe_callTy (listK (K := K)) (by rfl) (f_list T) (by decide +kernel) (pa_cons (pe_fldK (K := K) (pv 0) rfl) pa_nil)))), ?_⟩
    obtain ⟨dx, a, b, h1, h2, h3, h4⟩ := hW
    exact ⟨_, rfl, x, _, dx, _, _, rfl, h1, cl_Web T, na_Web_own_ties T, wf_ties a b, b, _, rfl, .inl (SqL.of h3), q⟩
theorem ok_Web_many {P : Program} {w : World} {K : PySem.W.Frag} {mg : Str → Option Value} {base : Heap} (T : Top K mg) :
    C8.Met P w K mg base 1 (He.ga K "Web") "many" (spMany K) [] := by
  refine met_of (cl_Web T) (me_Web_many T) (fd_Web_many T) sc_Web_many bi_Web_many (fun vs H Q E h => ?_) (fun cdv A outer s H vs Q E hr h => ?_)
  · obtain ⟨x, ns, ats, rfl, _⟩ := h
    rfl
  · obtain ⟨x, ns, ats, rfl, hW, q⟩ := h
    refine ⟨_, (pss_one (ps_ret (pe_callB (lenK (K := K)) (by rfl) (f_len T) PySem.boot_len (pa_cons (pe_fldK (K := K) (pv 0) rfl) pa_nil)))), ?_⟩
    obtain ⟨dx, a, b, h1, h2, h3, h4⟩ := hW
    refine ⟨_, rfl, x, _, dx, _, _, rfl, h1, cl_Web T, na_Web_own_ties T, wf_ties a b, b, _, rfl, .inl (SqL.of h3), ?_⟩
    rw [Ats.vals_len]
    exact q
end PW

namespace PW
open PySem PySem.Spec PyProof.Rows L2
/-! ### reaching, plainly -/
inductive Rch (E : Str → Str → Prop) (s : Str) : Str → Prop
  | refl : Rch E s s
  | step {x y : Str} : Rch E s x → E x y → Rch E s y
theorem Rch.trans {E : Str → Str → Prop} {a b c : Str} (h : Rch E a b) (g : Rch E b c) : Rch E a c := by
  induction g with
  | refl => exact h
  | step _ e ih => exact .step ih e
theorem Rch.head {E : Str → Str → Prop} {a b c : Str} (e : E a b) (g : Rch E b c) : Rch E a c := (Rch.step .refl e).trans g
theorem Rch.symm {E : Str → Str → Prop} (sy : ∀ x y, E x y → E y x) {a b : Str} (h : Rch E a b) : Rch E b a := by
  induction h with
  | refl => exact .refl
  | step _ e ih => exact Rch.head (sy _ _ e) ih
theorem Rch.mem {E : Str → Str → Prop} {ns : List Str} {a b : Str} (h : Rch E a b) (ha : a ∈ ns) (he : ∀ x y, E x y → y ∈ ns) : b ∈ ns := by
  cases h with
  | refl => exact ha
  | step _ e => exact he _ _ e
theorem Rch.closed {E : Str → Str → Prop} {S : List Str} {a b : Str} (h : Rch E a b) (ha : a ∈ S) (hc : ∀ x y, x ∈ S → E x y → y ∈ S) : b ∈ S := by
  induction h with
  | refl => exact ha
  | step _ e ih => exact hc _ _ ih e
noncomputable def rchB (E : Str → Str → Prop) (s x : Str) : Bool := @decide (Rch E s x) (Classical.propDecidable _)
theorem rchB_iff {E : Str → Str → Prop} {s x : Str} : rchB E s x = true ↔ Rch E s x := by
  unfold rchB
  exact @decide_eq_true_iff _ (Classical.propDecidable _)
noncomputable def hangL (ns : List Str) (E : Str → Str → Prop) (s : Str) : List Str := ns.filter fun x => rchB E s x
theorem filter_hang {ns S : List Str} {E : Str → Str → Prop} {s : Str} (h : ∀ x ∈ ns, x ∈ S ↔ Rch E s x) : (ns.filter fun x => decide (x ∈ S)) = hangL ns E s := by
  unfold hangL
  refine List.filter_congr fun x hx => ?_
  rw [Bool.eq_iff_iff, decide_eq_true_iff, rchB_iff]
  exact h x hx
theorem mem_hangL {ns : List Str} {E : Str → Str → Prop} {s x : Str} : x ∈ hangL ns E s ↔ x ∈ ns ∧ Rch E s x := by
  unfold hangL
  rw [List.mem_filter, rchB_iff]
theorem hangL_congr {ns : List Str} {E E' : Str → Str → Prop} {s t : Str} (h : ∀ x, Rch E s x ↔ Rch E' t x) : hangL ns E s = hangL ns E' t := by
  unfold hangL
  refine List.filter_congr fun x _ => ?_
  rw [Bool.eq_iff_iff, rchB_iff, rchB_iff]
  exact h x
theorem hangL_sublist (ns : List Str) (E : Str → Str → Prop) (s : Str) : (hangL ns E s).Sublist ns := List.filter_sublist
theorem hangL_nodup {ns : List Str} {E : Str → Str → Prop} {s : Str} (h : ns.Nodup) : (hangL ns E s).Nodup := h.sublist (hangL_sublist ns E s)
/-! ### ties as steps, whichever way -/
def Edg (ts : List (Str × Str)) (ok : Nat → Prop) (x y : Str) : Prop := ∃ k t, ok k ∧ ts[k]? = some t ∧ ((x = t.1 ∧ y = t.2) ∨ (x = t.2 ∧ y = t.1))
theorem Edg.symm {ts : List (Str × Str)} {ok : Nat → Prop} (x y : Str) (h : Edg ts ok x y) : Edg ts ok y x := by
  obtain ⟨k, t, h1, h2, h3⟩ := h
  exact ⟨k, t, h1, h2, h3.symm.imp And.symm And.symm⟩
theorem Edg.mem {ts : List (Str × Str)} {ok : Nat → Prop} {ns : List Str} (hv : ∀ t ∈ ts, TieOk ns t) (x y : Str) (h : Edg ts ok x y) : y ∈ ns := by
  obtain ⟨k, t, h1, h2, h3⟩ := h
  have := hv t (List.mem_of_getElem? h2)
  rcases h3 with ⟨rfl, rfl⟩ | ⟨rfl, rfl⟩
  · exact this.2.1
  · exact this.1
theorem Edg.congr {ts : List (Str × Str)} {ok ok' : Nat → Prop} (h : ∀ k, k < ts.length → (ok k ↔ ok' k)) : Edg ts ok = Edg ts ok' := by
  funext x y
  refine propext ⟨fun ⟨k, t, h1, h2, h3⟩ => ⟨k, t, (h k (List.getElem?_eq_some_iff.mp h2).1).mp h1, h2, h3⟩, fun ⟨k, t, h1, h2, h3⟩ => ⟨k, t, (h k (List.getElem?_eq_some_iff.mp h2).1).mpr h1, h2, h3⟩⟩
/-- the search: ms met, the first k of them looked at -/
structure Bfs (ns : List Str) (E : Str → Str → Prop) (s : Str) (ms : List Str) (k : Nat) : Prop where
  nd : ms.Nodup
  inn : ∀ x ∈ ms, x ∈ ns
  rch : ∀ x ∈ ms, Rch E s x
  st : s ∈ ms
  done : ∀ i x, i < k → ms[i]? = some x → ∀ y, E x y → y ∈ ms
theorem Bfs.init {ns : List Str} {E : Str → Str → Prop} {s : Str} (h : s ∈ ns) : Bfs ns E s [s] 0 :=
  ⟨List.nodup_cons.mpr ⟨by simp, List.nodup_nil⟩, fun x hx => by rw [List.mem_singleton.mp hx]; exact h, fun x hx => by rw [List.mem_singleton.mp hx]; exact .refl, List.mem_singleton.mpr rfl, fun i x hi => absurd hi (Nat.not_lt_zero _)⟩
theorem Bfs.add {ns : List Str} {E : Str → Str → Prop} {s : Str} {ms : List Str} {k : Nat} (B : Bfs ns E s ms k) {x y : Str} (hx : x ∈ ms) (he : E x y) (hy : y ∉ ms) (hn : y ∈ ns) (hk : k ≤ ms.length) : Bfs ns E s (ms ++ [y]) k where
  nd := by
    rw [List.nodup_append]
    refine ⟨B.nd, List.nodup_cons.mpr ⟨by simp, List.nodup_nil⟩, fun a ha b hb e => ?_⟩
    rw [List.mem_singleton.mp hb] at e
    exact hy (e ▸ ha)
  inn := fun z hz => by
    rcases List.mem_append.mp hz with hz | hz
    · exact B.inn z hz
    · rw [List.mem_singleton.mp hz]
      exact hn
  rch := fun z hz => by
    rcases List.mem_append.mp hz with hz | hz
    · exact B.rch z hz
    · rw [List.mem_singleton.mp hz]
      exact .step (B.rch x hx) he
  st := List.mem_append_left _ B.st
  done := fun i z hi hz w hw => by
    rw [List.getElem?_append_left (by omega)] at hz
    exact List.mem_append_left _ (B.done i z hi hz w hw)
theorem Bfs.len {ns : List Str} {E : Str → Str → Prop} {s : Str} {ms : List Str} {k : Nat} (B : Bfs ns E s ms k) : ms.length ≤ ns.length := nodup_len B.nd B.inn
theorem Bfs.next {ns : List Str} {E : Str → Str → Prop} {s : Str} {ms : List Str} {k : Nat} (B : Bfs ns E s ms k) {x : Str} (hx : ms[k]? = some x) (h : ∀ y, E x y → y ∈ ms) : Bfs ns E s ms (k + 1) :=
  ⟨B.nd, B.inn, B.rch, B.st, fun i z hi hz => by
    by_cases e : i = k
    · subst e
      rw [hx] at hz
      cases hz
      exact h
    · exact B.done i z (by omega) hz⟩
theorem Bfs.all {ns : List Str} {E : Str → Str → Prop} {s : Str} {ms : List Str} (B : Bfs ns E s ms ms.length) (x : Str) : x ∈ ms ↔ Rch E s x :=
  ⟨B.rch x, fun h => h.closed B.st fun a b ha hb => by
    obtain ⟨i, hi, e⟩ := List.getElem_of_mem ha
    exact B.done i a hi (by rw [← e]; exact List.getElem?_eq_getElem hi) b hb⟩
/-! ### the law's own rounds -/
/-- one look at a tie -/
def look (ts : List (Str × Str)) (ok : Nat → Bool) (fs : List Str) (k : Nat) : List Str := match ts[k]? with
  | some t => if ok k = true ∧ decide (t.1 ∈ fs) ≠ decide (t.2 ∈ fs) then fs ++ [t.1, t.2] else fs
  | none => fs
/-- a round over the first k ties -/
def roundS (ts : List (Str × Str)) (ok : Nat → Bool) (fs : List Str) : Nat → List Str
  | 0 => fs
  | k + 1 => look ts ok (roundS ts ok fs k) k
def roundsS (ts : List (Str × Str)) (ok : Nat → Bool) (s : Str) : Nat → List Str
  | 0 => [s]
  | i + 1 => roundS ts ok (roundsS ts ok s i) ts.length
theorem look_sub (ts : List (Str × Str)) (ok : Nat → Bool) (fs : List Str) (k : Nat) : ∀ x ∈ fs, x ∈ look ts ok fs k := fun x hx => by
  unfold look
  split
  · split
    · exact List.mem_append_left _ hx
    · exact hx
  · exact hx
theorem roundS_sub (ts : List (Str × Str)) (ok : Nat → Bool) (fs : List Str) : ∀ k, ∀ x ∈ fs, x ∈ roundS ts ok fs k
  | 0, x, hx => hx
  | k + 1, x, hx => look_sub ts ok _ k x (roundS_sub ts ok fs k x hx)
theorem look_rch {ts : List (Str × Str)} {ok : Nat → Bool} {s : Str} {fs : List Str} {k : Nat} (h : ∀ x ∈ fs, Rch (Edg ts fun j => ok j = true) s x) : ∀ x ∈ look ts ok fs k, Rch (Edg ts fun j => ok j = true) s x := fun x hx => by
  unfold look at hx
  split at hx
  · rename_i t e
    split at hx
    · rename_i hc
      rcases List.mem_append.mp hx with hx | hx
      · exact h x hx
      · have e1 : Edg ts (fun j => ok j = true) t.1 t.2 := ⟨k, t, hc.1, e, .inl ⟨rfl, rfl⟩⟩
        by_cases h1 : t.1 ∈ fs
        · rcases List.mem_cons.mp hx with rfl | hx
          · exact h _ h1
          · rw [List.mem_singleton.mp hx]
            exact .step (h _ h1) e1
        · have h2 : t.2 ∈ fs := by
            have := hc.2
            rw [decide_eq_false h1] at this
            by_cases z : t.2 ∈ fs
            · exact z
            · rw [decide_eq_false z] at this
              exact absurd rfl this
          rcases List.mem_cons.mp hx with rfl | hx
          · exact .step (h _ h2) (Edg.symm _ _ e1)
          · rw [List.mem_singleton.mp hx]
            exact h _ h2
    · exact h x hx
  · exact h x hx
theorem roundS_rch {ts : List (Str × Str)} {ok : Nat → Bool} {s : Str} {fs : List Str} (h : ∀ x ∈ fs, Rch (Edg ts fun j => ok j = true) s x) : ∀ k, ∀ x ∈ roundS ts ok fs k, Rch (Edg ts fun j => ok j = true) s x
  | 0 => h
  | k + 1 => look_rch (roundS_rch h k)
theorem roundsS_rch {ts : List (Str × Str)} {ok : Nat → Bool} {s : Str} : ∀ i, ∀ x ∈ roundsS ts ok s i, Rch (Edg ts fun j => ok j = true) s x
  | 0 => fun x hx => by
    rw [List.mem_singleton.mp hx]
    exact .refl
  | i + 1 => roundS_rch (roundsS_rch i) _
/-- how many of the points are there -/
def cnt (ns fs : List Str) : Nat := (ns.filter fun x => decide (x ∈ fs)).length
theorem cnt_le (ns fs : List Str) : cnt ns fs ≤ ns.length := List.length_filter_le ..
theorem cnt_mono : ∀ {ns fs gs : List Str}, (∀ x ∈ fs, x ∈ gs) → cnt ns fs ≤ cnt ns gs
  | [], _, _, _ => Nat.le_refl _
  | x :: ns, fs, gs, h => by
    have ih := cnt_mono (ns := ns) h
    unfold cnt at ih ⊢
    rw [List.filter_cons, List.filter_cons]
    by_cases h1 : x ∈ fs
    · rw [decide_eq_true h1, decide_eq_true (h x h1)]
      exact Nat.succ_le_succ ih
    · rw [decide_eq_false h1]
      by_cases h2 : x ∈ gs
      · rw [decide_eq_true h2]
        exact Nat.le_succ_of_le ih
      · rw [decide_eq_false h2]
        exact ih
theorem cnt_lt : ∀ {ns fs gs : List Str} {y : Str}, (∀ x ∈ fs, x ∈ gs) → y ∈ ns → y ∉ fs → y ∈ gs → cnt ns fs < cnt ns gs
  | [], _, _, _, _, hy, _, _ => by simp at hy
  | x :: ns, fs, gs, y, h, hy, h1, h2 => by
    by_cases e : y = x
    · subst e
      have := cnt_mono (ns := ns) h
      unfold cnt at this ⊢
      rw [List.filter_cons, List.filter_cons, decide_eq_false h1, decide_eq_true h2]
      exact Nat.lt_succ_of_le this
    · have hy2 : y ∈ ns := (List.mem_cons.mp hy).resolve_left e
      have ih := cnt_lt h hy2 h1 h2
      unfold cnt at ih ⊢
      rw [List.filter_cons, List.filter_cons]
      by_cases h3 : x ∈ fs
      · rw [decide_eq_true h3, decide_eq_true (h x h3)]
        exact Nat.succ_lt_succ ih
      · rw [decide_eq_false h3]
        by_cases h4 : x ∈ gs
        · rw [decide_eq_true h4]
          exact Nat.lt_succ_of_lt ih
        · rw [decide_eq_false h4]
          exact ih
/-- closed by the ties -/
def Shutd (ts : List (Str × Str)) (ok : Nat → Bool) (fs : List Str) (n : Nat) : Prop := ∀ k t, k < n → ts[k]? = some t → ok k = true → (t.1 ∈ fs ↔ t.2 ∈ fs)
theorem roundS_same {ts : List (Str × Str)} {ok : Nat → Bool} {fs : List Str} : ∀ {n : Nat}, Shutd ts ok fs n → roundS ts ok fs n = fs
  | 0, _ => rfl
  | n + 1, h => by
    have ih := roundS_same (n := n) fun k t hk => h k t (Nat.lt_succ_of_lt hk)
    show look ts ok (roundS ts ok fs n) n = fs
    rw [ih]
    unfold look
    split
    · rename_i t e
      rw [if_neg]
      rintro ⟨h1, h2⟩
      exact h2 (decide_eq_decide.mpr (h n t (Nat.lt_succ_self _) e h1))
    · rfl
theorem roundS_more {ns : List Str} {ts : List (Str × Str)} {ok : Nat → Bool} {fs : List Str} (hv : ∀ t ∈ ts, TieOk ns t) : ∀ {n : Nat}, Shutd ts ok fs n ∨ cnt ns fs < cnt ns (roundS ts ok fs n)
  | 0 => .inl fun k t hk => absurd hk (Nat.not_lt_zero _)
  | n + 1 => by
    rcases roundS_more (n := n) hv with h | h
    · have e := roundS_same h
      by_cases hs : Shutd ts ok fs (n + 1)
      · exact .inl hs
      · refine .inr ?_
        show cnt ns fs < cnt ns (look ts ok (roundS ts ok fs n) n)
        rw [e]
        have hx : ∃ t, ts[n]? = some t ∧ ok n = true ∧ ¬ (t.1 ∈ fs ↔ t.2 ∈ fs) := by
          refine Classical.byContradiction fun q => hs fun k t hk ht ho => ?_
          by_cases ek : k = n
          · subst ek
            exact Classical.byContradiction fun z => q ⟨t, ht, ho, z⟩
          · exact h k t (by omega) ht ho
        obtain ⟨t, ht, ho, hne⟩ := hx
        have hok := hv t (List.mem_of_getElem? ht)
        have el : look ts ok fs n = fs ++ [t.1, t.2] := by
          unfold look
          rw [ht]
          show (if ok n = true ∧ decide (t.1 ∈ fs) ≠ decide (t.2 ∈ fs) then fs ++ [t.1, t.2] else fs) = _
          rw [if_pos ⟨ho, fun z => hne (decide_eq_decide.mp z)⟩]
        rw [el]
        by_cases h1 : t.1 ∈ fs
        · have h2 : t.2 ∉ fs := fun z => hne ⟨fun _ => z, fun _ => h1⟩
          exact cnt_lt (fun x hx => List.mem_append_left _ hx) hok.2.1 h2 (by simp)
        · exact cnt_lt (fun x hx => List.mem_append_left _ hx) hok.1 h1 (by simp)
    · exact .inr (Nat.lt_of_lt_of_le h (cnt_mono (look_sub ts ok _ n)))
theorem roundsS_shut {ns : List Str} {ts : List (Str × Str)} {ok : Nat → Bool} {s : Str} (hs : s ∈ ns) (hv : ∀ t ∈ ts, TieOk ns t) : ∀ i, Shutd ts ok (roundsS ts ok s i) ts.length ∨ i < cnt ns (roundsS ts ok s i)
  | 0 => .inr (List.length_pos_of_mem (a := s) (List.mem_filter.mpr ⟨hs, decide_eq_true (List.mem_singleton.mpr rfl)⟩))
  | i + 1 => by
    rcases roundsS_shut (i := i) hs hv with h | h
    · refine .inl ?_
      show Shutd ts ok (roundS ts ok (roundsS ts ok s i) ts.length) ts.length
      rw [roundS_same h]
      exact h
    · rcases roundS_more (n := ts.length) (ok := ok) (fs := roundsS ts ok s i) hv with g | g
      · refine .inl ?_
        show Shutd ts ok (roundS ts ok (roundsS ts ok s i) ts.length) ts.length
        rw [roundS_same g]
        exact g
      · exact .inr (Nat.lt_of_le_of_lt h g)
theorem roundsS_all {ns : List Str} {ts : List (Str × Str)} {ok : Nat → Bool} {s : Str} (hs : s ∈ ns) (hv : ∀ t ∈ ts, TieOk ns t) (x : Str) : x ∈ roundsS ts ok s ns.length ↔ Rch (Edg ts fun j => ok j = true) s x := by
  refine ⟨roundsS_rch _ x, fun h => ?_⟩
  have hsh : Shutd ts ok (roundsS ts ok s ns.length) ts.length := by
    rcases roundsS_shut hs hv ns.length with h | h
    · exact h
    · exact absurd (cnt_le ns _) (Nat.not_le_of_lt h)
  have hst : ∀ i, s ∈ roundsS ts ok s i := fun i => by
    induction i with
    | zero => exact List.mem_singleton.mpr rfl
    | succ i ih => exact roundS_sub ts ok _ _ s ih
  refine h.closed (hst _) fun a b ha ⟨k, t, hk, ht, hd⟩ => ?_
  have hi := hsh k t (List.getElem?_eq_some_iff.mp ht).1 ht hk
  rcases hd with ⟨rfl, rfl⟩ | ⟨rfl, rfl⟩
  · exact hi.mp ha
  · exact hi.mpr ha
end PW

namespace PW
open PySem PySem.Spec PyProof.Rows L2
/-! ### plain data: texts, ints, None, lists and tuples of such -/
inductive Plain : Nat → PyData → Prop
  | str {n : Nat} {x : Str} : PyData.strOk x = true → Plain n (.str x)
  | int {n : Nat} (i : Int) : Plain n (.int i)
  | non {n : Nat} : Plain n .none
  | list {n : Nat} {ds : List PyData} : (∀ d, d ∈ ds → Plain n d) → Plain (n + 1) (.list ds)
  | tuple {n : Nat} {ds : List PyData} : (∀ d, d ∈ ds → Plain n d) → Plain (n + 1) (.tuple ds)
theorem lay_all {ds : List PyData} (h : ∀ d, d ∈ ds → d.canLay0 = true) : PyData.canLayAll0 ds = true := by
  induction ds with
  | nil => rfl
  | cons x r ih =>
    show (x.canLay0 && PyData.canLayAll0 r) = true
    rw [h x List.mem_cons_self, ih fun d hd => h d (List.mem_cons_of_mem _ hd)]
    rfl
theorem depth_all {n : Nat} {ds : List PyData} (h : ∀ d, d ∈ ds → d.depth ≤ n) : PyData.depthAll ds ≤ n := by
  induction ds with
  | nil => exact Nat.zero_le _
  | cons x r ih =>
    show max x.depth (PyData.depthAll r) ≤ n
    exact Nat.max_le.mpr ⟨h x List.mem_cons_self, ih fun d hd => h d (List.mem_cons_of_mem _ hd)⟩
theorem Plain.lay {n : Nat} {d : PyData} (h : Plain n d) : d.canLay0 = true := by
  induction h with
  | str e => exact e
  | int i => rfl
  | non => rfl
  | list _ ih => exact lay_all ih
  | tuple _ ih => exact lay_all ih
theorem Plain.depth_le {n : Nat} {d : PyData} (h : Plain n d) : d.depth ≤ n := by
  induction h with
  | str e => exact Nat.zero_le _
  | int i => exact Nat.zero_le _
  | non => exact Nat.zero_le _
  | list _ ih => exact Nat.succ_le_succ (depth_all ih)
  | tuple _ ih => exact Nat.succ_le_succ (depth_all ih)
theorem Plain.shaped {n : Nat} {d : PyData} (h : Plain n d) (hn : n ≤ 64 := by decide) : SeqAt.shaped d = true := by
  unfold SeqAt.shaped
  rw [h.lay, decide_eq_true (Nat.le_trans h.depth_le hn)]
  rfl
theorem eqvAll_iff {ds es : List PyData} (h : ∀ d, d ∈ ds → ∀ e, e ∈ es → (PyData.eqv d e = true ↔ d = e)) : PyData.eqvAll ds es = true ↔ ds = es := by
  induction ds generalizing es with
  | nil =>
    cases es with
    | nil => exact ⟨fun _ => rfl, fun _ => rfl⟩
    | cons y r => exact ⟨fun z => by simp [PyData.eqvAll] at z, fun z => by cases z⟩
  | cons x r ih =>
    cases es with
    | nil => exact ⟨fun z => by simp [PyData.eqvAll] at z, fun z => by cases z⟩
    | cons y q =>
      rw [PyData.eqvAll, Bool.and_eq_true, h x List.mem_cons_self y List.mem_cons_self, ih fun d hd e he => h d (List.mem_cons_of_mem _ hd) e (List.mem_cons_of_mem _ he)]
      exact ⟨fun ⟨a, b⟩ => by rw [a, b], fun z => ⟨(List.cons.inj z).1, (List.cons.inj z).2⟩⟩
theorem Plain.eqv_iff {n : Nat} {d : PyData} (h : Plain n d) : ∀ {m : Nat} {e : PyData}, Plain m e → (PyData.eqv d e = true ↔ d = e) := by
  induction h with
  | @str n x hx =>
    intro m e g
    cases g with
    | @str _ y _ =>
      rw [PyData.eqv, beq_iff_eq]
      exact ⟨fun z => by rw [z], fun z => PyData.str.inj z⟩
    | int i => exact ⟨fun z => by simp [PyData.eqv] at z, fun z => by cases z⟩
    | non => exact ⟨fun z => by simp [PyData.eqv] at z, fun z => by cases z⟩
    | list _ => exact ⟨fun z => by simp [PyData.eqv] at z, fun z => by cases z⟩
    | tuple _ => exact ⟨fun z => by simp [PyData.eqv] at z, fun z => by cases z⟩
  | @int n i =>
    intro m e g
    cases g with
    | str _ => exact ⟨fun z => by simp [PyData.eqv] at z, fun z => by cases z⟩
    | int j =>
      rw [PyData.eqv, beq_iff_eq]
      exact ⟨fun z => by rw [z], fun z => PyData.int.inj z⟩
    | non => exact ⟨fun z => by simp [PyData.eqv] at z, fun z => by cases z⟩
    | list _ => exact ⟨fun z => by simp [PyData.eqv] at z, fun z => by cases z⟩
    | tuple _ => exact ⟨fun z => by simp [PyData.eqv] at z, fun z => by cases z⟩
  | non =>
    intro m e g
    cases g with
    | str _ => exact ⟨fun z => by simp [PyData.eqv] at z, fun z => by cases z⟩
    | int j => exact ⟨fun z => by simp [PyData.eqv] at z, fun z => by cases z⟩
    | non => exact ⟨fun _ => rfl, fun _ => rfl⟩
    | list _ => exact ⟨fun z => by simp [PyData.eqv] at z, fun z => by cases z⟩
    | tuple _ => exact ⟨fun z => by simp [PyData.eqv] at z, fun z => by cases z⟩
  | @list n ds hd ih =>
    intro m e g
    cases g with
    | str _ => exact ⟨fun z => by simp [PyData.eqv] at z, fun z => by cases z⟩
    | int j => exact ⟨fun z => by simp [PyData.eqv] at z, fun z => by cases z⟩
    | non => exact ⟨fun z => by simp [PyData.eqv] at z, fun z => by cases z⟩
    | @list m es he =>
      rw [PyData.eqv, eqvAll_iff fun d hd e he' => ih d hd (he e he')]
      exact ⟨fun z => by rw [z], fun z => PyData.list.inj z⟩
    | tuple _ => exact ⟨fun z => by simp [PyData.eqv] at z, fun z => by cases z⟩
  | @tuple n ds hd ih =>
    intro m e g
    cases g with
    | str _ => exact ⟨fun z => by simp [PyData.eqv] at z, fun z => by cases z⟩
    | int j => exact ⟨fun z => by simp [PyData.eqv] at z, fun z => by cases z⟩
    | non => exact ⟨fun z => by simp [PyData.eqv] at z, fun z => by cases z⟩
    | list _ => exact ⟨fun z => by simp [PyData.eqv] at z, fun z => by cases z⟩
    | @tuple m es he =>
      rw [PyData.eqv, eqvAll_iff fun d hd e he' => ih d hd (he e he')]
      exact ⟨fun z => by rw [z], fun z => PyData.tuple.inj z⟩
theorem Plain.eqv_self {n : Nat} {d : PyData} (h : Plain n d) : PyData.eqv d d = true := (h.eqv_iff h).mpr rfl
theorem Plain.eqv_ne {n m : Nat} {d e : PyData} (h : Plain n d) (g : Plain m e) (ne : d ≠ e) : PyData.eqv d e = false := by
  cases z : PyData.eqv d e with
  | false => rfl
  | true => exact absurd ((h.eqv_iff g).mp z) ne
/-! ### what stands in the heap, as data -/
theorem dp_map {α : Type} {K : PySem.W.Frag} {H : Hp} {f : α → V} {g : α → PyData} : ∀ {xs : List α}, (∀ x, x ∈ xs → Dp K H (f x) (g x)) → DpAll K H (xs.map f) (xs.map g)
  | [], _ => .nil
  | x :: r, h => .cons (h x List.mem_cons_self) (dp_map fun y hy => h y (List.mem_cons_of_mem _ hy))
def dS (xs : List Str) : PyData := .list (xs.map PyData.str)
def dSS (xs : List (List Str)) : PyData := .list (xs.map dS)
theorem dp_strs {K : PySem.W.Frag} {H : Hp} {a : Addr} {xs : List Str} (h : SqL K H a (xs.map V.str)) : Dp K H (.ref a) (dS xs) := .lst h (dp_map fun x _ => .str x)
theorem strOk_name {x : Str} (h : IsName x) : PyData.strOk x = true := by
  obtain ⟨l, rfl, _, _, hc⟩ := h
  unfold PyData.strOk
  have : (SX.S l).cps = l.toArray := rfl
  simp only [this]
  rw [Array.all_eq_true_iff_forall_mem]
  intro c hcm
  have := hc c (by simpa using hcm)
  unfold Code at this
  simp
  omega
theorem plain_dS {xs : List Str} (h : ∀ x ∈ xs, IsName x) : Plain 1 (dS xs) := .list fun d hd => by
  obtain ⟨x, hx, rfl⟩ := List.mem_map.mp hd
  exact .str (strOk_name (h x hx))
theorem plain_dSS {xs : List (List Str)} (h : ∀ l ∈ xs, ∀ x ∈ l, IsName x) : Plain 2 (dSS xs) := .list fun d hd => by
  obtain ⟨x, hx, rfl⟩ := List.mem_map.mp hd
  exact plain_dS (h x hx)
theorem map_inj {α β : Type} {f : α → β} (hf : ∀ a b, f a = f b → a = b) : ∀ {xs ys : List α}, xs.map f = ys.map f → xs = ys
  | [], [], _ => rfl
  | [], _ :: _, h => by cases h
  | _ :: _, [], h => by cases h
  | x :: xs, y :: ys, h => by
    rw [List.map_cons, List.map_cons] at h
    obtain ⟨h1, h2⟩ := List.cons.inj h
    rw [hf _ _ h1, map_inj hf h2]
theorem dS_inj {xs ys : List Str} (h : dS xs = dS ys) : xs = ys := map_inj (fun _ _ z => PyData.str.inj z) (PyData.list.inj h)
theorem dSS_inj {xs ys : List (List Str)} (h : dSS xs = dSS ys) : xs = ys := map_inj (fun _ _ z => dS_inj z) (PyData.list.inj h)
/-- lists of texts at addresses -/
abbrev Als := List (Addr × List Str)
def Als.vals (l : Als) : List V := l.map fun c => V.ref c.1
def Als.lists (l : Als) : List (List Str) := l.map fun c => c.2
def LstsAt (H : Hp) (l : Als) : Prop := ∀ c ∈ l, H c.1 = some (.lst (c.2.map V.str))
theorem LstsAt.same {H H' : Hp} {l : Als} (h : LstsAt H l) (e : Same H H') : LstsAt H' l := fun c hc => e _ _ (h c hc)
theorem dp_als {K : PySem.W.Frag} {H : Hp} {a : Addr} {l : Als} (h : SqL K H a l.vals) (g : LstsAt H l) : Dp K H (.ref a) (dSS l.lists) := by
  unfold dSS Als.lists
  rw [List.map_map]
  exact .lst h (dp_map fun c hc => dp_strs (SqL.of (g c hc)))
theorem Als.vals_len (l : Als) : l.vals.length = l.length := by
  unfold Als.vals
  rw [List.length_map]
theorem Als.vals_snoc (l : Als) (x : Addr × List Str) : Als.vals (l ++ [x]) = l.vals ++ [V.ref x.1] := by
  unfold Als.vals
  rw [List.map_append]
  rfl
theorem Als.lists_snoc (l : Als) (x : Addr × List Str) : Als.lists (l ++ [x]) = l.lists ++ [x.2] := by
  unfold Als.lists
  rw [List.map_append]
  rfl
theorem Als.vals_at {l : Als} {i : Nat} {v : V} (h : l.vals[i]? = some v) : ∃ x, l[i]? = some x ∧ v = V.ref x.1 := by
  unfold Als.vals at h
  rw [List.getElem?_map] at h
  cases e : l[i]? with
  | none =>
    rw [e] at h
    cases h
  | some x =>
    rw [e] at h
    exact ⟨x, rfl, (Option.some.inj h).symm⟩
def dI (xs : List Int) : PyData := .list (xs.map PyData.int)
theorem dp_ints {K : PySem.W.Frag} {H : Hp} {a : Addr} {xs : List Int} (h : SqL K H a (xs.map V.int)) : Dp K H (.ref a) (dI xs) := .lst h (dp_map fun x _ => .int x)
theorem plain_dI (xs : List Int) : Plain 1 (dI xs) := .list fun d hd => by
  obtain ⟨x, _, rfl⟩ := List.mem_map.mp hd
  exact .int x
theorem dI_inj {xs ys : List Int} (h : dI xs = dI ys) : xs = ys := map_inj (fun _ _ z => PyData.int.inj z) (PyData.list.inj h)
def dBar (p : Nat × List Str) : PyData := .tuple [.int (p.1 : Nat), dS p.2]
def dBars (l : List (Nat × List Str)) : PyData := .list (l.map dBar)
theorem plain_dBar {p : Nat × List Str} (h : ∀ x ∈ p.2, IsName x) : Plain 2 (dBar p) := .tuple fun d hd => by
  rcases List.mem_cons.mp hd with rfl | hd
  · exact .int _
  · rw [List.mem_singleton.mp hd]
    exact plain_dS h
theorem plain_dBars {l : List (Nat × List Str)} (h : ∀ p ∈ l, ∀ x ∈ p.2, IsName x) : Plain 3 (dBars l) := .list fun d hd => by
  obtain ⟨p, hp, rfl⟩ := List.mem_map.mp hd
  exact plain_dBar (h p hp)
end PW

namespace PW
open PySem PySem.Spec PyProof.Rows L2
/-! ### lists or tuples -/
def rowO : Bool → List V → HO
  | true, xs => .lst xs
  | false, xs => .tup xs
theorem rowO.sq {K : PySem.W.Frag} {H : Hp} {a : Addr} {b : Bool} {xs : List V} (h : H a = some (rowO b xs)) : SqL K H a xs ∨ SqT K H a xs := by
  cases b with
  | true => exact .inl (SqL.of h)
  | false => exact .inr (SqT.of h)
theorem rowO.ty {K : PySem.W.Frag} {H : Hp} {a : Addr} {b : Bool} {xs : List V} (h : H a = some (rowO b xs)) : ∃ t, TyX K H (.ref a) t ∧ PySem.W.kitAny K t [.type "list", .type "tuple"] = some true := by
  cases b with
  | true => exact ⟨_, .base (.lst h), rfl⟩
  | false => exact ⟨_, .base (.tup h), rfl⟩
theorem rowO.dp {K : PySem.W.Frag} {H : Hp} {a : Addr} {b : Bool} {xs : List V} {ds : List PyData} (h : H a = some (rowO b xs)) (g : DpAll K H xs ds) : Dp K H (.ref a) (if b then .list ds else .tuple ds) := by
  cases b with
  | true => exact .lst (SqL.of h) g
  | false => exact .tup (SqT.of h) g
/-- a comprehension over a name that holds a list or a tuple -/
theorem lc_row {K : PySem.W.Frag} {a : Addr} {b : Bool} {xs : List V} {j : Nat} {g : TG} {tt : TT} {te : TE} {vs : List Nat} {σ : L2.St} {H : Hp} {Q : VK} (hv : σ[j]? = some (some (.ref a))) (hS : H a = some (rowO b xs))
    (h : ∀ D, H D = none → ∃ Pv : Nat → Hp → Prop, Pv 0 (upd H D (.lst [])) ∧ (∀ i H', Pv i H' → H' a = some (rowO b xs)) ∧
      (∀ i x H', xs[i]? = some x → Pv i H' → g x (wipe σ vs) H' fun σ2 H2 => wipe σ2 vs = wipe σ vs ∧ tt σ2 H2 fun c H3 =>
        if c = true then te σ2 H3 fun y H4 => ∃ acc, H4 D = some (.lst acc) ∧ acc.length < sizeLine ∧ Pv (i + 1) (upd H4 D (.lst (acc ++ [y]))) else Pv (i + 1) H3) ∧ ∀ H', Pv xs.length H' → Q (.ref D) H') :
    tLc (iOr (iList K (tVar j)) (iTup K (tVar j))) g tt te vs σ H Q := by
  cases b with
  | true =>
    refine .inl ⟨_, hv, a, rfl, ⟨_, SqL.of hS⟩, fun D nD => ?_⟩
    obtain ⟨Pv, h0, hl, hs, hd⟩ := h D nD
    exact lc_list (K := K) (a := a) (xs := xs) Pv h0 (fun i H' _ p => SqL.of (hl i H' p)) hs hd
  | false =>
    refine .inr ⟨_, hv, a, rfl, ⟨_, SqT.of hS⟩, fun D nD => ?_⟩
    obtain ⟨Pv, h0, hl, hs, hd⟩ := h D nD
    exact lc_tup (K := K) (a := a) (xs := xs) Pv h0 (fun i H' _ p => SqT.of (hl i H' p)) hs hd
/-! ### pointings -/
def IsTurn (p : Int) : Prop := p = 0 ∨ p = 1
structure PointOk (ats : Ats) (ps : List Int) : Prop where
  len : ps.length = ats.length
  turn : ∀ p ∈ ps, IsTurn p
def lead (t : Str × Str) (p : Int) : Str × Str := if p = 0 then t else (t.2, t.1)
def leadsL (ts : List (Str × Str)) (ps : List Int) : List (Str × Str) := List.zipWith lead ts ps
theorem leadsL_at {ts : List (Str × Str)} {ps : List Int} {i : Nat} {t : Str × Str} {p : Int} (h1 : ts[i]? = some t) (h2 : ps[i]? = some p) : (leadsL ts ps)[i]? = some (lead t p) := by
  unfold leadsL
  rw [List.getElem?_zipWith, h1, h2]
theorem leadsL_len (ts : List (Str × Str)) (ps : List Int) : (leadsL ts ps).length = min ts.length ps.length := by
  unfold leadsL
  rw [List.length_zipWith]
theorem leadsL_mem {ts : List (Str × Str)} {ps : List Int} {l : Str × Str} (h : l ∈ leadsL ts ps) : ∃ t ∈ ts, ∃ p ∈ ps, l = lead t p := by
  obtain ⟨i, hi⟩ := List.getElem?_of_mem h
  unfold leadsL at hi
  rw [List.getElem?_zipWith] at hi
  cases e1 : ts[i]? with
  | none =>
    rw [e1] at hi
    cases hi
  | some t =>
    cases e2 : ps[i]? with
    | none =>
      rw [e1, e2] at hi
      cases hi
    | some p =>
      rw [e1, e2] at hi
      exact ⟨t, List.mem_of_getElem? e1, p, List.mem_of_getElem? e2, (Option.some.inj hi).symm⟩
theorem lead_in {ns : List Str} {t : Str × Str} {p : Int} (h : TieOk ns t) : TieOk ns (lead t p) := by
  unfold lead
  split
  · exact h
  · exact ⟨h.2.1, h.1, fun e => h.2.2 e.symm⟩
theorem leads_in {ns : List Str} {ats : Ats} {ps : List Int} (ok : WebOk ns ats) {l : Str × Str} (h : l ∈ leadsL ats.ties ps) : TieOk ns l := by
  obtain ⟨t, ht, p, _, rfl⟩ := leadsL_mem h
  obtain ⟨y, hy, rfl⟩ := List.mem_map.mp ht
  exact lead_in (ok.ties y hy)
def spIsWhole (K : PySem.W.Frag) : Sp := fun vs H Q _ => ∃ (v : V) (t : Value) (b c : Bool), vs = [v] ∧ TyX K H v t ∧ PySem.W.kitOne K t (.type "int") = some b ∧ PySem.W.kitOne K t (.type "bool") = some c ∧ Q (.bl (b && !c)) H
def spIsTurn (K : PySem.W.Frag) : Sp := fun vs H Q _ => ∃ v : V, vs = [v] ∧ ((∃ i, v = .int i ∧ Q (.bl (decide (0 ≤ i ∧ i ≤ 1))) H) ∨ ∃ (t : Value) (b c : Bool), TyX K H v t ∧ PySem.W.kitOne K t (.type "int") = some b ∧ PySem.W.kitOne K t (.type "bool") = some c ∧ (b && !c) = false ∧ Q (.bl false) H)
def spIsPointing (K : PySem.W.Frag) : Sp := fun vs H Q _ => ∃ (x a : Addr) (b : Bool) (ns : List Str) (ats : Ats) (ps : List Int), vs = [.ref x, .ref a] ∧ WebAt K H x ns ats ∧ WebOk ns ats ∧ H a = some (rowO b (ps.map V.int)) ∧ PointOk ats ps ∧ ∀ H', Same H H' → Q (.bl true) H'
def spWantPointing (K : PySem.W.Frag) : Sp := fun vs H Q _ => ∃ (x a : Addr) (b : Bool) (ns : List Str) (ats : Ats) (ps : List Int), vs = [.ref x, .ref a] ∧ WebAt K H x ns ats ∧ WebOk ns ats ∧ H a = some (rowO b (ps.map V.int)) ∧ PointOk ats ps ∧
  ∀ r H', H r = none → Same H H' → H' r = some (.lst (ps.map V.int)) → Q (.ref r) H'
def spLeadsOf (K : PySem.W.Frag) : Sp := fun vs H Q _ => ∃ (x a : Addr) (ns : List Str) (ats : Ats) (ps : List Int), vs = [.ref x, .ref a] ∧ WebAt K H x ns ats ∧ WebOk ns ats ∧ H a = some (.lst (ps.map V.int)) ∧ PointOk ats ps ∧
  ∀ r (ls : Ats) H', H r = none → Same H H' → H' r = some (.lst ls.vals) → TupsAt H' ls → ls.ties = leadsL ats.ties ps → Q (.ref r) H'
end PW

namespace PW
open PySem PySem.Spec PyProof.Rows L2
/-! ### lots by the bits of a number -/
def bitOf (m k : Nat) : Bool := decide (m / 2 ^ k % 2 = 1)
def pickUp (ns : List Str) (m : Nat) : Nat → List Str
  | 0 => []
  | k + 1 => pickUp ns m k ++ (match ns[k]? with
    | some z => if bitOf m k = true then [z] else []
    | none => [])
def pick (ns : List Str) (m : Nat) : List Str := pickUp ns m ns.length
def lotsUp (ns : List Str) (j : Nat) : List (List Str) := (List.range j).map fun i => pick ns (i + 1)
def lotsL (ns : List Str) : List (List Str) := lotsUp ns (2 ^ ns.length - 2)
theorem pickUp_succ {ns : List Str} {m k : Nat} {z : Str} (h : ns[k]? = some z) : pickUp ns m (k + 1) = pickUp ns m k ++ (if bitOf m k = true then [z] else []) := by
  show pickUp ns m k ++ _ = _
  rw [h]
theorem pickUp_sub (ns : List Str) (m : Nat) : ∀ k, (pickUp ns m k).Sublist (ns.take k)
  | 0 => by
    rw [List.take_zero]
    exact List.Sublist.slnil
  | k + 1 => by
    have ih := pickUp_sub ns m k
    show (pickUp ns m k ++ _).Sublist _
    rw [List.take_add_one]
    refine ih.append ?_
    cases ns[k]? with
    | none => exact List.Sublist.slnil
    | some z =>
      show (if bitOf m k = true then [z] else []).Sublist [z]
      split
      · exact List.Sublist.refl _
      · exact List.nil_sublist _
theorem pick_sub (ns : List Str) (m : Nat) : (pick ns m).Sublist ns := by
  have := pickUp_sub ns m ns.length
  rw [List.take_length] at this
  exact this
theorem pickUp_mem {ns : List Str} {m : Nat} {z : Str} : ∀ {j : Nat}, z ∈ pickUp ns m j ↔ ∃ k, k < j ∧ ns[k]? = some z ∧ bitOf m k = true
  | 0 => ⟨fun h => by simp [pickUp] at h, fun ⟨k, hk, _⟩ => absurd hk (Nat.not_lt_zero _)⟩
  | j + 1 => by
    show z ∈ pickUp ns m j ++ _ ↔ _
    rw [List.mem_append, pickUp_mem (j := j)]
    constructor
    · rintro (⟨k, hk, h1, h2⟩ | h)
      · exact ⟨k, by omega, h1, h2⟩
      · split at h
        · rename_i y e
          split at h
          · rename_i hb
            rw [List.mem_singleton.mp h]
            exact ⟨j, by omega, e, hb⟩
          · simp at h
        · simp at h
    · rintro ⟨k, hk, h1, h2⟩
      by_cases e : k = j
      · subst e
        refine .inr ?_
        rw [h1]
        show z ∈ (if bitOf m k = true then [z] else [])
        rw [if_pos h2]
        exact List.mem_singleton.mpr rfl
      · exact .inl ⟨k, by omega, h1, h2⟩
theorem bits_none {m : Nat} : ∀ {n : Nat}, (∀ k, k < n → bitOf m k = false) → m % 2 ^ n = 0
  | 0, _ => by rw [Nat.pow_zero, Nat.mod_one]
  | n + 1, h => by
    have ih := bits_none (n := n) fun k hk => h k (by omega)
    have h1 : ¬ m / 2 ^ n % 2 = 1 := of_decide_eq_false (h n (Nat.lt_succ_self _))
    have h2 : m / 2 ^ n % 2 = 0 := by omega
    rw [Nat.mod_pow_succ, ih, h2, Nat.mul_zero]
theorem bits_all {m : Nat} : ∀ {n : Nat}, (∀ k, k < n → bitOf m k = true) → m % 2 ^ n = 2 ^ n - 1
  | 0, _ => by rw [Nat.pow_zero, Nat.mod_one]
  | n + 1, h => by
    have ih := bits_all (n := n) fun k hk => h k (by omega)
    have h1 : m / 2 ^ n % 2 = 1 := of_decide_eq_true (h n (Nat.lt_succ_self _))
    have hp : 0 < 2 ^ n := Nat.two_pow_pos n
    rw [Nat.mod_pow_succ, ih, h1, Nat.mul_one, Nat.pow_succ]
    omega
theorem sub_filter : ∀ {l ns : List Str}, l.Sublist ns → ns.Nodup → (ns.filter fun z => decide (z ∈ l)) = l
  | _, _, .slnil, _ => rfl
  | l, y :: ns, .cons _ h, nd => by
    obtain ⟨ny, nr⟩ := List.nodup_cons.mp nd
    rw [List.filter_cons, decide_eq_false (fun z => ny (h.subset z))]
    exact sub_filter h nr
  | y :: l, _ :: ns, .cons₂ _ h, nd => by
    obtain ⟨ny, nr⟩ := List.nodup_cons.mp nd
    rw [List.filter_cons, decide_eq_true List.mem_cons_self]
    show y :: ns.filter _ = y :: l
    congr 1
    rw [← sub_filter h nr]
    refine List.filter_congr fun z hz => ?_
    rw [sub_filter h nr]
    refine decide_eq_decide.mpr ?_
    rw [List.mem_cons]
    exact ⟨fun q => q.resolve_left fun e => ny (e ▸ hz), .inr⟩
structure IsLot (ns lot : List Str) : Prop where
  sub : lot.Sublist ns
  pos : 0 < lot.length
  lt : lot.length < ns.length
theorem pick_lot {ns : List Str} (nd : ns.Nodup) {m : Nat} (h1 : 1 ≤ m) (h2 : m ≤ 2 ^ ns.length - 2) (hn : 1 ≤ ns.length) : IsLot ns (pick ns m) where
  sub := pick_sub ns m
  pos := by
    have hp : 2 ≤ 2 ^ ns.length := by
      calc 2 = 2 ^ 1 := rfl
        _ ≤ 2 ^ ns.length := Nat.pow_le_pow_right (by decide) hn
    have : ∃ k, k < ns.length ∧ bitOf m k = true := by
      refine Classical.byContradiction fun q => ?_
      have := bits_none (m := m) (n := ns.length) fun k hk => by
        cases e : bitOf m k with
        | false => rfl
        | true => exact absurd ⟨k, hk, e⟩ q
      rw [Nat.mod_eq_of_lt (by omega)] at this
      omega
    obtain ⟨k, hk, hb⟩ := this
    exact List.length_pos_of_mem (a := ns[k]) (pickUp_mem.mpr ⟨k, hk, List.getElem?_eq_getElem hk, hb⟩)
  lt := by
    have hp : 2 ≤ 2 ^ ns.length := by
      calc 2 = 2 ^ 1 := rfl
        _ ≤ 2 ^ ns.length := Nat.pow_le_pow_right (by decide) hn
    have : ∃ k, k < ns.length ∧ bitOf m k = false := by
      refine Classical.byContradiction fun q => ?_
      have := bits_all (m := m) (n := ns.length) fun k hk => by
        cases e : bitOf m k with
        | true => rfl
        | false => exact absurd ⟨k, hk, e⟩ q
      rw [Nat.mod_eq_of_lt (by omega)] at this
      omega
    obtain ⟨k, hk, hb⟩ := this
    have hno : ns[k] ∉ pick ns m := fun z => by
      obtain ⟨j, hj, e1, e2⟩ := pickUp_mem.mp z
      have : j = k := Classical.byContradiction fun ne => nodup_ne nd e1 (List.getElem?_eq_getElem hk) ne rfl
      subst this
      rw [hb] at e2
      cases e2
    have := nodup_len (ms := ns[k] :: pick ns m) (ns := ns) (List.nodup_cons.mpr ⟨hno, nd.sublist (pick_sub ns m)⟩) fun z hz => by
      rcases List.mem_cons.mp hz with rfl | hz
      · exact List.getElem_mem hk
      · exact (pick_sub ns m).subset hz
    rw [List.length_cons] at this
    omega
theorem lotsL_lot {ns : List Str} (nd : ns.Nodup) (hn : 1 ≤ ns.length) {lot : List Str} (h : lot ∈ lotsL ns) : IsLot ns lot := by
  obtain ⟨i, hi, rfl⟩ := List.mem_map.mp h
  have := List.mem_range.mp hi
  exact pick_lot nd (by omega) (by omega) hn
theorem lotsUp_succ (ns : List Str) (j : Nat) : lotsUp ns (j + 1) = lotsUp ns j ++ [pick ns (j + 1)] := by
  unfold lotsUp
  rw [List.range_succ, List.map_append]
  rfl
theorem lotsUp_len (ns : List Str) (j : Nat) : (lotsUp ns j).length = j := by
  unfold lotsUp
  rw [List.length_map, List.length_range]
/-- what the program reckons of a bit -/
theorem bit_int (i k : Nat) : decide (V.int (Builtin.bitAnd ((1 + (i : Int)) / 2 ^ ((k : Nat) : Int).toNat) 1) = V.int 1) = bitOf (i + 1) k := by
  rw [bitAnd_m1]
  have e1 : ((k : Nat) : Int).toNat = k := by omega
  have e2 : (1 + (i : Int)) = ((i + 1 : Nat) : Int) := by omega
  have e3 : ((2 : Int) ^ k) = ((2 ^ k : Nat) : Int) := by rw [Int.natCast_pow]; rfl
  rw [e1, e2, e3, ← Int.natCast_ediv]
  unfold bitOf
  generalize (i + 1) / 2 ^ k = d
  refine decide_eq_decide.mpr ⟨fun z => ?_, fun z => ?_⟩
  · have := V.int.inj z
    omega
  · congr 1
    omega
theorem pow_turns (k : Nat) : ((1 : Int) * 2 ^ ((k : Nat) : Int).toNat - 1 - 1).toNat = 2 ^ k - 2 := by
  have e1 : ((k : Nat) : Int).toNat = k := by omega
  have e3 : ((2 : Int) ^ k) = ((2 ^ k : Nat) : Int) := by rw [Int.natCast_pow]; rfl
  rw [e1, e3]
  omega
theorem pow_le9 {k : Nat} (h : k ≤ 9) : 2 ^ k ≤ 512 := by
  calc 2 ^ k ≤ 2 ^ 9 := Nat.pow_le_pow_right (by decide) h
    _ = 512 := rfl
theorem pow_int (k : Nat) : (1 : Int) * 2 ^ ((k : Nat) : Int).toNat = ((2 ^ k : Nat) : Int) := by
  have e1 : ((k : Nat) : Int).toNat = k := by omega
  rw [e1, Int.natCast_pow, Int.one_mul]
  rfl
/-! ### ties that lead into a lot -/
def intoB (lot : List Str) (t : Str × Str) : Bool := !decide (t.1 ∈ lot) && decide (t.2 ∈ lot)
def intoUp (ls : List (Str × Str)) (lot : List Str) : Nat → List Int
  | 0 => []
  | k + 1 => intoUp ls lot k ++ (match ls[k]? with
    | some t => if intoB lot t = true then [(k : Int)] else []
    | none => [])
theorem intoUp_succ {ls : List (Str × Str)} {lot : List Str} {k : Nat} {t : Str × Str} (h : ls[k]? = some t) : intoUp ls lot (k + 1) = intoUp ls lot k ++ (if intoB lot t = true then [(k : Int)] else []) := by
  show intoUp ls lot k ++ _ = _
  rw [h]
theorem intoUp_len (ls : List (Str × Str)) (lot : List Str) : ∀ k, (intoUp ls lot k).length ≤ k
  | 0 => Nat.le_refl _
  | k + 1 => by
    have ih := intoUp_len ls lot k
    show (intoUp ls lot k ++ _).length ≤ k + 1
    rw [List.length_append]
    split
    · split
      · rw [List.length_singleton]
        omega
      · rw [List.length_nil]
        omega
    · rw [List.length_nil]
      omega
def intoL (ls : List (Str × Str)) (lot : List Str) : List Int := intoUp ls lot ls.length
def spAllLots (K : PySem.W.Frag) : Sp := fun vs H Q _ => ∃ (x : Addr) (ns : List Str) (ats : Ats), vs = [.ref x] ∧ WebAt K H x ns ats ∧ WebOk ns ats ∧
  ∀ r (cs : Als) H', Same H H' → H r = none → (∀ c ∈ cs, H c.1 = none ∧ c.1 ≠ r) → H' r = some (.lst cs.vals) → LstsAt H' cs → cs.lists = lotsL ns → Q (.ref r) H'
def spLeadingIn (K : PySem.W.Frag) : Sp := fun vs H Q _ => ∃ (x a l : Addr) (ns : List Str) (ats : Ats) (ps : List Int) (lot : List Str), vs = [.ref x, .ref a, .ref l] ∧ WebAt K H x ns ats ∧ WebOk ns ats ∧ H a = some (.lst (ps.map V.int)) ∧ PointOk ats ps ∧ SqL K H l (lot.map V.str) ∧
  ∀ r H', H r = none → Same H H' → H' r = some (.lst ((intoL (leadsL ats.ties ps) lot).map V.int)) → Q (.ref r) H'
end PW

namespace PW
open PySem PySem.Spec PyProof.Rows L2
theorem ok_is_whole {P : Program} {w : World} {K : PySem.W.Frag} {mg : Str → Option Value} {base : Heap} (T : Top K mg) :
    C8.Cal P w K mg base 1 "is_whole" (spIsWhole K) [] := by
  refine cal_of (fd_is_whole T) (g_is_whole T) sc_is_whole bi_is_whole (fun vs H Q E h => ?_) (fun cdv A outer s H vs Q E hr h => ?_)
  · obtain ⟨v, t, b, c, rfl, _⟩ := h
    rfl
  · obtain ⟨v, t, b, c, rfl, ht, hb, hc, q⟩ := h
    refine ⟨_, (pss_one (ps_ret (pe_and (pe_callB (isiK1 (K := K)) (by rfl) (f_isinstance T) (by decide +kernel) (pa_cons (pv 0) (pa_cons (pe_bltn (v := .ty "int") (by rfl) (f_int T) (by decide +kernel) rfl) pa_nil))) (pe_one (pe_not (pe_callB (isiK1 (K := K)) (by rfl) (f_isinstance T) (by decide +kernel) (pa_cons (pv 0) (pa_cons (pe_bltn (v := .ty "bool") (by rfl) (f_bool T) (by decide +kernel) rfl) pa_nil)))))))), ?_⟩
    refine ⟨v, rfl, _, _, t, _, b, rfl, .ty _, ht, hb, b, rfl, ?_⟩
    cases b with
    | true => exact ⟨v, rfl, _, _, t, _, c, rfl, .ty _, ht, hc, c, rfl, q⟩
    | false => exact q
theorem ok_is_listed {P : Program} {w : World} {K : PySem.W.Frag} {mg : Str → Option Value} {base : Heap} (T : Top K mg) :
    C8.Cal P w K mg base 1 "is_listed" (spIsRow K) [] := by
  refine cal_of (fd_is_listed T) (g_is_listed T) sc_is_listed bi_is_listed (fun vs H Q E h => ?_) (fun cdv A outer s H vs Q E hr h => ?_)
  · obtain ⟨v, t, b, rfl, _⟩ := h
    rfl
  · obtain ⟨v, t, b, rfl, ht, hk, q⟩ := h
    refine ⟨_, (pss_one (ps_ret (pe_callB (isiKT (K := K)) (by rfl) (f_isinstance T) (by decide +kernel) (pa_cons (pv 0) (pa_cons (pe_tup (pa_cons (pe_bltn (v := .ty "list") (by rfl) (f_list T) (by decide +kernel) rfl) (pa_cons (pe_bltn (v := .ty "tuple") (by rfl) (f_tuple T) (by decide +kernel) rfl) pa_nil))) pa_nil))))), ?_⟩
    refine ⟨v, rfl, (by show 2 ≤ sizeLine; decide), fun p np => ⟨v, p, _, t, _, b, rfl, upd_same, .cons (.ty _) (.cons (.ty _) .nil), ht.same (same_new np), hk, q _ (same_new np)⟩⟩
theorem ok_is_turn {P : Program} {w : World} {K : PySem.W.Frag} {mg : Str → Option Value} {base : Heap} (T : Top K mg) :
    C8.Cal P w K mg base 2 "is_turn" (spIsTurn K) [] := by
  refine cal_of (fd_is_turn T) (g_is_turn T) sc_is_turn bi_is_turn (fun vs H Q E h => ?_) (fun cdv A outer s H vs Q E hr h => ?_)
  · obtain ⟨v, rfl, _⟩ := h
    rfl
  · obtain ⟨v, rfl, q⟩ := h
    refine ⟨_, (pss_one (ps_ret (pe_and (C8.pe_c (ok_is_whole T) hr (by decide) (by rfl) (pa_cons (pv 0) pa_nil)) (pe_one (pe_chain op_le op_le pe_int (pv 0) pe_int))))), ?_⟩
    rcases q with ⟨i, rfl, q⟩ | ⟨t, b, c, ht, hb, hc, hbc, q⟩
    · refine ⟨_, rfl, _, _, true, false, rfl, .base (.int i), kit_ty (by decide +kernel), kit_ty (by decide +kernel), true, rfl, ?_⟩
      refine ⟨_, rfl, 0, i, rfl, rfl, _, rfl, ite2 (fun e => ?_) (fun e => ?_)⟩
      · have e1 : 0 ≤ i := of_decide_eq_true e
        refine ⟨i, 1, rfl, rfl, ?_⟩
        rw [show decide (0 ≤ i ∧ i ≤ 1) = decide (i ≤ 1) from decide_eq_decide.mpr ⟨fun z => z.2, fun z => ⟨e1, z⟩⟩] at q
        exact q
      · have e1 : ¬ 0 ≤ i := fun z => e (decide_eq_true z)
        rw [decide_eq_false fun z : 0 ≤ i ∧ i ≤ 1 => e1 z.1] at q
        exact q
    · refine ⟨_, rfl, v, t, b, c, rfl, ht, hb, hc, false, by rw [hbc], q⟩
theorem ok_is_pointing {P : Program} {w : World} {K : PySem.W.Frag} {mg : Str → Option Value} {base : Heap} (T : Top K mg) :
    C8.Cal P w K mg base 3 "is_pointing" (spIsPointing K) [] := by
  refine cal_of (fd_is_pointing T) (g_is_pointing T) sc_is_pointing bi_is_pointing (fun vs H Q E h => ?_) (fun cdv A outer s H vs Q E hr h => ?_)
  · obtain ⟨x, a, b, ns, ats, ps, rfl, _⟩ := h
    rfl
  · obtain ⟨x, a, b, ns, ats, ps, rfl, hW, ok, ha, po, q⟩ := h
    refine ⟨_, (pss_one (ps_ret (pe_and (C8.pe_c (ok_is_listed T) hr (by decide) (by rfl) (pa_cons (pv 1) pa_nil)) (pe_and (pe_cmpR op_eq (pe_callB (lenK (K := K)) (by rfl) (f_len T) PySem.boot_len (pa_cons (pv 1) pa_nil)) (C8.pe_mt0 (ok_Web_many T) hr (by decide) (pv 0)) (nomark _)) (pe_one (pe_callB (allK (K := K) rfl) (by rfl) (f_all T) (by decide +kernel) (pa_cons (pe_lc (own := [("one", 2)]) (g := gName 2) (by rfl) sc_is_pointing.nd (pi_or (pi_listK (K := K) (pv 1)) (pi_tupK (K := K) (pv 1))) (blkOk_by (own := [("one", 2)]) (N := ["web", "thing", "one"]) (sc := defScope s_is_pointing) (by decide +kernel)) (fun _ _ _ _ _ => (pg_name (i := 2) sc_is_pointing.nd rfl (by first | exact Or.inl rfl | exact Or.inr rfl))) (fun _ _ _ _ _ => pts_nil) (fun _ _ _ _ _ => (C8.pe_c (ok_is_turn T) hr (by decide) (by rfl) (pa_cons (pv 2) pa_nil)))) pa_nil))))))), ?_⟩
    obtain ⟨dx, wa, wb, h1, h2, h3, h4⟩ := id hW
    have h20 := ok.t20
    have hpl := po.len
    obtain ⟨t, ht, hk⟩ := rowO.ty (K := K) ha
    refine ⟨_, rfl, _, t, true, rfl, ht, hk, fun H1 s1 => ⟨true, rfl, ?_⟩⟩
    refine ⟨_, rfl, a, _, rfl, rowO.sq (s1 _ _ ha), _, rfl, x, dx, _, rfl, s1 _ _ h1, wf_mm _ _, x, ns, ats, rfl, hW.same s1, rfl, true, ?_, ?_⟩
    · rw [List.length_map, hpl, decide_eq_true rfl]
    refine iteT ?_
    unfold tCB tCons
    refine lc_row (K := K) (a := a) (b := b) (xs := ps.map V.int) rfl (s1 _ _ ha) fun D nD => ?_
    have fD := s1.free nD
    refine ⟨fun i Hc => Same H Hc ∧ Hc D = some (.lst ((List.replicate i true).map V.bl)), ⟨s1.next nD, upd_same⟩, fun i Hc z => z.1 _ _ ha, ?_, ?_⟩
    · rintro i v Hc hi ⟨sm, eD⟩
      obtain ⟨z, hz, rfl⟩ := ints_at hi
      have hil := (List.getElem?_eq_some_iff.mp hz).1
      have hzt := po.turn z (List.mem_of_getElem? hz)
      refine ⟨rfl, _, rfl, _, rfl, .inl ⟨z, rfl, _, eD, ?_, sm.into fD, ?_⟩⟩
      · rw [List.length_map, List.length_replicate]
        exact small1000 (by omega)
      · rw [upd_same, decide_eq_true (show 0 ≤ z ∧ z ≤ 1 by rcases hzt with rfl | rfl <;> decide), List.replicate_succ', List.map_append]
        rfl
    · rintro Hc ⟨sm, eD⟩
      refine ⟨D, _, rfl, SqL.of eD, ?_⟩
      rw [show (List.replicate (ps.map V.int).length true).all id = true by rw [List.all_replicate]; simp]
      exact q _ sm
theorem ok_want_pointing {P : Program} {w : World} {K : PySem.W.Frag} {mg : Str → Option Value} {base : Heap} (T : Top K mg) :
    C8.Cal P w K mg base 4 "want_pointing" (spWantPointing K) [] := by
  refine cal_of (fd_want_pointing T) (g_want_pointing T) sc_want_pointing bi_want_pointing (fun vs H Q E h => ?_) (fun cdv A outer s H vs Q E hr h => ?_)
  · obtain ⟨x, a, b, ns, ats, ps, rfl, _⟩ := h
    rfl
  · obtain ⟨x, a, b, ns, ats, ps, rfl, hW, ok, ha, po, q⟩ := h
    refine ⟨_, (pss_cons (ps_if (pt_not (pt_val (C8.pe_c (ok_is_pointing T) hr (by decide) (by rfl) (pa_cons (pv 0) (pa_cons (pv 1) pa_nil))))) (pss_one ps_never) pss_nil)
      (pss_one (ps_ret (pe_callTy (listK (K := K)) (by rfl) (f_list T) (by decide +kernel) (pa_cons (pv 1) pa_nil))))), ?_⟩
    refine ⟨_, rfl, _, rfl, x, a, b, ns, ats, ps, rfl, hW, ok, ha, po, fun H1 s1 => ⟨true, rfl, ?_⟩⟩
    exact ⟨_, rfl, a, _, rfl, rowO.sq (s1 _ _ ha), fun l nl => q l _ (s1.free nl) (s1.next nl) upd_same⟩
theorem ok_leads_of {P : Program} {w : World} {K : PySem.W.Frag} {mg : Str → Option Value} {base : Heap} (T : Top K mg) :
    C8.Cal P w K mg base 2 "leads_of" (spLeadsOf K) [] := by
  refine cal_of (fd_leads_of T) (g_leads_of T) sc_leads_of bi_leads_of (fun vs H Q E h => ?_) (fun cdv A outer s H vs Q E hr h => ?_)
  · obtain ⟨x, a, ns, ats, ps, rfl, _⟩ := h
    rfl
  · obtain ⟨x, a, ns, ats, ps, rfl, hW, ok, ha, po, q⟩ := h
    refine ⟨_, (pss_cons (ps_set (i := 2) sc_leads_of.nd rfl (by first | exact Or.inl rfl | exact Or.inr rfl) (pe_lst pa_nil))
      (pss_cons (ps_for PassesOwn.never rfl (pi_zip (by rfl) (f_zip T) (pa_cons (C8.pe_mt0 (ok_Web_ties T) hr (by decide) (pv 0)) (pa_cons (pv 1) pa_nil))) (pg_tup (n := 2) rfl (pgs_cons (pg_tup (n := 2) rfl (pgs_cons (pg_name (i := 3) sc_leads_of.nd rfl (by first | exact Or.inl rfl | exact Or.inr rfl)) (pgs_cons (pg_name (i := 4) sc_leads_of.nd rfl (by first | exact Or.inl rfl | exact Or.inr rfl)) pgs_nil))) (pgs_cons (pg_name (i := 5) sc_leads_of.nd rfl (by first | exact Or.inl rfl | exact Or.inr rfl)) pgs_nil))) (pss_one (ps_if (pt_cmpR op_eq (pv 5) pe_int (nomark _)) (pss_one (ps_expr (pe_bmK (K := K) PySem.F.plainAttrs_list PySem.F.slot_list_append PySem.F.type_list_append mt_append (pv 2) (pa_cons (pe_tup (pa_cons (pv 3) (pa_cons (pv 4) pa_nil))) pa_nil)))) (pss_one (ps_expr (pe_bmK (K := K) PySem.F.plainAttrs_list PySem.F.slot_list_append PySem.F.type_list_append mt_append (pv 2) (pa_cons (pe_tup (pa_cons (pv 4) (pa_cons (pv 3) pa_nil))) pa_nil)))))))
      (pss_one (ps_ret (pv 2))))), ?_⟩
    obtain ⟨dx, wa, wb, h1, h2, h3, h4⟩ := id hW
    have h20 := ok.t20
    have hpl := po.len
    refine ⟨Nat.zero_le _, fun f nf => ?_⟩
    have s1 : Same H (upd H f (.lst [])) := same_new nf
    refine ⟨_, rfl, x, dx, _, rfl, s1 _ _ h1, wf_mt _ _, x, ns, ats, rfl, hW.same s1, fun tl ntl => ⟨_, rfl, tl, a, _, _, rfl, SqL.of upd_same, SqL.of (s1.next ntl _ _ ha), ?_⟩⟩
    have s2 := s1.next (o := .lst ats.vals) ntl
    have nft : f ≠ tl := fun e => by
      rw [← e, upd_same] at ntl
      cases ntl
    have naf : a ≠ f := ne_of_none ha nf
    refine for_it (walk_zip (K := K) (a := tl) (b := a) (xs := ats.vals) (ys := ps.map V.int) (n := ats.length) (by rw [Ats.vals_len, List.length_map]; omega)) (fun k σ Hc => ∃ (ls : Ats) (y3 y4 y5 : Option V), σ = [some (.ref x), some (.ref a), some (.ref f), y3, y4, y5] ∧ Same H Hc ∧ Hc tl = some (.lst ats.vals) ∧ Hc f = some (.lst ls.vals) ∧ TupsAt Hc ls ∧ ls.ties = (leadsL ats.ties ps).take k)
      ⟨[], none, none, none, rfl, s2, upd_same, by rw [upd_ne nft]; exact upd_same, TupsAt.nil _, rfl⟩ (fun k σ Hc _ ⟨_, _, _, _, _, z1, z2, _⟩ => ⟨SqL.of z2, SqL.of (z1 _ _ ha)⟩) ?_ ?_
    · rintro k v σ Hc Hc' hk ⟨ls, y3, y4, y5, rfl, sm, etl, ef, hT, hls⟩ ⟨T', x1, x2, rfl, nT, rfl, e1, e2⟩
      obtain ⟨⟨A', u, w'⟩, hA, rfl⟩ := Ats.vals_at e1
      obtain ⟨pt, hpt, rfl⟩ := ints_at e2
      have hm := List.mem_of_getElem? hA
      have gts := Ats.ties_at hA
      have gl := leadsL_at gts hpt
      have htn := po.turn pt (List.mem_of_getElem? hpt)
      have sT : Same Hc (upd Hc T' (.tup [.ref A', .int pt])) := same_new nT
      have smT := sm.trans sT
      have hll : ls.length ≤ k := by
        rw [← Ats.ties_len, hls, List.length_take]
        omega
      refine ⟨T', _, rfl, SqT.of upd_same, rfl, _, _, rfl, A', _, rfl, SqT.of (smT _ _ (h4 _ hm)), rfl, _, _, rfl, _, _, rfl, rfl, _, _, rfl, rfl, ?_⟩
      refine ⟨_, rfl, rfl, _, rfl, ite2 (fun e => ?_) (fun e => ?_)⟩
      · have e0 : pt = 0 := V.int.inj (of_decide_eq_true e)
        refine ⟨_, rfl, .inl ⟨rfl, _, SqL.of (sT _ _ ef)⟩, _, rfl, _, rfl, (by show 2 ≤ sizeLine; decide), fun t nt => ⟨f, _, _, rfl, rfl, same_new nt _ _ (sT _ _ ef), ?_, ?_⟩⟩
        · rw [Ats.vals_len]
          exact small1000 (by omega)
        · have ntf : t ≠ f := (ne_of_none (sT _ _ ef) nt).symm
          refine ⟨ls ++ [(t, u, w')], _, _, _, rfl, (smT.next nt).into nf, ?_, ?_, ?_, ?_⟩
          · rw [upd_ne nft.symm]
            exact same_new nt _ _ (sT _ _ etl)
          · rw [upd_same, Ats.vals_snoc]
          · refine (((hT.same sT).same (same_new nt)).upd (same_new nt _ _ (sT _ _ ef))).snoc ?_
            rw [upd_ne ntf]
            exact upd_same
          · rw [Ats.ties_snoc, hls, take_snoc gl]
            unfold lead
            rw [if_pos e0]
      · have e0 : ¬ pt = 0 := fun z => e (decide_eq_true (by rw [z]))
        refine ⟨_, rfl, .inl ⟨rfl, _, SqL.of (sT _ _ ef)⟩, _, rfl, _, rfl, (by show 2 ≤ sizeLine; decide), fun t nt => ⟨f, _, _, rfl, rfl, same_new nt _ _ (sT _ _ ef), ?_, ?_⟩⟩
        · rw [Ats.vals_len]
          exact small1000 (by omega)
        · have ntf : t ≠ f := (ne_of_none (sT _ _ ef) nt).symm
          refine ⟨ls ++ [(t, w', u)], _, _, _, rfl, (smT.next nt).into nf, ?_, ?_, ?_, ?_⟩
          · rw [upd_ne nft.symm]
            exact same_new nt _ _ (sT _ _ etl)
          · rw [upd_same, Ats.vals_snoc]
          · refine (((hT.same sT).same (same_new nt)).upd (same_new nt _ _ (sT _ _ ef))).snoc ?_
            rw [upd_ne ntf]
            exact upd_same
          · rw [Ats.ties_snoc, hls, take_snoc gl]
            unfold lead
            rw [if_neg e0]
    · rintro σ Hc ⟨ls, y3, y4, y5, rfl, sm, etl, ef, hT, hls⟩
      rw [List.take_of_length_le (by rw [leadsL_len, Ats.ties_len]; omega)] at hls
      exact ⟨_, rfl, q f ls Hc nf sm ef hT hls⟩
end PW

namespace PW
open PySem PySem.Spec PyProof.Rows L2
/-- a web as the law has it: a tuple of its names and its ties -/
structure DatAt (H : Hp) (w a b : Addr) (ns : List Str) (ats : Ats) : Prop where
  tup : H w = some (.tup [.ref a, .ref b])
  nam : H a = some (.lst (ns.map V.str))
  tie : H b = some (.lst ats.vals)
  tups : TupsAt H ats
theorem DatAt.same {H H' : Hp} {w a b : Addr} {ns : List Str} {ats : Ats} (h : DatAt H w a b ns ats) (e : Same H H') : DatAt H' w a b ns ats := ⟨e _ _ h.tup, e _ _ h.nam, e _ _ h.tie, h.tups.same e⟩
theorem DatAt.kp {H H' : Hp} {p w a b : Addr} {ns : List Str} {ats : Ats} (h : DatAt H w a b ns ats) (hp : Pot H p) (na : a ≠ p) (nb : b ≠ p) (e : Kp p H H') : DatAt H' w a b ns ats :=
  ⟨e _ _ (hp.tup_ne h.tup) h.tup, e _ _ na h.nam, e _ _ nb h.tie, h.tups.kp hp e⟩
def spHanded : Sp := fun vs H Q _ => ∃ (p a : Addr) (xs : List V), vs = [.ref p, .ref a] ∧ Pot H p ∧ a ≠ p ∧ H a = some (.lst xs) ∧
  ∀ r b H', H r = none → Kp p H H' → Pot H' p → H' r = some (rowO b xs) → Q (.ref r) H'
def spDrawn : Sp := fun vs H Q _ => ∃ (p w a b : Addr) (ns : List Str) (ats : Ats), vs = [.ref p, .ref w] ∧ Pot H p ∧ a ≠ p ∧ b ≠ p ∧ DatAt H w a b ns ats ∧ WebOk ns ats ∧
  ∀ r ps H', H r = none → Kp p H H' → Pot H' p → H' r = some (.lst (ps.map V.int)) → PointOk ats ps → Q (.ref r) H'
def spLawInto (K : PySem.W.Frag) : Sp := fun vs H Q _ => ∃ (w a b r l : Addr) (ns : List Str) (ats : Ats) (ps : List Int) (lot : List Str), vs = [.ref w, .ref r, .ref l] ∧ DatAt H w a b ns ats ∧ WebOk ns ats ∧ H r = some (.lst (ps.map V.int)) ∧ PointOk ats ps ∧ H l = some (.lst (lot.map V.str)) ∧
  ∀ c H', H c = none → Same H H' → H' c = some (.lst ((intoL (leadsL ats.ties ps) lot).map V.int)) → Q (.ref c) H'
def spLawLots (K : PySem.W.Frag) : Sp := fun vs H Q _ => ∃ (a : Addr) (ns : List Str), vs = [.ref a] ∧ H a = some (.lst (ns.map V.str)) ∧ ns.length ≤ 9 ∧
  ∀ r (cs : Als) H', Same H H' → H r = none → (∀ c ∈ cs, H c.1 = none ∧ c.1 ≠ r) → H' r = some (.lst cs.vals) → LstsAt H' cs → cs.lists = lotsL ns → Q (.ref r) H'
def spLawIsLot (K : PySem.W.Frag) : Sp := fun vs H Q _ => ∃ (w a b l : Addr) (ns : List Str) (ats : Ats) (lot : List Str), vs = [.ref w, .ref l] ∧ DatAt H w a b ns ats ∧ WebOk ns ats ∧ H l = some (.lst (lot.map V.str)) ∧ IsLot ns lot ∧ ∀ H', Same H H' → Q (.bl true) H'
theorem first_at {xs : List Str} {x : Str} (h : x ∈ xs) : ∃ j : Nat, xs[j]? = some x ∧ ∀ (m : Nat) (z : Str), m < j → xs[m]? = some z → z ≠ x := by
  induction xs with
  | nil => simp at h
  | cons y r ih =>
    by_cases e : y = x
    · exact ⟨0, by rw [e]; rfl, fun m z hm => absurd hm (Nat.not_lt_zero _)⟩
    · have hr : x ∈ r := (List.mem_cons.mp h).resolve_left fun q => e q.symm
      obtain ⟨j, h1, h2⟩ := ih hr
      refine ⟨j + 1, h1, fun m z hm hz => ?_⟩
      cases m with
      | zero =>
        have : y = z := Option.some.inj hz
        rw [← this]
        exact e
      | succ m => exact h2 m z (by omega) hz
/-- where a text stands in a list, as the layer asks it -/
theorem index_at {xs : List Str} {x : Str} (h : x ∈ xs) : ∃ (j : Nat) (z : V), (xs.map V.str)[j]? = some z ∧ eqV z (.str x) = true ∧ ∀ (m : Nat) (z' : V), m < j → (xs.map V.str)[m]? = some z' → eqV z' (.str x) = false := by
  obtain ⟨j, h1, h2⟩ := first_at h
  refine ⟨j, .str x, by rw [List.getElem?_map, h1]; rfl, beq_self_eq_true x, fun m z' hm hz => ?_⟩
  obtain ⟨z, hz1, rfl⟩ := strs_at hz
  exact beq_eq_false_iff_ne.mpr (h2 m z hm hz1)
end PW

namespace PW
open PySem PySem.Spec PyProof.Rows L2
/-! ### promises kept where nothing is being shown (repr asks for it) -/
structure FnG (P : Program) (w : World) (K : PySem.W.Frag) (mg : Str → Option Value) (base : Heap) (cx : CXT) (k : Nat) (f : Addr) (fd : FuncData) (ps : List Str) (sp : Sp) : Prop where
  lens : ∀ vs H Q E, sp vs H Q E → vs.length = ps.length
  goes : ∀ (A : Around) (out : List Env) (t : Shared) (H : Hp) (ar : Args) (us : List Value) (vs : List V) (Q : VK) (E : XK), A.guards = some [] → Room k A → Env0 P w K mg base A out t H → BindsTo t fd ar (ps.zip us) → Vals vs us → sp vs H Q E →
    codeAny (model P w) A (.call (.ref f) ar) (CR cx out P w H t Q E) t
section
variable {P : Program} {w : World} {K : PySem.W.Frag} {mg : Str → Option Value} {base : Heap}
abbrev BodyG (cx : CXT) (P : Program) (w : World) (K : PySem.W.Frag) (mg : Str → Option Value) (base : Heap) (N : List Str) (qual : Str) (sc : Scope) (bd : List Stmt) (f : Addr) (k : Nat) (sp : Sp) : Prop :=
  ∀ (cdv : Value) (A : Around) (out : List Env) (t : Shared) (H : Hp) (vs : List V) (Q : VK) (E : XK), A.guards = some [] → Room k (A.deeper (envOfC qual sc t.heap.objs.size f cdv)) → sp vs H Q E →
      ∃ r, PSs (cxOf cx P w K mg base N qual sc f cdv A out t H E) bd r ∧ r { nx := fun _ G => Q .non G, rt := Q } (start N vs) H
theorem fnG_of {cx : CXT} {x qual : Str} {pa : Arguments} {bd : List Stmt} {sc : Scope} {f : Addr} {fd : FuncData} {N ps : List Str} {k : Nat} {sp : Sp} (F : FunD K x qual pa bd sc [] [] f fd) (S : FnScope N ps sc)
    (ln : ∀ vs H Q E, sp vs H Q E → vs.length = ps.length) (hbd : BodyG cx P w K mg base N qual sc bd f k sp) : FnG P w K mg base cx (k + 1) f fd ps sp := by
  obtain ⟨c1, c2, v1, v2, v3, v4, v5, cdv, v6, c3, rfl, at_, isc, _, _⟩ := F.ex
  refine ⟨ln, fun A out t H ar us vs Q E gd rm ev bi rl pr => ?_⟩
  have len1 := ln _ _ _ _ pr
  have inK : K.In t.heap := ev.mod.kin.keeps fun b o z => (ev.bs b o z).1
  have inL : t.heap.NoLimit := ev.mod.nolimit.keeps fun b o z => (ev.bs b o z).1
  have kinds : ∀ y ∈ ps.zip us, sc.names.lookup y.1 = some .local ∨ (sc.names.lookup y.1 = some .cell ∧ ((cellsFrom (t.heap.objs.size + 1) sc.names []).lookup y.1).isSome = true) := fun ⟨n, v⟩ hy =>
    (S.par n (List.of_mem_zip hy).1).imp id fun z => ⟨z, PySem.W.cellsFrom_some _ _ _ (.inl z)⟩
  refine codeAny_call_function rm.depth (inK _ _ at_) rfl S.co S.gen rfl (PySem.W.codeRec_of inK isc) (bi _ _ _ _ (wpAny_newFunctionEnv_cells S.kind kinds fun en he t1 z => ?_))
  subst he
  refine ⟨inL.keeps z.toInCall.keep, codeAny_func ?_⟩
  obtain ⟨r, hr1, hr2⟩ := hbd cdv A out t H vs Q E gd (rm.deeper _) pr
  have I : Inv (cxOf cx P w K mg base N qual sc f cdv A out t H E) [] (start N vs) H t1 := inv_start S rm.hd ev len1 rl z
  refine wpAny_mono (hr1.run [] t1 (start N vs) H _ I hr2) (fun fl t2 got => ?_) fun _ _ got => got
  have ends : ∀ {τ : L2.St} {G : Hp} {v : V} {u : Value}, Inv (cxOf cx P w K mg base N qual sc f cdv A out t H E) [] τ G t2 → RelV v u → Q v G → CE out P w H t Q u t2 := fun {τ G v u} J rv qv => ⟨v, G, J.os, J.bare, J.base, J.hok, rv, qv⟩
  cases fl with
  | ret u =>
    obtain ⟨v, τ, G, J, rv, qv⟩ := got
    exact ends J rv qv
  | next =>
    obtain ⟨τ, G, J, qv⟩ := got
    exact ends (v := V.non) (u := Value.none) J rfl qv
  | brk => exact False.elim got.choose_spec.choose_spec.2
  | cont => exact False.elim got.choose_spec.choose_spec.2
theorem fnG_nox {x qual : Str} {pa : Arguments} {bd : List Stmt} {sc : Scope} {f : Addr} {fd : FuncData} {N ps : List Str} {k : Nat} {sp : Sp} (F : FunD K x qual pa bd sc [] [] f fd) (S : FnScope N ps sc)
    (ln : ∀ vs H Q E, sp vs H Q E → vs.length = ps.length) (hbd : ∀ (cdv : Value) (A : Around) (out : List Env) (t : Shared) (H : Hp) (vs : List V) (Q : VK) (E : XK), A.guards = some [] → Room k (A.deeper (envOfC qual sc t.heap.objs.size f cdv)) → sp vs H Q E →
      ∃ r, PSs (cxOf C8.CX0 P w K mg base N qual sc f cdv A out t H E).nox bd r ∧ r { nx := fun _ G => Q .non G, rt := Q } (start N vs) H) : FnG P w K mg base C8.CX0 (k + 1) f fd ps sp := by
  refine fnG_of F S ln fun cdv A out t H vs Q E gd rm pr => ?_
  obtain ⟨r, a, b⟩ := hbd cdv A out t H vs Q E gd rm pr
  exact ⟨r, a.nox, b⟩
/-- a def of the module that may be called by its name where nothing is being shown -/
structure CalG (P : Program) (w : World) (K : PySem.W.Frag) (mg : Str → Option Value) (base : Heap) (k : Nat) (x : Str) (sp : Sp) : Prop where
  ex : ∃ (f : Addr) (fd : FuncData) (ps : List Str), FnG P w K mg base C8.CX0 k f fd ps sp ∧ mg x = some (.ref f) ∧ PySem.W.keepIn K (.ref f) = true ∧ Binds K fd ps []
theorem calG_of {x : Str} {pa : Arguments} {bd : List Stmt} {sc : Scope} {f : Addr} {N ps : List Str} {k : Nat} {sp : Sp} (F : ∃ fd, FunD K x x pa bd sc [] [] f fd) (hm : mg x = some (.ref f)) (S : FnScope N ps sc)
    (hb : BindOf x x pa bd sc ps) (ln : ∀ vs H Q E, sp vs H Q E → vs.length = ps.length) (hbd : ∀ (cdv : Value) (A : Around) (out : List Env) (t : Shared) (H : Hp) (vs : List V) (Q : VK) (E : XK), A.guards = some [] → Room k (A.deeper (envOfC x sc t.heap.objs.size f cdv)) → sp vs H Q E →
      ∃ r, PSs (cxOf C8.CX0 P w K mg base N x sc f cdv A out t H E).nox bd r ∧ r { nx := fun _ G => Q .non G, rt := Q } (start N vs) H) : CalG P w K mg base (k + 1) x sp := by
  obtain ⟨fd, F⟩ := F
  exact ⟨f, fd, ps, fnG_nox F S ln hbd, hm, F.kp, F.bindsN hb⟩
end
section
variable {X : Cx} {k j : Nat} {x : Str} {sp : Sp} {p pos : Pos} {e : Expr} {es : List Expr} {t : TA}
theorem pe_cG (c : CalG X.prog X.w X.K X.mg X.base k x sp) (gd : X.A.guards = some []) (hr : Room j X.A) (hk : k ≤ j) (hg : Gl X x) (ha : PA X (e :: es) t)
    (hpl : (backTo pos (starEach es X.env)).any (·.1) = false := by rfl) (he : starEach (e :: es) X.env = (false, eval e X.env) :: starEach es X.env := by rfl) (hdb : (x == ("__debug__" : Str)) = false := by decide) :
    PE X (.Call (.Name x p) (e :: es) [] pos) (tCall sp [] C8.E0 t) := by
  obtain ⟨f, fd, ps, F, hm, kp, b⟩ := c.ex
  refine ⟨fun pins s σ H Q I h => wpAny_Call_Name_kw (ld_glob I hg hm ?_ hdb)⟩
  refine PySem.W.callWith_K (h₀ := X.base) I.ok.mod.kin kp (thn (ha.run pos pins s σ H _ I h) fun us s1 ⟨vs, H1, I1, r, q⟩ => ⟨I1.kIn, ?_⟩) he hpl
  have q' : sp vs H1 Q C8.E0 := by
    have z : sp (vs ++ []) H1 Q C8.E0 := q
    rw [List.append_nil] at z
    exact z
  have hl : us.length = ps.length := by rw [← r.length]; exact F.lens _ _ _ _ q'
  have bb := b s1 us I1.kIn (by rw [List.append_nil]; exact hl)
  rw [List.append_nil] at bb
  refine wpAny_call (codeAny_mono (F.goes X.A X.stack s1 H1 ⟨us, []⟩ us vs Q C8.E0 gd (hr.mono hk) I1.env0 bb r q') fun fr s' hq => ?_)
  cases fr with
  | error er => exact (C8.pass0 (X := X) (E := C8.E0)) pins σ H1 s1 er s' I1 hq
  | ok fl =>
    cases fl with
    | ret u => exact I1.after hq
    | next => exact False.elim hq
    | brk => exact False.elim hq
    | cont => exact False.elim hq
/-! ### repr -/
def rRepr (K : PySem.W.Frag) : List V → Hp → VK → Prop := fun xs H Q => (∃ (a : Addr) (d : PyData), xs = [.ref a] ∧ Dp K H (.ref a) d ∧ d.showable = true ∧ d.hasDict = false ∧ d.depth ≤ 64 ∧ d.shown.length ≤ sizeLine ∧ Q (.str d.shown) H) ∨ (xs = [.non] ∧ Q (.str "None") H)
theorem reprK {K : PySem.W.Frag} (gd : X.A.guards = some []) (hu : X.A.units + 65 < cLine) (h : X.K = K := by rfl) : CallR X (.builtin "repr") (rRepr K) := by
  subst h
  intro pins t σ H xs us Q I r q
  rcases q with ⟨a, d, rfl, hd, h1, h2, h3, h4, q⟩ | ⟨rfl, q⟩
  · obtain ⟨u, rfl, ru⟩ := vals1 r
    obtain ⟨as, rd⟩ := Dp.reads I d _ u hd ru
    cases ru
    refine PySem.repr_of_reads' rd h1 (PyData.noDict_hsm h2) gd (by omega) (fun _ _ z => z) (fun h' u tk k => ?_) h4
    exact ⟨.str _, H, I.kept (t' := tk) k, ⟨_, rfl⟩, q⟩
  · obtain ⟨u, rfl, ru⟩ := vals1 r
    cases ru
    exact PySem.P.repr_of_none ⟨.str _, H, I.tok _, ⟨_, rfl⟩, q⟩
end
/-! ### data that can be shown -/
structure Shw (W n : Nat) (d : PyData) : Prop where
  lay : d.canLay0 = true
  shw : d.showable = true
  sml : d.intsShort 13 = true
  wt : d.weight ≤ W
  dp : d.depth ≤ n
theorem Shw.str {W n : Nat} {x : Str} (h : PyData.strOk x = true) (hl : x.length ≤ W) : Shw W n (.str x) := ⟨h, by simp [PyData.showable], rfl, hl, Nat.zero_le _⟩
theorem Shw.non {W n : Nat} : Shw W n .none := ⟨rfl, by simp [PyData.showable], rfl, Nat.zero_le _, Nat.zero_le _⟩
theorem shw_all {W n : Nat} : ∀ {ds : List PyData}, (∀ d ∈ ds, Shw W n d) → PyData.canLayAll0 ds = true ∧ PyData.showableAll ds = true ∧ PyData.intsShortAll 13 ds = true ∧ PyData.weightAll ds ≤ ds.length * (W + 1) ∧ PyData.depthAll ds ≤ n
  | [], _ => ⟨rfl, by simp [PyData.showableAll], rfl, Nat.zero_le _, Nat.zero_le _⟩
  | d :: r, h => by
    obtain ⟨h1, h2, h3, h4, h5⟩ := shw_all (ds := r) fun z hz => h z (List.mem_cons_of_mem _ hz)
    have g := h d List.mem_cons_self
    refine ⟨?_, ?_, ?_, ?_, ?_⟩
    · show (d.canLay0 && PyData.canLayAll0 r) = true
      rw [g.lay, h1]
      rfl
    · rw [PyData.showableAll, g.shw, h2]
      rfl
    · rw [PyData.intsShortAll, g.sml, h3]
      rfl
    · show d.weight + 1 + PyData.weightAll r ≤ (r.length + 1) * (W + 1)
      rw [Nat.add_mul, Nat.one_mul]
      have := g.wt
      omega
    · show max d.depth (PyData.depthAll r) ≤ n
      exact Nat.max_le.mpr ⟨g.dp, h5⟩
theorem Shw.list {W n L : Nat} {ds : List PyData} (h : ∀ d ∈ ds, Shw W n d) (hl : ds.length ≤ L) : Shw (L * (W + 1)) (n + 1) (.list ds) := by
  obtain ⟨h1, h2, h3, h4, h5⟩ := shw_all h
  exact ⟨h1, by rw [PyData.showable]; exact h2, by rw [PyData.intsShort]; exact h3, Nat.le_trans h4 (Nat.mul_le_mul_right _ hl), Nat.succ_le_succ h5⟩
theorem Shw.tuple {W n L : Nat} {ds : List PyData} (h : ∀ d ∈ ds, Shw W n d) (hl : ds.length ≤ L) : Shw (L * (W + 1)) (n + 1) (.tuple ds) := by
  obtain ⟨h1, h2, h3, h4, h5⟩ := shw_all h
  exact ⟨h1, by rw [PyData.showable]; exact h2, by rw [PyData.intsShort]; exact h3, Nat.le_trans h4 (Nat.mul_le_mul_right _ hl), Nat.succ_le_succ h5⟩
/-- what repr asks -/
theorem Shw.nod {W n : Nat} {d : PyData} (h : Shw W n d) : d.hasDict = false := PyData.hasDict_of_canLay d h.lay
theorem Shw.deep {W n : Nat} {d : PyData} (h : Shw W n d) (hn : n ≤ 64 := by decide) : d.depth ≤ 64 := Nat.le_trans h.dp hn
theorem Shw.fit {W n : Nat} {d : PyData} (h : Shw W n d) (hW : W ≤ 2 ^ 20 := by decide) : d.shown.length ≤ sizeLine := PyData.shown_fits (by decide) (by decide) (PyData.leavesShort_of_canLay0 13 d h.lay h.sml) (Nat.le_trans h.wt hW)
end PW
namespace PW
open PySem PySem.Spec PyProof.Rows L2
/-- the law's call at the heap behind the top, its promise kept where nothing is being shown -/
theorem law_callG {P : Program} {w : World} {K : PySem.W.Frag} {mg mb : Str → Option Value} {cx : CXT} {k : Nat} {fa a : Addr} {fd : FuncData} {x : Str} {sp : Sp} {t : Shared} {vs : List Value} {ns : List Int}
    (inK : K.In t.heap) (nsM : t.heap.Ns mainGlobals mg) (nsB : t.heap.Ns builtinsNs mb) (boot : ∀ x : Str, x ≠ "__name__" → mb x = bootBuiltins x) (lim : t.heap.NoLimit) (gens : t.gens = #[])
    (here : t.heap.get? a = some { cls := .type "list", data := .seq vs.toArray }) (are : IntsAre vs ns) (small : ns.length ≤ sizeLine) (rm : Room k callerA)
    (F : ∀ base : Heap, K.In base → base.Ns mainGlobals mg → FnG P w K mg base cx k fa fd [x] sp) (bi : ∀ (s : Shared) (u : Value), BindsTo s fd ⟨[u], []⟩ [(x, u)])
    (pr : ∀ H : Hp, Only H → SqL K H a (ns.map V.int) → sp [.ref a] H (fun v _ => v = .bl true) fun _ _ _ => False)
    (never : ∀ H e s', cx [] H t (fun _ _ _ => False) e s' → False) :
    codeAny (model P w) callerA (.call (.ref fa) ⟨[.ref a], []⟩) (fun r s' => r = .ok (.ret (.bool true)) ∧ OldK t.heap s'.heap ∧ s'.os = t.os ∧ AllBare s'.gens) t := by
  have rel := vals_ints are
  have lens := are.length
  have main : ∀ H : Hp, Only H → SqL K H a (ns.map V.int) → HOk P w H t.heap → (∀ b, H b ≠ none → b = a) → (H a ≠ none → K.lookup a = none) →
      codeAny (model P w) callerA (.call (.ref fa) ⟨[.ref a], []⟩) (fun r s' => r = .ok (.ret (.bool true)) ∧ OldK t.heap s'.heap ∧ s'.os = t.os ∧ AllBare s'.gens) t := fun H only sq hok one old => by
    have low : ∀ {b : Addr} {o : Obj}, t.heap.get? b = some o → H b = none → (hidT t.heap H).get? b = some o := fun z n => hidT_get z n
    have free : ∀ {b : Addr} {o : Obj} {es : Array DictEntry} {ep : Nat}, t.heap.get? b = some o → o.data = .dict es ep → H b = none := fun {b o es ep} z dd => by
      refine Classical.byContradiction fun nn => ?_
      have eb := one b nn
      rw [eb, here] at z
      have z2 := Option.some.inj z
      rw [← z2] at dd
      cases dd
    have nsL : ∀ {b : Addr} {m : Str → Option Value}, t.heap.Ns b m → (hidT t.heap H).Ns b m := fun {b m} z => by
      obtain ⟨o, es, ep, e, d, r⟩ := z
      exact ⟨o, es, ep, low e (free e d), d, r⟩
    have lowK : K.In (hidT t.heap H) := fun b o z => low (inK b o z) (by
      refine Classical.byContradiction fun nn => ?_
      have eb := one b nn
      rw [eb] at nn z
      rw [old nn] at z
      cases z)
    have md : Mod K mg (hidT t.heap H) := ⟨lowK, nsL nsM, ⟨mb, nsL nsB, boot⟩, by
      obtain ⟨mc, z1, z2⟩ := lim
      exact ⟨mc, nsL z1, z2⟩⟩
    have ev : Env0 P w K mg (hidT t.heap H) callerA [] t H := ⟨rfl, md, fun b o z => of_hidT z, Nat.le_of_eq (hidT_size _ _), trivial, fun b hb => absurd (show b ∈ ([] : List Addr) from hb) (by simp), hok, .of_eq gens⟩
    refine codeAny_mono ((F _ lowK (nsL nsM)).goes callerA [] t H ⟨[.ref a], []⟩ [.ref a] [.ref a] _ _ rfl rm ev (bi t (.ref a)) (.cons rfl .nil) (pr H only sq)) fun r s' got => ?_
    cases r with
    | error e => exact (never H e s' got).elim
    | ok fl =>
      cases fl with
      | next | brk | cont => exact False.elim got
      | ret u =>
        obtain ⟨v, G, os, bare, un, hok2, rv, qv⟩ := got
        have ev2 : v = .bl true := qv
        subst ev2
        obtain rfl : u = Value.bool true := rv
        refine ⟨rfl, OldK.of_keep fun b o z => ?_, os, bare⟩
        rcases only b with n | ⟨ob, xs, n⟩
        · exact un.keep b o z n (fun y => absurd (show b ∈ ([] : List Addr) from y) (by simp)) (by simp)
        · have n2 := un.frzs b ob _ n
          have z1 := (hok b _ n).1
          have z2 := (hok2 b _ n2).1
          have e1 : o = ob := Option.some.inj (z.symm.trans z1)
          rw [e1]
          exact z2
  cases hk : K.lookup a with
  | some o =>
    have z := inK a o hk
    rw [here] at z
    have eo := (Option.some.inj z).symm
    subst eo
    refine main (fun _ => none) (fun _ => .inl rfl) (.inr ⟨_, vs.toArray, _, hk, rfl, rfl, rfl, by rw [List.size_toArray, lens]; exact small, by simpa using rel⟩) (fun b u z => nomatch (show (none : Option HO) = some u from z)) (fun b z => absurd rfl z) fun z => absurd rfl z
  | none =>
    refine main (fun b => if b = a then some (.frz { cls := .type "list", data := .seq vs.toArray } (.lst (ns.map V.int))) else none) (fun b => ?_) (.inl (.inr ⟨{ cls := .type "list", data := .seq vs.toArray }, if_pos rfl⟩)) (fun b u z => ?_) (fun b z => ?_) fun _ => hk
    · by_cases eb : b = a
      · exact .inr ⟨_, _, if_pos eb⟩
      · exact .inl (if_neg eb)
    · by_cases eb : b = a
      · have z2 := Option.some.inj ((if_pos eb).symm.trans z)
        subst z2
        subst eb
        exact ⟨here, by rw [List.length_map]; exact small, vs, _, rel, here⟩
      · exact nomatch ((if_neg eb).symm.trans z)
    · exact Classical.byContradiction fun eb => z (if_neg eb)
theorem walk_ofG {l : PySem.W.OpenLaw} {n k : Nat} {q : Program} {loose : List Str} {XP : (Str → Option Value) → Heap → Prop} {YP : World → Heap → Prop} {d : DefRec} {cx : CXT} {x : Str}
    (hn : l.most = some n) (hn2 : n ≤ sizeLine) (hdf : d.params.defaults = []) (rm : Room k callerA)
    (F : ∀ (w : World) (mg : Str → Option Value) (fa : Addr) (g : Heap), YP w g → g.Ns mainGlobals mg → mg d.name = some (.ref fa) → ∃ (K : PySem.W.Frag) (fd : FuncData) (sp : Sp), K.In g ∧ (∀ (t : Shared) (v : Value), BindsTo t fd ⟨[v], []⟩ [(x, v)]) ∧
      (∀ (H : Hp) (a : Addr) (is : List Int), is.length ≤ n → Only H → SqL K H a (is.map V.int) → sp [.ref a] H (fun v _ => v = .bl true) fun _ _ _ => False) ∧ ∀ base : Heap, K.In base → base.Ns mainGlobals mg → FnG l.prog w K mg base cx k fa fd [x] sp)
    (never : ∀ (H : Hp) (s : Shared) (e : Value) (s' : Shared), cx [] H s (fun _ _ _ => False) e s' → False) : PySem.W.WalkO q loose XP YP l.row.toRowW d [] (fun f vs => PySem.call f vs) := by
  refine Att.attach_call hn hdf fun w s₀ t mg mb fa o pm cd doc a vs ns G Y ho hd hcd hmg hobj hints hlen hg => ?_
  obtain ⟨K, fd, sp, inK, bi, pr, hF⟩ := F w mg fa _ Y G.T.g hmg
  exact law_callG inK G.T.g G.T.b G.T.builtins G.T.nolimit hg hobj hints (Nat.le_trans hlen hn2) rm hF bi (fun H only sq => pr H a ns hlen only sq) fun H e s' => never H t e s'
end PW

namespace PW
open PySem PySem.Spec PyProof.Rows L2
/-! ### going on from a point: whom each step meets -/
/-- a point, the number of the tie that led to it, where the point it came from stands -/
abbrev Sts := List (Str × Nat × Nat)
def Sts.names (st : Sts) : List Str := st.map Prod.fst
def stV (e : Str × Nat × Nat) : Key × V := (Sum.inr e.1, V.int (e.2.1 : Nat))
def Sts.kv : Sts → List (Key × V)
  | [] => []
  | e :: r => (Sum.inr e.1, V.non) :: r.map stV
theorem Sts.names_len (st : Sts) : st.names.length = st.length := List.length_map ..
theorem Sts.names_at {st : Sts} {i : Nat} {x : Str} : st.names[i]? = some x ↔ ∃ e, st[i]? = some e ∧ e.1 = x := by
  unfold Sts.names
  rw [List.getElem?_map]
  cases h : st[i]? with
  | none => simp
  | some e => simp
theorem Sts.names_snoc (st : Sts) (e : Str × Nat × Nat) : Sts.names (st ++ [e]) = st.names ++ [e.1] := by
  unfold Sts.names
  rw [List.map_append]
  rfl
theorem Sts.kv_len (st : Sts) : st.kv.length = st.length := by
  cases st with
  | nil => rfl
  | cons e r =>
    show (r.map stV).length + 1 = r.length + 1
    rw [List.length_map]
theorem Sts.kv_keys (st : Sts) : st.kv.map Prod.fst = st.names.map fun x => (Sum.inr x : Key) := by
  cases st with
  | nil => rfl
  | cons e r =>
    show (Sum.inr e.1 : Key) :: (r.map stV).map Prod.fst = (Sum.inr e.1 : Key) :: (r.map Prod.fst).map _
    rw [List.map_map, List.map_map]
    rfl
theorem Sts.kv_snoc {st : Sts} (h : st ≠ []) (e : Str × Nat × Nat) : Sts.kv (st ++ [e]) = st.kv ++ [stV e] := by
  cases st with
  | nil => exact absurd rfl h
  | cons a r =>
    show (_ :: (r ++ [e]).map stV) = (_ :: r.map stV) ++ [stV e]
    rw [List.map_append]
    rfl
theorem val_keys {k : Key} : ∀ {kvs : List (Key × V)}, (valV kvs k).isSome = true ↔ k ∈ kvs.map Prod.fst
  | [] => by simp [valV]
  | p :: r => by
    rw [List.map_cons, List.mem_cons]
    by_cases e : p.1 = k
    · rw [valV_pos e]
      exact ⟨fun _ => .inl e.symm, fun _ => rfl⟩
    · rw [valV_neg e, val_keys]
      exact ⟨Or.inr, fun z => z.resolve_left fun q => e q.symm⟩
theorem Sts.has (st : Sts) (x : Str) : (valV st.kv (Sum.inr x)).isSome = decide (x ∈ st.names) := by
  rw [Bool.eq_iff_iff, val_keys, Sts.kv_keys, decide_eq_true_iff, List.mem_map]
  exact ⟨fun ⟨y, hy, e⟩ => by rw [← Sum.inr.inj e]; exact hy, fun h => ⟨x, h, rfl⟩⟩
theorem Sts.not {st : Sts} {x : Str} (h : x ∉ st.names) : valV st.kv (Sum.inr x) = none := by
  have := st.has x
  rw [decide_eq_false h] at this
  cases e : valV st.kv (Sum.inr x) with
  | none => rfl
  | some v =>
    rw [e] at this
    cases this
/-- what a name's value is -/
theorem val_at {kvs : List (Key × V)} {i : Nat} {p : Key × V} (nd : (kvs.map Prod.fst).Nodup) (h : kvs[i]? = some p) : valV kvs p.1 = some p.2 := by
  induction kvs generalizing i with
  | nil => simp at h
  | cons q r ih =>
    rw [List.map_cons, List.nodup_cons] at nd
    cases i with
    | zero =>
      have e : q = p := Option.some.inj h
      subst e
      exact valV_pos rfl
    | succ i =>
      have h2 : r[i]? = some p := h
      rw [valV_neg fun e => nd.1 (by rw [e]; exact List.mem_map_of_mem (List.mem_of_getElem? h2))]
      exact ih nd.2 h2
theorem inr_nodup {xs : List Str} (h : xs.Nodup) : (xs.map fun x => (Sum.inr x : Key)).Nodup := by
  unfold List.Nodup
  rw [List.pairwise_map]
  exact h.imp fun ne e => ne (Sum.inr.inj e)
theorem Sts.val_first {e : Str × Nat × Nat} {r : Sts} : valV (Sts.kv (e :: r)) (Sum.inr e.1) = some .non := valV_pos rfl
theorem Sts.val_later {st : Sts} {i : Nat} {e : Str × Nat × Nat} (nd : st.names.Nodup) (h : st[i]? = some e) (hi : 0 < i) : valV st.kv (Sum.inr e.1) = some (.int (e.2.1 : Nat)) := by
  have hk : st.kv[i]? = some (stV e) := by
    cases st with
    | nil => simp at h
    | cons a r =>
      obtain ⟨j, rfl⟩ : ∃ j, i = j + 1 := ⟨i - 1, by omega⟩
      show (r.map stV)[j]? = _
      rw [List.getElem?_map, show r[j]? = some e from h]
      rfl
  have nd2 : (st.kv.map Prod.fst).Nodup := by
    rw [Sts.kv_keys]
    exact inr_nodup nd
  exact val_at nd2 hk
/-- the search as a function: one look, a pass over the leads, the passes -/
def bfsStep (ls : List (Str × Str)) (a : Nat) (st : Sts) (m : Nat) : Sts := match ls[m]?, st.names[a]? with
  | some t, some x => if t.1 = x ∧ t.2 ∉ st.names then st ++ [(t.2, m, a)] else st
  | _, _ => st
def bfsPass (ls : List (Str × Str)) (a : Nat) (st : Sts) : Nat → Sts
  | 0 => st
  | m + 1 => bfsStep ls a (bfsPass ls a st m) m
def bfsAt (ls : List (Str × Str)) (s : Str) : Nat → Sts
  | 0 => [(s, 0, 0)]
  | a + 1 => bfsPass ls a (bfsAt ls s a) ls.length
/-- the search at place a, the first m leads looked at -/
structure StepsAt (ns : List Str) (ls : List (Str × Str)) (s : Str) (st : Sts) (a m : Nat) : Prop where
  nd : st.names.Nodup
  inn : ∀ x ∈ st.names, x ∈ ns
  fst : ∃ r, st = (s, 0, 0) :: r
  par : ∀ i g k j, 0 < i → st[i]? = some (g, k, j) → j < i ∧ j ≤ a ∧ ∃ x, ls[k]? = some (x, g) ∧ st.names[j]? = some x
  mono : ∀ (i i' : Nat) (e e' : Str × Nat × Nat), 0 < i → i ≤ i' → st[i]? = some e → st[i']? = some e' → e.2.2 ≤ e'.2.2
  done : ∀ j x y, j < a → st.names[j]? = some x → (x, y) ∈ ls → ∃ (i : Nat) (e : Str × Nat × Nat), st[i]? = some e ∧ e.1 = y ∧ e.2.2 ≤ j
  here : ∀ x k y, st.names[a]? = some x → k < m → ls[k]? = some (x, y) → y ∈ st.names
  fn : st = bfsPass ls a (bfsAt ls s a) m
theorem StepsAt.init {ns : List Str} {ls : List (Str × Str)} {s : Str} (h : s ∈ ns) : StepsAt ns ls s [(s, 0, 0)] 0 0 where
  nd := List.nodup_cons.mpr ⟨by simp, List.nodup_nil⟩
  inn := fun x hx => by
    rw [List.mem_singleton.mp hx]
    exact h
  fst := ⟨[], rfl⟩
  par := fun i g k j hi e => by
    obtain ⟨i, rfl⟩ : ∃ j, i = j + 1 := ⟨i - 1, by omega⟩
    simp at e
  mono := fun i i' e e' hi _ h1 _ => by
    obtain ⟨i, rfl⟩ : ∃ j, i = j + 1 := ⟨i - 1, by omega⟩
    simp at h1
  done := fun j x y hj => absurd hj (Nat.not_lt_zero _)
  here := fun x k y _ hk => absurd hk (Nat.not_lt_zero _)
  fn := rfl
theorem StepsAt.len {ns : List Str} {ls : List (Str × Str)} {s : Str} {st : Sts} {a m : Nat} (S : StepsAt ns ls s st a m) : st.length ≤ ns.length := by
  rw [← Sts.names_len]
  exact nodup_len S.nd S.inn
theorem StepsAt.ne {ns : List Str} {ls : List (Str × Str)} {s : Str} {st : Sts} {a m : Nat} (S : StepsAt ns ls s st a m) : st ≠ [] := by
  obtain ⟨r, e⟩ := S.fst
  rw [e]
  exact List.cons_ne_nil _ _
theorem StepsAt.skip {ns : List Str} {ls : List (Str × Str)} {s x : Str} {st : Sts} {a m : Nat} {t : Str × Str} (S : StepsAt ns ls s st a m) (ha : st.names[a]? = some x) (hm : ls[m]? = some t) (h : ¬ (t.1 = x ∧ t.2 ∉ st.names)) : StepsAt ns ls s st a (m + 1) :=
  ⟨S.nd, S.inn, S.fst, S.par, S.mono, S.done, fun x' k y hx hk hl => by
    by_cases e : k = m
    · subst e
      rw [hm] at hl
      have et : t = (x', y) := Option.some.inj hl
      rw [ha] at hx
      have ex : x = x' := Option.some.inj hx
      refine Classical.byContradiction fun hn => h ⟨by rw [et, ex], by rw [et]; exact hn⟩
    · exact S.here x' k y hx (by omega) hl, by
    show st = bfsStep ls a (bfsPass ls a (bfsAt ls s a) m) m
    rw [← S.fn]
    unfold bfsStep
    rw [hm, ha]
    exact (if_neg h).symm⟩
theorem StepsAt.add {ns : List Str} {ls : List (Str × Str)} {s x y : Str} {st : Sts} {a m : Nat} (S : StepsAt ns ls s st a m) (ha : st.names[a]? = some x) (hm : ls[m]? = some (x, y)) (hy : y ∉ st.names) (hn : y ∈ ns) : StepsAt ns ls s (st ++ [(y, m, a)]) a (m + 1) := by
  have hal : a < st.length := by
    have := (List.getElem?_eq_some_iff.mp ha).1
    rw [Sts.names_len] at this
    exact this
  have old : ∀ {i : Nat} {e : Str × Nat × Nat}, (st ++ [(y, m, a)])[i]? = some e → (i < st.length ∧ st[i]? = some e) ∨ (i = st.length ∧ e = (y, m, a)) := fun {i e} h => by
    by_cases hi : i < st.length
    · rw [List.getElem?_append_left hi] at h
      exact .inl ⟨hi, h⟩
    · have hl := (List.getElem?_eq_some_iff.mp h).1
      rw [List.length_append, List.length_singleton] at hl
      have ei : i = st.length := by omega
      subst ei
      rw [List.getElem?_append_right (Nat.le_refl _), Nat.sub_self] at h
      exact .inr ⟨rfl, (Option.some.inj h).symm⟩
  have up : ∀ {i : Nat} {e : Str × Nat × Nat}, st[i]? = some e → (st ++ [(y, m, a)])[i]? = some e := fun {i e} h => by
    rw [List.getElem?_append_left (List.getElem?_eq_some_iff.mp h).1]
    exact h
  have upn : ∀ {i : Nat} {z : Str}, st.names[i]? = some z → (Sts.names (st ++ [(y, m, a)]))[i]? = some z := fun {i z} h => by
    rw [Sts.names_snoc, List.getElem?_append_left (List.getElem?_eq_some_iff.mp h).1]
    exact h
  have dn : ∀ {i : Nat} {z : Str}, i < st.length → (Sts.names (st ++ [(y, m, a)]))[i]? = some z → st.names[i]? = some z := fun {i z} hi h => by
    rw [Sts.names_snoc, List.getElem?_append_left (by rw [Sts.names_len]; exact hi)] at h
    exact h
  refine ⟨?_, ?_, ?_, ?_, ?_, ?_, ?_, ?_⟩
  · rw [Sts.names_snoc, List.nodup_append]
    refine ⟨S.nd, List.nodup_cons.mpr ⟨by simp, List.nodup_nil⟩, fun u hu v hv e => ?_⟩
    have e' : u = y := e.trans (List.mem_singleton.mp hv)
    exact hy (e' ▸ hu)
  · intro z hz
    rw [Sts.names_snoc] at hz
    rcases List.mem_append.mp hz with hz | hz
    · exact S.inn z hz
    · rw [List.mem_singleton.mp hz]
      exact hn
  · obtain ⟨r, e⟩ := S.fst
    exact ⟨r ++ [(y, m, a)], by rw [e]; rfl⟩
  · intro i g k j hi h
    rcases old h with ⟨_, h⟩ | ⟨rfl, h5⟩
    · obtain ⟨h1, h2, z, h3, h4⟩ := S.par i g k j hi h
      exact ⟨h1, h2, z, h3, upn h4⟩
    · obtain ⟨rfl, rfl, rfl⟩ : g = y ∧ k = m ∧ j = a := by
        clear h
        cases h5
        exact ⟨rfl, rfl, rfl⟩
      exact ⟨hal, Nat.le_refl _, x, hm, upn ha⟩
  · intro i i' e e' hi hii h1 h2
    rcases old h1 with ⟨hl1, h1⟩ | ⟨rfl, rfl⟩
    · rcases old h2 with ⟨_, h2⟩ | ⟨rfl, rfl⟩
      · exact S.mono i i' e e' hi hii h1 h2
      · obtain ⟨g, k, j⟩ := e
        exact (S.par i g k j hi h1).2.1
    · rcases old h2 with ⟨hl2, h2⟩ | ⟨_, rfl⟩
      · omega
      · exact Nat.le_refl _
  · intro j z w hj hz hw
    obtain ⟨i, e, h1, h2, h3⟩ := S.done j z w hj (dn (by omega) hz) hw
    exact ⟨i, e, up h1, h2, h3⟩
  · intro z k w hz hk hl
    rw [Sts.names_snoc]
    by_cases e : k = m
    · subst e
      rw [hm] at hl
      have : y = w := (Prod.mk.inj (Option.some.inj hl)).2
      rw [← this]
      exact List.mem_append_right _ (List.mem_singleton.mpr rfl)
    · exact List.mem_append_left _ (S.here z k w (dn hal hz) (by omega) hl)
  · show st ++ [(y, m, a)] = bfsStep ls a (bfsPass ls a (bfsAt ls s a) m) m
    rw [← S.fn]
    unfold bfsStep
    rw [hm, ha]
    exact (if_pos ⟨rfl, hy⟩).symm
theorem StepsAt.next {ns : List Str} {ls : List (Str × Str)} {s : Str} {st : Sts} {a : Nat} (S : StepsAt ns ls s st a ls.length) : StepsAt ns ls s st (a + 1) 0 := by
  refine ⟨S.nd, S.inn, S.fst, fun i g k j hi h => ?_, S.mono, fun j x y hj hx hy => ?_, fun x k y _ hk => absurd hk (Nat.not_lt_zero _), S.fn⟩
  · obtain ⟨h1, h2, z, h3, h4⟩ := S.par i g k j hi h
    exact ⟨h1, by omega, z, h3, h4⟩
  · by_cases e : j = a
    · subst e
      obtain ⟨k, hk⟩ := List.getElem?_of_mem hy
      have hm := S.here x k y hx (List.getElem?_eq_some_iff.mp hk).1 hk
      obtain ⟨i, hi⟩ := List.getElem?_of_mem hm
      obtain ⟨e, he, rfl⟩ := Sts.names_at.mp hi
      refine ⟨i, e, he, rfl, ?_⟩
      by_cases i0 : 0 < i
      · obtain ⟨g, k', j'⟩ := e
        exact (S.par i g k' j' i0 he).2.1
      · obtain ⟨r, hr⟩ := S.fst
        have : i = 0 := by omega
        subst this
        rw [hr] at he
        have : e = (s, 0, 0) := (Option.some.inj he).symm
        rw [this]
        exact Nat.zero_le _
    · exact S.done j x y (by omega) hx hy
theorem bfsPass_end {ls : List (Str × Str)} {a : Nat} {st : Sts} (h : st.length ≤ a) : ∀ m, bfsPass ls a st m = st
  | 0 => rfl
  | m + 1 => by
    show bfsStep ls a (bfsPass ls a st m) m = st
    rw [bfsPass_end h m]
    unfold bfsStep
    have : st.names[a]? = none := by
      rw [List.getElem?_eq_none_iff, Sts.names_len]
      exact h
    rw [this]
    split
    · rename_i h1 h2
      cases h2
    · rfl
theorem bfsAt_end {ls : List (Str × Str)} {s : Str} {n : Nat} (h : (bfsAt ls s n).length = n) : ∀ k, bfsAt ls s (n + k) = bfsAt ls s n
  | 0 => rfl
  | k + 1 => by
    show bfsPass ls (n + k) (bfsAt ls s (n + k)) ls.length = _
    rw [bfsAt_end h k]
    exact bfsPass_end (by omega) _
/-- the search comes to one end -/
theorem StepsAt.uniq {ns : List Str} {ls : List (Str × Str)} {s : Str} {st st' : Sts} (S : StepsAt ns ls s st st.length 0) (S' : StepsAt ns ls s st' st'.length 0) : st = st' := by
  have f1 : st = bfsAt ls s st.length := S.fn
  have f2 : st' = bfsAt ls s st'.length := S'.fn
  have e1 : (bfsAt ls s st.length).length = st.length := by rw [← f1]
  have e2 : (bfsAt ls s st'.length).length = st'.length := by rw [← f2]
  rcases Nat.le_total st.length st'.length with h | h
  · have := bfsAt_end e1 (st'.length - st.length)
    rw [show st.length + (st'.length - st.length) = st'.length by omega] at this
    rw [f1, f2, this]
  · have := bfsAt_end e2 (st.length - st'.length)
    rw [show st'.length + (st.length - st'.length) = st.length by omega] at this
    rw [f1, f2, this]
/-! ### what it comes to -/
def Led (ls : List (Str × Str)) (x y : Str) : Prop := (x, y) ∈ ls
theorem StepsAt.rch {ns : List Str} {ls : List (Str × Str)} {s : Str} {st : Sts} {a m : Nat} (S : StepsAt ns ls s st a m) : ∀ (i : Nat) (x : Str), st.names[i]? = some x → Rch (Led ls) s x := by
  intro i
  induction i using Nat.strongRecOn with
  | _ i ih =>
    intro x hx
    obtain ⟨⟨g, k, j⟩, he, rfl⟩ := Sts.names_at.mp hx
    by_cases i0 : 0 < i
    · obtain ⟨h1, _, z, h3, h4⟩ := S.par i g k j i0 he
      exact .step (ih j h1 z h4) (List.mem_of_getElem? h3)
    · obtain ⟨r, hr⟩ := S.fst
      have : i = 0 := by omega
      subst this
      rw [hr] at he
      cases he
      exact .refl
theorem StepsAt.all {ns : List Str} {ls : List (Str × Str)} {s : Str} {st : Sts} (S : StepsAt ns ls s st st.length 0) (x : Str) : x ∈ st.names ↔ Rch (Led ls) s x := by
  constructor
  · intro h
    obtain ⟨i, hi⟩ := List.getElem?_of_mem h
    exact S.rch i x hi
  · intro h
    refine h.closed ?_ fun u v hu huv => ?_
    · obtain ⟨r, hr⟩ := S.fst
      rw [hr]
      exact List.mem_cons_self
    · obtain ⟨j, hj⟩ := List.getElem?_of_mem hu
      have hjl := (List.getElem?_eq_some_iff.mp hj).1
      rw [Sts.names_len] at hjl
      obtain ⟨i, e, h1, h2, _⟩ := S.done j u v hjl hj huv
      rw [← h2]
      exact List.mem_map_of_mem (List.mem_of_getElem? h1)
def spStepsFrom (K : PySem.W.Frag) : Sp := fun vs H Q _ => ∃ (l : Addr) (s : Str) (ns : List Str) (ls : Ats), vs = [.ref l, .str s] ∧ H l = some (.lst ls.vals) ∧ TupsAt H ls ∧ (∀ t ∈ ls.ties, t.2 ∈ ns) ∧ s ∈ ns ∧ ns.length ≤ 100 ∧ ls.length ≤ 100 ∧
  ∀ d (st : Sts) H', H d = none → Same H H' → H' d = some (.dK st.kv) → StepsAt ns ls.ties s st st.length 0 → Q (.ref d) H'
end PW

namespace PW
open PySem PySem.Spec PyProof.Rows L2
theorem ok_steps_from {P : Program} {w : World} {K : PySem.W.Frag} {mg : Str → Option Value} {base : Heap} (T : Top K mg) :
    C8.Cal P w K mg base 1 "steps_from" (spStepsFrom K) [] := by
  refine cal_of (fd_steps_from T) (g_steps_from T) sc_steps_from bi_steps_from (fun vs H Q E h => ?_) (fun cdv A outer s H vs Q E hr h => ?_)
  · obtain ⟨l, s₀, ns, ls, rfl, _⟩ := h
    rfl
  · obtain ⟨l, s₀, ns, ls, rfl, hl, hT, hin, hs, hn, hlen, q⟩ := h
    refine ⟨_, (pss_cons (ps_set (i := 2) sc_steps_from.nd rfl (by first | exact Or.inl rfl | exact Or.inr rfl) (pe_disp (pps_cons (pv 1) pe_non pps_nil) (by rfl) (by rfl) (fun z => by cases z) (by decide)))
      (pss_cons (ps_set (i := 3) sc_steps_from.nd rfl (by first | exact Or.inl rfl | exact Or.inr rfl) (pe_lst (pa_cons (pv 1) pa_nil)))
      (pss_cons (ps_set (i := 4) sc_steps_from.nd rfl (by first | exact Or.inl rfl | exact Or.inr rfl) pe_int)
      (pss_cons (ps_while PassesOwn.never (pt_cmpR op_lt (pv 4) (pe_callB (lenK (K := K)) (by rfl) (f_len T) PySem.boot_len (pa_cons (pv 3) pa_nil)) (nomark _)) (pss_cons (ps_for PassesOwn.never rfl (pi_enum (by rfl) (f_enumerate T) (pa_cons (pv 0) pa_nil)) (pg_tup (n := 2) rfl (pgs_cons (pg_name (i := 5) sc_steps_from.nd rfl (by first | exact Or.inl rfl | exact Or.inr rfl)) (pgs_cons (pg_tup (n := 2) rfl (pgs_cons (pg_name (i := 6) sc_steps_from.nd rfl (by first | exact Or.inl rfl | exact Or.inr rfl)) (pgs_cons (pg_name (i := 7) sc_steps_from.nd rfl (by first | exact Or.inl rfl | exact Or.inr rfl)) pgs_nil))) pgs_nil))) (pss_one (ps_if (PW.pt (pw_and (pt_cmpR op_eq (pv 6) (pe_ix (ixL (K := K)) (pv 3) (pv 4) (fun _ _ => rfl)) (nomark _)) (pw_and1 (pt_cmp (pc_dnotin (hu_of hr) (pv 7) (pv 2)))))) (pss_cons (ps_dput (hu_of hr) (pv 2) (pv 7) (pv 5) rfl)
      (pss_one (ps_expr (pe_bmK (K := K) PySem.F.plainAttrs_list PySem.F.slot_list_append PySem.F.type_list_append mt_append (pv 3) (pa_cons (pv 7) pa_nil))))) pss_nil)))
      (pss_one (ps_set (i := 4) sc_steps_from.nd rfl (by first | exact Or.inl rfl | exact Or.inr rfl) (pe_op op_add (pv 4) pe_int)))))
      (pss_one (ps_ret (pv 2))))))), ?_⟩
    refine fun d nd => ⟨_, rfl, upd_same, [(Sum.inr s₀, .non)], rfl, (by show 1 ≤ 15; decide), ?_⟩
    have s0 : Same H (upd (upd H d (.dK [])) d (.dK (mergeK [] [(Sum.inr s₀, .non)]))) := (same_new nd).into nd
    refine ⟨_, rfl, (by show 1 ≤ sizeLine; decide), fun r nr => ?_⟩
    have fr := s0.free nr
    have s1 := s0.next (o := .lst [.str s₀]) nr
    have ndr : d ≠ r := fun e => by
      rw [← e, upd_same] at nr
      cases nr
    refine ⟨fun m σ Hc => ∃ (st : Sts) (k : Nat) (y5 y6 y7 : Option V), σ = [some (.ref l), some (.str s₀), some (.ref d), some (.ref r), some (.int k), y5, y6, y7] ∧ m = ns.length - k ∧ k ≤ st.length ∧ StepsAt ns ls.ties s₀ st k 0 ∧ Same H Hc ∧ Hc d = some (.dK st.kv) ∧ Hc r = some (.lst (st.names.map V.str)),
      ⟨_, [(s₀, 0, 0)], 0, none, none, none, rfl, rfl, Nat.zero_le _, StepsAt.init hs, s1, by rw [upd_ne ndr]; exact upd_same, upd_same⟩, ?_⟩
    rintro m σ Hc ⟨st, k, y5, y6, y7, rfl, rfl, hk, S, sm, ed, er⟩
    have hnl : (st.names.map V.str).length = st.length := by rw [List.length_map, Sts.names_len]
    have hsl := S.len
    refine ⟨_, rfl, _, rfl, r, _, rfl, .inl (SqL.of er), _, _, rfl, rfl, _, rfl, ite2 (fun e => ?_) (fun e => ?_)⟩
    · have hkl : k < st.length := by
        have e1 : (k : Int) < ((st.names.map V.str).length : Int) := of_decide_eq_true e
        rw [hnl] at e1
        omega
      obtain ⟨x, hx⟩ : ∃ x, st.names[k]? = some x := ⟨_, List.getElem?_eq_getElem (by rw [Sts.names_len]; exact hkl)⟩
      refine ⟨fun σ' H' => ∃ (st' : Sts) (y5 y6 y7 : Option V), σ' = [some (.ref l), some (.str s₀), some (.ref d), some (.ref r), some (.int ((k + 1 : Nat) : Int)), y5, y6, y7] ∧ k + 1 ≤ st'.length ∧ StepsAt ns ls.ties s₀ st' (k + 1) 0 ∧ Same H H' ∧ H' d = some (.dK st'.kv) ∧ H' r = some (.lst (st'.names.map V.str)), ?_, ?_⟩
      · rintro σ' H' ⟨st', y5, y6, y7, rfl, hk', S', sm', ed', er'⟩
        exact ⟨ns.length - (k + 1), by omega, st', k + 1, y5, y6, y7, rfl, rfl, hk', S', sm', ed', er'⟩
      refine ⟨_, rfl, l, _, rfl, SqL.of (sm _ _ hl), ?_⟩
      refine for_it (walk_enum (K := K) (a := l) (xs := ls.vals)) (fun j σ H' => ∃ (st' : Sts) (y5 y6 y7 : Option V), σ = [some (.ref l), some (.str s₀), some (.ref d), some (.ref r), some (.int k), y5, y6, y7] ∧ k < st'.length ∧ st'.names[k]? = some x ∧ StepsAt ns ls.ties s₀ st' k j ∧ Same H H' ∧ H' d = some (.dK st'.kv) ∧ H' r = some (.lst (st'.names.map V.str)))
        ⟨st, _, _, _, rfl, hkl, hx, S, sm, ed, er⟩ (fun j σ H' _ ⟨_, _, _, _, _, _, _, _, z, _⟩ => SqL.of (z _ _ hl)) ?_ ?_
      · rintro j v σ H1 H1' hj ⟨st', y5, y6, y7, rfl, hk', hx', S', sm', ed', er'⟩ ⟨T', x1, x2, rfl, nT, rfl, e1, e2⟩
        cases e1
        obtain ⟨⟨A', u, w'⟩, hA, rfl⟩ := Ats.vals_at e2
        have hm := List.mem_of_getElem? hA
        have gts := Ats.ties_at hA
        have sT : Same H1 (upd H1 T' (.tup [.int (j : Nat), .ref A'])) := same_new nT
        have smT := sm'.trans sT
        have edT := sT _ _ ed'
        have erT := sT _ _ er'
        have hsl' := S'.len
        have hnl' : (st'.names.map V.str).length = st'.length := by rw [List.length_map, Sts.names_len]
        have gx : (st'.names.map V.str)[k]? = some (.str x) := by
          rw [List.getElem?_map, hx']
          rfl
        refine ⟨T', _, rfl, SqT.of upd_same, rfl, _, _, rfl, _, _, rfl, A', _, rfl, SqT.of (smT _ _ (hT _ hm)), rfl, _, _, rfl, _, _, rfl, rfl, rfl, ?_⟩
        have keep : ¬ (u = x ∧ w' ∉ st'.names) → ∃ (st' : Sts) (y5 y6 y7 : Option V), [some (.ref l), some (.str s₀), some (.ref d), some (.ref r), some (.int k), some (.int (j : Nat)), some (.str u), some (.str w')] = [some (V.ref l), some (.str s₀), some (.ref d), some (.ref r), some (.int k), y5, y6, y7] ∧ k < st'.length ∧ st'.names[k]? = some x ∧ StepsAt ns ls.ties s₀ st' k (j + 1) ∧ Same H (upd H1 T' (.tup [.int (j : Nat), .ref A'])) ∧ (upd H1 T' (.tup [.int (j : Nat), .ref A'])) d = some (.dK st'.kv) ∧ (upd H1 T' (.tup [.int (j : Nat), .ref A'])) r = some (.lst (st'.names.map V.str)) := fun c =>
          ⟨st', _, _, _, rfl, hk', hx', S'.skip hx' gts c, smT, edT, erT⟩
        refine ⟨_, rfl, _, rfl, _, rfl, r, _, _, _, rfl, rfl, SqL.of erT, atI_of rfl gx, rfl, _, rfl, ite2 (fun c1 => ?_) (fun c1 => ?_)⟩
        · have hux : u = x := V.str.inj (of_decide_eq_true c1)
          refine ⟨_, rfl, _, rfl, d, _, rfl, DGet.k (k := Sum.inr w') edT, _, rfl, ?_⟩
          rw [Sts.has]
          refine ite2 (fun c2 => ?_) (fun c2 => ?_)
          · have hw : w' ∉ st'.names := fun z => by
              rw [decide_eq_true z] at c2
              cases c2
            refine ⟨_, rfl, _, rfl, _, rfl, d, _, rfl, DPut.k (k := Sum.inr w') edT (by rw [Sts.kv_len]; exact small1000 (by omega)), ?_⟩
            have erD : upd (upd H1 T' (.tup [.int (j : Nat), .ref A'])) d (.dK (putK st'.kv (Sum.inr w') (.int (j : Nat)))) r = some (.lst (st'.names.map V.str)) := by
              rw [upd_ne ndr.symm]
              exact erT
            refine ⟨_, rfl, .inl ⟨rfl, _, SqL.of erD⟩, _, rfl, r, _, _, rfl, rfl, erD, by rw [hnl']; exact small1000 (by omega), ?_⟩
            refine ⟨st' ++ [(w', j, k)], _, _, _, rfl, by rw [List.length_append]; omega, ?_, S'.add hx' (by rw [← hux]; exact gts) hw (hin _ (List.mem_of_getElem? gts)), (smT.into nd).into fr, ?_, ?_⟩
            · rw [Sts.names_snoc, List.getElem?_append_left (by rw [Sts.names_len]; exact hk')]
              exact hx'
            · rw [upd_ne ndr, upd_same, putK_new _ (Sts.not hw), Sts.kv_snoc S'.ne]
              rfl
            · rw [upd_same, Sts.names_snoc, List.map_append]
              rfl
          · refine keep fun z => c2 ?_
            rw [decide_eq_false z.2]
            rfl
        · exact keep fun z => c1 (decide_eq_true (by rw [z.1]))
      · rintro σ H1 ⟨st', y5, y6, y7, rfl, hk', hx', S', sm', ed', er'⟩
        rw [Ats.vals_len, ← Ats.ties_len] at S'
        exact ⟨_, rfl, _, _, rfl, rfl, st', _, _, _, rfl, hk', S'.next, sm', ed', er'⟩
    · have hke : k = st.length := by
        have e1 : ¬ (k : Int) < ((st.names.map V.str).length : Int) := fun z => e (decide_eq_true z)
        rw [hnl] at e1
        omega
      subst hke
      exact ⟨_, rfl, q d st Hc nd sm ed S⟩
end PW

namespace PW
open PySem PySem.Spec PyProof.Rows L2
/-! ### how many steps -/
inductive Wk (ls : List (Str × Str)) (s : Str) : Nat → Str → Prop
  | zero : Wk ls s 0 s
  | step {n : Nat} {x y : Str} : Wk ls s n x → (x, y) ∈ ls → Wk ls s (n + 1) y
theorem Wk.rch {ls : List (Str × Str)} {s x : Str} {n : Nat} (h : Wk ls s n x) : Rch (Led ls) s x := by
  induction h with
  | zero => exact .refl
  | step _ e ih => exact .step ih e
structure IsDist (ls : List (Str × Str)) (s x : Str) (n : Nat) : Prop where
  wk : Wk ls s n x
  le : ∀ m, Wk ls s m x → n ≤ m
theorem IsDist.uniq {ls : List (Str × Str)} {s x : Str} {n m : Nat} (a : IsDist ls s x n) (b : IsDist ls s x m) : n = m := Nat.le_antisymm (a.le m b.wk) (b.le n a.wk)
theorem IsDist.self (ls : List (Str × Str)) (s : Str) : IsDist ls s s 0 := ⟨.zero, fun _ _ => Nat.zero_le _⟩
/-- the round in which a place of the search was met -/
inductive Lvl (st : Sts) : Nat → Nat → Prop
  | zero : Lvl st 0 0
  | step {i n : Nat} {e : Str × Nat × Nat} : 0 < i → st[i]? = some e → Lvl st e.2.2 n → Lvl st i (n + 1)
theorem Lvl.uniq {st : Sts} {i n : Nat} (h : Lvl st i n) : ∀ {m : Nat}, Lvl st i m → n = m := by
  induction h with
  | zero =>
    intro m g
    cases g with
    | zero => rfl
    | step h0 => omega
  | step h0 he _ ih =>
    intro m g
    cases g with
    | zero => omega
    | step _ he' g' =>
      rw [he] at he'
      cases he'
      rw [ih g']
section
variable {ns : List Str} {ls : List (Str × Str)} {s : Str} {st : Sts} {a m : Nat}
theorem StepsAt.lvl (S : StepsAt ns ls s st a m) : ∀ i, i < st.length → ∃ n, Lvl st i n ∧ n ≤ i := by
  intro i
  induction i using Nat.strongRecOn with
  | _ i ih =>
    intro hi
    by_cases i0 : 0 < i
    · obtain ⟨⟨g, k, j⟩, he⟩ : ∃ e, st[i]? = some e := ⟨_, List.getElem?_eq_getElem hi⟩
      obtain ⟨h1, _⟩ := S.par i g k j i0 he
      obtain ⟨n, hn, hni⟩ := ih j h1 (by omega)
      exact ⟨n + 1, .step i0 he hn, by omega⟩
    · have : i = 0 := by omega
      subst this
      exact ⟨0, .zero, Nat.le_refl _⟩
theorem StepsAt.lvl_wk (S : StepsAt ns ls s st a m) {i n : Nat} (h : Lvl st i n) : ∀ x, st.names[i]? = some x → Wk ls s n x := by
  induction h with
  | zero =>
    intro x hx
    obtain ⟨r, e⟩ := S.fst
    rw [e] at hx
    have : s = x := Option.some.inj hx
    rw [← this]
    exact .zero
  | @step i n e h0 he _ ih =>
    intro x hx
    obtain ⟨g, k, j⟩ := e
    obtain ⟨e', he', rfl⟩ := Sts.names_at.mp hx
    rw [he] at he'
    cases he'
    obtain ⟨_, _, z, h3, h4⟩ := S.par i g k j h0 he
    exact .step (ih z h4) (List.mem_of_getElem? h3)
theorem StepsAt.lvl_mono (S : StepsAt ns ls s st a m) : ∀ i', i' < st.length → ∀ i, i ≤ i' → ∀ n n', Lvl st i n → Lvl st i' n' → n ≤ n' := by
  intro i'
  induction i' using Nat.strongRecOn with
  | _ i' ih =>
    intro hl i hi n n' h h'
    cases h with
    | zero => exact Nat.zero_le _
    | @step _ n e h0 he hn =>
      cases h' with
      | zero => omega
      | @step _ n' e' h0' he' hn' =>
        have hm := S.mono i i' e e' h0 hi he he'
        obtain ⟨g', k', j'⟩ := e'
        obtain ⟨h1, _⟩ := S.par i' g' k' j' h0' he'
        have := ih j' h1 (by omega) e.2.2 hm n n' hn hn'
        omega
theorem StepsAt.dist (S : StepsAt ns ls s st st.length 0) {i n : Nat} {x : Str} (hx : st.names[i]? = some x) (h : Lvl st i n) : IsDist ls s x n := by
  refine ⟨S.lvl_wk h x hx, fun k hk => ?_⟩
  have main : ∀ {k : Nat} {y : Str}, Wk ls s k y → ∀ j n', st.names[j]? = some y → Lvl st j n' → n' ≤ k := by
    intro k y hk
    induction hk with
    | zero =>
      intro j n' hj hl
      obtain ⟨r, e⟩ := S.fst
      have h0 : st.names[0]? = some s := by
        rw [e]
        rfl
      have hj0 : j = 0 := by
        refine Classical.byContradiction fun ne => ?_
        exact nodup_ne S.nd hj h0 ne rfl
      subst hj0
      rw [hl.uniq .zero]
      exact Nat.le_refl _
    | @step k u v hu huv ih =>
      intro j n' hj hl
      have hur : u ∈ st.names := (S.all u).mpr hu.rch
      obtain ⟨i1, hi1⟩ := List.getElem?_of_mem hur
      have hi1l := (List.getElem?_eq_some_iff.mp hi1).1
      rw [Sts.names_len] at hi1l
      obtain ⟨n1, hn1, _⟩ := S.lvl i1 hi1l
      have h1 := ih i1 n1 hi1 hn1
      obtain ⟨i2, e2, he2, hev, hle⟩ := S.done i1 u v hi1l hi1 huv
      have hi2 : st.names[i2]? = some v := Sts.names_at.mpr ⟨e2, he2, hev⟩
      have hij : i2 = j := by
        refine Classical.byContradiction fun ne => ?_
        exact nodup_ne S.nd hi2 hj ne rfl
      subst hij
      cases hl with
      | zero => exact Nat.zero_le _
      | @step _ n2 e h0 he hn2 =>
        rw [he2] at he
        cases he
        have := S.lvl_mono i1 hi1l e2.2.2 hle n2 n1 hn2 hn1
        omega
  exact main hk i n hx h
theorem StepsAt.dist_lt (S : StepsAt ns ls s st st.length 0) {x : Str} {n : Nat} (h : IsDist ls s x n) : n < ns.length := by
  obtain ⟨i, hi⟩ := List.getElem?_of_mem ((S.all x).mpr h.wk.rch)
  have hil := (List.getElem?_eq_some_iff.mp hi).1
  rw [Sts.names_len] at hil
  obtain ⟨k, hk, hki⟩ := S.lvl i hil
  have := h.uniq (S.dist hi hk)
  have := S.len
  omega
end
/-- every point that is come to has its number of steps -/
theorem dist_of_wk {ls : List (Str × Str)} {s x : Str} {n : Nat} (h : Wk ls s n x) : ∃ k, IsDist ls s x k ∧ k ≤ n := by
  induction n using Nat.strongRecOn with
  | _ n ih =>
    by_cases c : ∃ m, m < n ∧ Wk ls s m x
    · obtain ⟨m, hm, hw⟩ := c
      obtain ⟨k, hk, hkm⟩ := ih m hm hw
      exact ⟨k, hk, by omega⟩
    · exact ⟨n, ⟨h, fun m hm => Nat.le_of_not_lt fun z => c ⟨m, z, hm⟩⟩, Nat.le_refl _⟩
theorem wk_of_rch {ls : List (Str × Str)} {s x : Str} (h : Rch (Led ls) s x) : ∃ n, Wk ls s n x := by
  induction h with
  | refl => exact ⟨0, .zero⟩
  | step _ e ih =>
    obtain ⟨n, hn⟩ := ih
    exact ⟨n + 1, .step hn e⟩
theorem dist_of_rch {ls : List (Str × Str)} {s x : Str} (h : Rch (Led ls) s x) : ∃ k, IsDist ls s x k := by
  obtain ⟨n, hn⟩ := wk_of_rch h
  obtain ⟨k, hk, _⟩ := dist_of_wk hn
  exact ⟨k, hk⟩
/-- the step ahead of the last one -/
theorem IsDist.pred {ls : List (Str × Str)} {s y : Str} {n : Nat} (h : IsDist ls s y (n + 1)) : ∃ x, IsDist ls s x n ∧ (x, y) ∈ ls := by
  cases h.wk with
  | step hx e =>
    rename_i x
    refine ⟨x, ⟨hx, fun m hm => ?_⟩, e⟩
    have := h.le _ (.step hm e)
    omega
theorem IsDist.next {ls : List (Str × Str)} {s x y : Str} {n : Nat} (h : IsDist ls s x n) (e : (x, y) ∈ ls) : ∃ k, IsDist ls s y k ∧ k ≤ n + 1 := dist_of_wk (.step h.wk e)
end PW

namespace PW
open PySem PySem.Spec PyProof.Rows L2
/-- as many points as steps, and one more -/
theorem dist_chain {ns : List Str} {ls : List (Str × Str)} {s : Str} (hs : s ∈ ns) (hl : ∀ t ∈ ls, t.2 ∈ ns) : ∀ {n : Nat} {x : Str}, IsDist ls s x n → ∃ L : List Str, L.length = n + 1 ∧ L.Nodup ∧ (∀ y ∈ L, y ∈ ns) ∧ ∀ y ∈ L, ∃ k, k ≤ n ∧ IsDist ls s y k
  | 0, x, h => by
    refine ⟨[x], rfl, List.nodup_cons.mpr ⟨by simp, List.nodup_nil⟩, fun y hy => ?_, fun y hy => ⟨0, Nat.le_refl _, ?_⟩⟩
    · rw [List.mem_singleton.mp hy]
      cases h.wk
      exact hs
    · rw [List.mem_singleton.mp hy]
      exact h
  | n + 1, x, h => by
    obtain ⟨z, hz, e⟩ := h.pred
    obtain ⟨L, h1, h2, h3, h4⟩ := dist_chain hs hl hz
    refine ⟨x :: L, by rw [List.length_cons, h1], List.nodup_cons.mpr ⟨fun q => ?_, h2⟩, fun y hy => ?_, fun y hy => ?_⟩
    · obtain ⟨k, hk, hd⟩ := h4 x q
      have := h.uniq hd
      omega
    · rcases List.mem_cons.mp hy with rfl | hy
      · exact hl _ e
      · exact h3 y hy
    · rcases List.mem_cons.mp hy with rfl | hy
      · exact ⟨n + 1, Nat.le_refl _, h⟩
      · obtain ⟨k, hk, hd⟩ := h4 y hy
        exact ⟨k, by omega, hd⟩
theorem dist_lt {ns : List Str} {ls : List (Str × Str)} {s x : Str} {n : Nat} (hs : s ∈ ns) (hl : ∀ t ∈ ls, t.2 ∈ ns) (h : IsDist ls s x n) : n < ns.length := by
  obtain ⟨L, h1, h2, h3, _⟩ := dist_chain hs hl h
  have := nodup_len h2 h3
  omega
/-! ### the law's own counting of steps -/
abbrev Rds := List (Str × Nat)
def Rds.kv (fl : Rds) : List (Key × V) := fl.map fun e => ((Sum.inr e.1 : Key), V.int (e.2 : Nat))
def Rds.names (fl : Rds) : List Str := fl.map Prod.fst
theorem Rds.kv_len (fl : Rds) : fl.kv.length = fl.length := List.length_map ..
theorem Rds.keys (fl : Rds) : fl.kv.map Prod.fst = fl.names.map fun x => (Sum.inr x : Key) := by
  unfold Rds.kv Rds.names
  rw [List.map_map, List.map_map]
  rfl
theorem Rds.kv_snoc (fl : Rds) (e : Str × Nat) : Rds.kv (fl ++ [e]) = fl.kv ++ [((Sum.inr e.1 : Key), V.int (e.2 : Nat))] := by
  unfold Rds.kv
  rw [List.map_append]
  rfl
theorem Rds.names_snoc (fl : Rds) (e : Str × Nat) : Rds.names (fl ++ [e]) = fl.names ++ [e.1] := by
  unfold Rds.names
  rw [List.map_append]
  rfl
theorem Rds.has (fl : Rds) (x : Str) : (valV fl.kv (Sum.inr x)).isSome = decide (x ∈ fl.names) := by
  rw [Bool.eq_iff_iff, val_keys, Rds.keys, decide_eq_true_iff, List.mem_map]
  exact ⟨fun ⟨y, hy, e⟩ => by rw [← Sum.inr.inj e]; exact hy, fun h => ⟨x, h, rfl⟩⟩
theorem Rds.not {fl : Rds} {x : Str} (h : x ∉ fl.names) : valV fl.kv (Sum.inr x) = none := by
  have := fl.has x
  rw [decide_eq_false h] at this
  cases e : valV fl.kv (Sum.inr x) with
  | none => rfl
  | some v =>
    rw [e] at this
    cases this
theorem Rds.val {fl : Rds} {e : Str × Nat} (nd : fl.names.Nodup) (h : e ∈ fl) : valV fl.kv (Sum.inr e.1) = some (.int (e.2 : Nat)) := by
  obtain ⟨i, hi⟩ := List.getElem?_of_mem h
  have hk : fl.kv[i]? = some ((Sum.inr e.1 : Key), V.int (e.2 : Nat)) := by
    unfold Rds.kv
    rw [List.getElem?_map, hi]
    rfl
  exact val_at (by rw [Rds.keys]; exact inr_nodup nd) hk
/-- round t, the first k leads looked at -/
structure RdAt (ns : List Str) (ls : List (Str × Str)) (s : Str) (fl : Rds) (t k : Nat) : Prop where
  nd : fl.names.Nodup
  inn : ∀ x ∈ fl.names, x ∈ ns
  ok : ∀ e ∈ fl, IsDist ls s e.1 e.2
  all : ∀ x n, IsDist ls s x n → n ≤ t → (x, n) ∈ fl
  here : ∀ j x y, j < k → ls[j]? = some (x, y) → IsDist ls s x t → y ∈ fl.names
section
variable {ns : List Str} {ls : List (Str × Str)} {s : Str} {fl : Rds} {t k : Nat}
theorem RdAt.init (hs : s ∈ ns) : RdAt ns ls s [(s, 0)] 0 0 where
  nd := List.nodup_cons.mpr ⟨by simp, List.nodup_nil⟩
  inn := fun x hx => by
    rw [List.mem_singleton.mp hx]
    exact hs
  ok := fun e he => by
    rw [List.mem_singleton.mp he]
    exact .self ls s
  all := fun x n h hn => by
    have : n = 0 := by omega
    subst this
    cases h.wk
    exact List.mem_singleton.mpr rfl
  here := fun j x y hj => absurd hj (Nat.not_lt_zero _)
theorem RdAt.len (R : RdAt ns ls s fl t k) : fl.length ≤ ns.length := by
  have := nodup_len R.nd R.inn
  unfold Rds.names at this
  rw [List.length_map] at this
  exact this
theorem RdAt.skip (R : RdAt ns ls s fl t k) {x y : Str} (h : ls[k]? = some (x, y)) (c : ¬ (IsDist ls s x t ∧ y ∉ fl.names)) : RdAt ns ls s fl t (k + 1) :=
  ⟨R.nd, R.inn, R.ok, R.all, fun j x' y' hj hl hd => by
    by_cases e : j = k
    · subst e
      rw [h] at hl
      cases hl
      exact Classical.byContradiction fun z => c ⟨hd, z⟩
    · exact R.here j x' y' (by omega) hl hd⟩
theorem RdAt.add (R : RdAt ns ls s fl t k) {x y : Str} (h : ls[k]? = some (x, y)) (hd : IsDist ls s x t) (hy : y ∉ fl.names) (hn : y ∈ ns) : RdAt ns ls s (fl ++ [(y, t + 1)]) t (k + 1) := by
  have hyd : IsDist ls s y (t + 1) := by
    obtain ⟨m, hm, hle⟩ := hd.next (List.mem_of_getElem? h)
    by_cases c : m ≤ t
    · exact absurd (List.mem_map_of_mem (R.all y m hm c)) hy
    · have : m = t + 1 := by omega
      exact this ▸ hm
  refine ⟨?_, fun z hz => ?_, fun e he => ?_, fun z n hz hnt => List.mem_append_left _ (R.all z n hz hnt), fun j x' y' hj hl hd' => ?_⟩
  · rw [Rds.names_snoc, List.nodup_append]
    refine ⟨R.nd, List.nodup_cons.mpr ⟨by simp, List.nodup_nil⟩, fun u hu v hv e => ?_⟩
    have e' : u = y := e.trans (List.mem_singleton.mp hv)
    exact hy (e' ▸ hu)
  · rw [Rds.names_snoc] at hz
    rcases List.mem_append.mp hz with hz | hz
    · exact R.inn z hz
    · rw [List.mem_singleton.mp hz]
      exact hn
  · rcases List.mem_append.mp he with he | he
    · exact R.ok e he
    · rw [List.mem_singleton.mp he]
      exact hyd
  · rw [Rds.names_snoc]
    by_cases e : j = k
    · subst e
      rw [h] at hl
      cases hl
      exact List.mem_append_right _ (List.mem_singleton.mpr rfl)
    · exact List.mem_append_left _ (R.here j x' y' (by omega) hl hd')
theorem RdAt.next (R : RdAt ns ls s fl t ls.length) : RdAt ns ls s fl (t + 1) 0 :=
  ⟨R.nd, R.inn, R.ok, fun x n h hn => by
    by_cases c : n ≤ t
    · exact R.all x n h c
    · have : n = t + 1 := by omega
      subst this
      obtain ⟨z, hz, e⟩ := h.pred
      obtain ⟨j, hj⟩ := List.getElem?_of_mem e
      have hm := R.here j z x (List.getElem?_eq_some_iff.mp hj).1 hj hz
      obtain ⟨⟨x', n'⟩, he, hx⟩ := List.mem_map.mp hm
      have hx : x' = x := hx
      subst hx
      have := (R.ok _ he).uniq h
      have h3 : n' = t + 1 := this
      exact h3 ▸ he, fun j x y hj => absurd hj (Nat.not_lt_zero _)⟩
theorem RdAt.mem (R : RdAt ns ls s fl t k) {x : Str} {n : Nat} (h : (x, n) ∈ fl) : IsDist ls s x n := R.ok _ h
/-- the points of the round -/
theorem RdAt.last (R : RdAt ns ls s fl t k) (x : Str) : decide ((valV fl.kv (Sum.inr x)).getD (.int (-1)) = V.int (t : Nat)) = true ↔ IsDist ls s x t := by
  rw [decide_eq_true_iff]
  constructor
  · intro h
    by_cases c : x ∈ fl.names
    · obtain ⟨e, he, rfl⟩ := List.mem_map.mp c
      rw [Rds.val R.nd he] at h
      have h2 : (e.2 : Int) = (t : Int) := V.int.inj h
      have h3 : e.2 = t := Int.ofNat.inj h2
      exact h3 ▸ R.ok e he
    · rw [Rds.not c] at h
      have h2 : (-1 : Int) = (t : Int) := V.int.inj h
      omega
  · intro h
    rw [Rds.val R.nd (R.all x t h (Nat.le_refl _))]
    rfl
end
/-- what the counting comes to -/
structure RdsOk (ns : List Str) (ls : List (Str × Str)) (s : Str) (fl : Rds) : Prop where
  nd : fl.names.Nodup
  inn : ∀ x ∈ fl.names, x ∈ ns
  iff : ∀ x n, (x, n) ∈ fl ↔ IsDist ls s x n
theorem RdAt.fin {ns : List Str} {ls : List (Str × Str)} {s : Str} {fl : Rds} {k : Nat} (R : RdAt ns ls s fl ns.length k) (hs : s ∈ ns) (hl : ∀ t ∈ ls, t.2 ∈ ns) : RdsOk ns ls s fl :=
  ⟨R.nd, R.inn, fun x n => ⟨fun h => R.ok _ h, fun h => R.all x n h (Nat.le_of_lt (dist_lt hs hl h))⟩⟩
theorem RdsOk.names {ns : List Str} {ls : List (Str × Str)} {s : Str} {fl : Rds} (R : RdsOk ns ls s fl) (x : Str) : x ∈ fl.names ↔ Rch (Led ls) s x := by
  constructor
  · intro h
    obtain ⟨e, he, rfl⟩ := List.mem_map.mp h
    exact ((R.iff e.1 e.2).mp he).wk.rch
  · intro h
    obtain ⟨n, hn⟩ := dist_of_rch h
    exact List.mem_map_of_mem ((R.iff x n).mpr hn)
def spLawRounds (K : PySem.W.Frag) : Sp := fun vs H Q _ => ∃ (w a b r : Addr) (s : Str) (ns : List Str) (ats : Ats) (ps : List Int), vs = [.ref w, .ref r, .str s] ∧ DatAt H w a b ns ats ∧ WebOk ns ats ∧ H r = some (.lst (ps.map V.int)) ∧ PointOk ats ps ∧ s ∈ ns ∧
  ∀ d (fl : Rds) H', H d = none → Same H H' → H' d = some (.dK fl.kv) → RdsOk ns (leadsL ats.ties ps) s fl → Q (.ref d) H'
end PW

namespace PW
open PySem PySem.Spec PyProof.Rows L2
/-! ### lots that nothing leads into -/
def revL (ls : List (Str × Str)) : List (Str × Str) := ls.map fun t => (t.2, t.1)
theorem led_rev {ls : List (Str × Str)} {x y : Str} : Led (revL ls) x y ↔ Led ls y x := by
  unfold Led revL
  rw [List.mem_map]
  constructor
  · rintro ⟨⟨a, b⟩, h, e⟩
    cases e
    exact h
  · intro h
    exact ⟨(y, x), h, rfl⟩
theorem rch_rev {ls : List (Str × Str)} {x y : Str} (h : Rch (Led (revL ls)) x y) : Rch (Led ls) y x := by
  induction h with
  | refl => exact .refl
  | step _ e ih => exact Rch.head (led_rev.mp e) ih
theorem rch_rev' {ls : List (Str × Str)} {x y : Str} (h : Rch (Led ls) x y) : Rch (Led (revL ls)) y x := by
  induction h with
  | refl => exact .refl
  | step _ e ih => exact Rch.head (led_rev.mpr e) ih
theorem same_len {xs ys : List Str} (hx : xs.Nodup) (hy : ys.Nodup) (h : ∀ z, z ∈ xs ↔ z ∈ ys) : xs.length = ys.length :=
  Nat.le_antisymm (nodup_len hx fun z hz => (h z).mp hz) (nodup_len hy fun z hz => (h z).mpr hz)
theorem full_iff {ns xs : List Str} (hn : ns.Nodup) (hx : xs.Nodup) (hi : ∀ z ∈ xs, z ∈ ns) : xs.length = ns.length ↔ ∀ z ∈ ns, z ∈ xs := by
  constructor
  · intro h z hz
    refine Classical.byContradiction fun hnz => ?_
    have := nodup_len (ms := z :: xs) (ns := ns) (List.nodup_cons.mpr ⟨hnz, hx⟩) fun y hy => by
      rcases List.mem_cons.mp hy with rfl | hy
      · exact hz
      · exact hi y hy
    rw [List.length_cons] at this
    omega
  · intro h
    exact same_len hx hn fun z => ⟨hi z, h z⟩
/-- what is not come to from the first point; else what doesn't come to it -/
noncomputable def shutL (ns : List Str) (ls : List (Str × Str)) : Option (List Str) := match ns with
  | [] => none
  | s :: r => @ite _ (∀ x ∈ s :: r, Rch (Led ls) s x) (Classical.propDecidable _) (@ite _ (∀ x ∈ s :: r, Rch (Led ls) x s) (Classical.propDecidable _) none (some ((s :: r).filter fun x => rchB (Led (revL ls)) s x))) (some ((s :: r).filter fun x => !rchB (Led ls) s x))
def Strong (ns : List Str) (ls : List (Str × Str)) : Prop := ∀ x ∈ ns, ∀ y ∈ ns, Rch (Led ls) x y
theorem shutL_none {ns : List Str} {ls : List (Str × Str)} (h : shutL ns ls = none) : Strong ns ls := by
  unfold shutL at h
  split at h
  · intro x hx
    simp at hx
  · rename_i s r
    split at h
    · rename_i h1
      split at h
      · rename_i h2
        exact fun x hx y hy => (h2 x hx).trans (h1 y hy)
      · cases h
    · cases h
theorem shutL_some {ns xs : List Str} {ls : List (Str × Str)} (hl : ∀ t ∈ ls, t.1 ∈ ns ∧ t.2 ∈ ns) (h : shutL ns ls = some xs) : IsLot ns xs ∧ ¬ Strong ns ls ∧ ∀ t ∈ ls, t.2 ∈ xs → t.1 ∈ xs := by
  unfold shutL at h
  split at h
  · cases h
  · rename_i s r
    have hs : s ∈ s :: r := List.mem_cons_self
    split at h
    · rename_i h1
      split at h
      · cases h
      · rename_i h2
        have ex : xs = (s :: r).filter fun x => rchB (Led (revL ls)) s x := (Option.some.inj h).symm
        have mx : ∀ z, z ∈ xs ↔ z ∈ s :: r ∧ Rch (Led (revL ls)) s z := fun z => by
          rw [ex, List.mem_filter, rchB_iff]
        obtain ⟨y, hy, hny⟩ : ∃ y ∈ s :: r, ¬ Rch (Led ls) y s := by
          refine Classical.byContradiction fun q => h2 fun x hx => Classical.byContradiction fun z => q ⟨x, hx, z⟩
        refine ⟨⟨by rw [ex]; exact List.filter_sublist, List.length_pos_of_mem ((mx s).mpr ⟨hs, .refl⟩), ?_⟩, fun st => h2 fun x hx => st x hx s hs, fun t ht h3 => ?_⟩
        · refine Nat.lt_of_le_of_ne (by rw [ex]; exact List.length_filter_le ..) fun e => ?_
          have : xs = s :: r := (by rw [ex]; exact List.filter_sublist : xs.Sublist (s :: r)).eq_of_length e
          exact hny (rch_rev ((mx y).mp (this ▸ hy)).2)
        · have h4 := (mx t.2).mp h3
          exact (mx t.1).mpr ⟨(hl t ht).1, .step h4.2 (led_rev.mpr ht)⟩
    · rename_i h1
      have ex : xs = (s :: r).filter fun x => !rchB (Led ls) s x := (Option.some.inj h).symm
      have mx : ∀ z, z ∈ xs ↔ z ∈ s :: r ∧ ¬ Rch (Led ls) s z := fun z => by
        rw [ex, List.mem_filter, Bool.not_eq_true', ← Bool.not_eq_true, rchB_iff]
      obtain ⟨y, hy, hny⟩ : ∃ y ∈ s :: r, ¬ Rch (Led ls) s y := by
        refine Classical.byContradiction fun q => h1 fun x hx => Classical.byContradiction fun z => q ⟨x, hx, z⟩
      refine ⟨⟨by rw [ex]; exact List.filter_sublist, List.length_pos_of_mem ((mx y).mpr ⟨hy, hny⟩), ?_⟩, fun st => h1 fun x hx => st s hs x hx, fun t ht h3 => ?_⟩
      · refine Nat.lt_of_le_of_ne (by rw [ex]; exact List.length_filter_le ..) fun e => ?_
        have : xs = s :: r := (by rw [ex]; exact List.filter_sublist : xs.Sublist (s :: r)).eq_of_length e
        exact ((mx s).mp (this ▸ hs)).2 .refl
      · have h4 := (mx t.2).mp h3
        exact (mx t.1).mpr ⟨(hl t ht).1, fun z => h4.2 (.step z ht)⟩
def LotAt (H : Hp) (v : V) : Option (List Str) → Prop
  | none => v = .non
  | some xs => ∃ l, v = .ref l ∧ H l = some (.lst (xs.map V.str))
def spShutLot (K : PySem.W.Frag) : Sp := fun vs H Q _ => ∃ (x a : Addr) (b : Bool) (ns : List Str) (ats : Ats) (ps : List Int), vs = [.ref x, .ref a] ∧ WebAt K H x ns ats ∧ WebOk ns ats ∧ H a = some (rowO b (ps.map V.int)) ∧ PointOk ats ps ∧
  ∀ v H', Same H H' → LotAt H' v (shutL ns (leadsL ats.ties ps)) → (∀ l, v = .ref l → H l = none) → Q v H'
theorem steps_full {ns : List Str} {ls : List (Str × Str)} {s : Str} {st : Sts} (nd : ns.Nodup) (S : StepsAt ns ls s st st.length 0) : st.length = ns.length ↔ ∀ x ∈ ns, Rch (Led ls) s x := by
  rw [← Sts.names_len, full_iff nd S.nd S.inn]
  exact ⟨fun h x hx => (S.all x).mp (h x hx), fun h x hx => (S.all x).mpr (h x hx)⟩
end PW

namespace PW
open PySem PySem.Spec PyProof.Rows L2
theorem ok_law_pointing {P : Program} {w : World} {K : PySem.W.Frag} {mg : Str → Option Value} {base : Heap} (T : Top K mg) :
    C8.Cal P w K mg base 2 "_law_pointing" spDrawn [] := by
  refine cal_of (fd_law_pointing T) (g_law_pointing T) sc_law_pointing bi_law_pointing (fun vs H Q E h => ?_) (fun cdv A outer s H vs Q E hr h => ?_)
  · obtain ⟨p, w₀, a, b, ns, ats, rfl, _⟩ := h
    rfl
  · obtain ⟨p, w₀, a, b, ns, ats, rfl, hp, nap, nbp, hD, ok, q⟩ := h
    refine ⟨_, (pss_one (ps_ret (pe_lc (own := [("_law_tie_here", 2)]) (g := gName 2) (by rfl) sc_law_pointing.nd (pi_list (pe_ix (ixT (K := K)) (pv 1) pe_int (fun _ _ => rfl))) (blkOk_by (own := [("_law_tie_here", 2)]) (N := ["_law_pot_here", "_law_web_here", "_law_tie_here"]) (sc := defScope s_law_pointing) (by decide +kernel)) (fun _ _ _ _ _ => (pg_name (i := 2) sc_law_pointing.nd rfl (by first | exact Or.inl rfl | exact Or.inr rfl))) (fun _ _ _ _ _ => pts_nil) (fun _ _ _ _ _ => (C8.pe_c (ok_law_take T) hr (by decide) (by rfl) (pa_cons (pv 0) (pa_cons pe_int pa_nil))))))), ?_⟩
    have h20 := ok.t20
    refine ⟨_, rfl, w₀, _, 1, _, rfl, rfl, SqT.of hD.tup, rfl, b, rfl, ⟨_, SqL.of hD.tie⟩, fun F nF => ?_⟩
    have nFp : F ≠ p := hp.ne nF
    have nFb : F ≠ b := (ne_of_none hD.tie nF).symm
    refine lc_list (K := K) (a := b) (xs := ats.vals) (fun i Hc => ∃ ts : List Int, Kp p H Hc ∧ Pot Hc p ∧ Hc b = some (.lst ats.vals) ∧ Hc F = some (.lst (ts.map V.int)) ∧ ts.length = i ∧ ∀ t ∈ ts, IsTurn t)
      ⟨[], Kp.same (same_new nF), hp.same (same_new nF), same_new nF _ _ hD.tie, upd_same, rfl, fun r hr => by simp at hr⟩ (fun i Hc _ ⟨_, _, _, z, _⟩ => SqL.of z) ?_ ?_
    · rintro i v Hc hi ⟨ts, kc, pc, ebc, eF, hl, ht⟩
      obtain ⟨x, hA, rfl⟩ := Ats.vals_at hi
      have hil := (List.getElem?_eq_some_iff.mp hA).1
      refine ⟨rfl, .ref p, rfl, p, 2, rfl, pc, by decide, by decide, fun e H9 e0 e1 k9 p9 => ⟨_, k9 F _ nFp eF, ?_, ?_⟩⟩
      · rw [List.length_map]
        exact small1000 (by omega)
      · refine ⟨ts ++ [e], (kc.trans k9).into nF, p9.into nFp, ?_, ?_, by simp [hl], all_snoc ht (by unfold IsTurn; omega)⟩
        · rw [upd_ne nFb.symm]
          exact k9 b _ nbp ebc
        · rw [upd_same, List.map_append]
          rfl
    · rintro Hc ⟨ts, kc, pc, ebc, eF, hl, ht⟩
      rw [Ats.vals_len] at hl
      exact q F ts Hc nF kc pc eF ⟨hl, ht⟩
end PW

namespace PW
open PySem PySem.Spec PyProof.Rows L2
theorem ok_law_handed {P : Program} {w : World} {K : PySem.W.Frag} {mg : Str → Option Value} {base : Heap} (T : Top K mg) :
    C8.Cal P w K mg base 2 "_law_handed" spHanded [] := by
  refine cal_of (fd_law_handed T) (g_law_handed T) sc_law_handed bi_law_handed (fun vs H Q E h => ?_) (fun cdv A outer s H vs Q E hr h => ?_)
  · obtain ⟨p, a, xs, rfl, _⟩ := h
    rfl
  · obtain ⟨p, a, xs, rfl, hp, nap, ha, q⟩ := h
    refine ⟨_, (pss_one (ps_ret (pe_ix (ixL (K := K)) (pe_lst (pa_cons (pe_callTy (listK (K := K)) (by rfl) (f_list T) (by decide +kernel) (pa_cons (pv 1) pa_nil)) (pa_cons (pe_callTy (tupK (K := K)) (by rfl) (f_tuple T) (by decide +kernel) (pa_cons (pv 1) pa_nil)) pa_nil))) (C8.pe_c (ok_law_take T) hr (by decide) (by rfl) (pa_cons (pv 0) (pa_cons pe_int pa_nil))) (fun _ _ => rfl)))), ?_⟩
    refine ⟨_, rfl, a, _, rfl, .inl (SqL.of ha), fun l1 n1 => ?_⟩
    have s1 : Same H (upd H l1 (.lst xs)) := same_new n1
    refine ⟨_, rfl, a, _, rfl, .inl ⟨SqL.of (s1 _ _ ha), fun l2 n2 => ⟨(by show 2 ≤ sizeLine; decide), fun l3 n3 => ?_⟩⟩⟩
    have s2 := s1.next (o := .tup xs) n2
    have s3 := s2.next (o := .lst [.ref l1, .ref l2]) n3
    refine ⟨_, rfl, p, 2, rfl, hp.same s3, by decide, by decide, fun d H' d0 d1 k p' => ?_⟩
    have np1 : l1 ≠ p := hp.ne n1
    have np2 : l2 ≠ p := hp.ne (s1.free n2)
    have np3 : l3 ≠ p := hp.ne (s2.free n3)
    have kH : Kp p H H' := (Kp.same s3).trans k
    have el3 := k l3 _ np3 upd_same
    have el1 := k l1 _ np1 (same_new n3 _ _ (same_new n2 _ _ upd_same))
    have el2 := k l2 _ np2 (same_new n3 _ _ upd_same)
    rcases (show d = 0 ∨ d = 1 by omega) with rfl | rfl
    · exact ⟨l3, _, 0, _, rfl, rfl, SqL.of el3, rfl, q l1 true H' n1 kH p' el1⟩
    · exact ⟨l3, _, 1, _, rfl, rfl, SqL.of el3, rfl, q l2 false H' (s1.free n2) kH p' el2⟩
end PW

namespace PW
open PySem PySem.Spec PyProof.Rows L2
def spWantPoint (K : PySem.W.Frag) : Sp := fun vs H Q _ => ∃ (x : Addr) (z : Str) (ns : List Str) (ats : Ats), vs = [.ref x, .str z] ∧ WebAt K H x ns ats ∧ z ∈ ns ∧ ∀ H', Same H H' → Q .non H'
theorem ok_want_point {P : Program} {w : World} {K : PySem.W.Frag} {mg : Str → Option Value} {base : Heap} (T : Top K mg) :
    C8.Cal P w K mg base 2 "want_point" (spWantPoint K) [] := by
  refine cal_of (fd_want_point T) (g_want_point T) sc_want_point bi_want_point (fun vs H Q E h => ?_) (fun cdv A outer s H vs Q E hr h => ?_)
  · obtain ⟨x, z, ns, ats, rfl, _⟩ := h
    rfl
  · obtain ⟨x, z, ns, ats, rfl, hW, hz, q⟩ := h
    refine ⟨_, (pss_one (ps_if (PW.pt (pw_or (pt_not (pt_val (pe_callB (isiK1 (K := K)) (by rfl) (f_isinstance T) (by decide +kernel) (pa_cons (pv 1) (pa_cons (pe_bltn (v := .ty "str") (by rfl) (f_str T) (by decide +kernel) rfl) pa_nil))))) (pw_or1 (pt_cmpR (notInSeq (K := K)) (pv 1) (C8.pe_mt0 (ok_Web_points T) hr (by decide) (pv 0)) (by with_unfolding_all rfl))))) (pss_one ps_never) pss_nil)), ?_⟩
    obtain ⟨dx, wa, wb, h1, h2, h3, h4⟩ := id hW
    refine ⟨_, rfl, _, _, _, _, true, rfl, .ty _, .base (.str z), kit_ty (by decide +kernel), true, rfl, ?_⟩
    refine ⟨_, rfl, _, rfl, x, dx, _, rfl, h1, wf_mp _ _, x, ns, ats, rfl, hW, fun l nl => ⟨l, _, rfl, .inl (SqL.of upd_same), rfl, flat_strs ns, false, ?_, ?_⟩⟩
    · show V.bl (!inV (.str z) (ns.map V.str)) = _
      rw [inV_strs, decide_eq_true hz]
      rfl
    · exact q _ (same_new nl)
noncomputable def reachedL (ns : List Str) (ls : List (Str × Str)) (s : Str) : List Str := hangL ns (Led ls) s
def spReached (K : PySem.W.Frag) : Sp := fun vs H Q _ => ∃ (x a : Addr) (b : Bool) (s : Str) (ns : List Str) (ats : Ats) (ps : List Int), vs = [.ref x, .ref a, .str s] ∧ WebAt K H x ns ats ∧ WebOk ns ats ∧ H a = some (rowO b (ps.map V.int)) ∧ PointOk ats ps ∧ s ∈ ns ∧
  ∀ r H', H r = none → Same H H' → H' r = some (.lst ((reachedL ns (leadsL ats.ties ps) s).map V.str)) → Q (.ref r) H'
theorem ok_reached {P : Program} {w : World} {K : PySem.W.Frag} {mg : Str → Option Value} {base : Heap} (T : Top K mg) :
    C8.Cal P w K mg base 5 "reached" (spReached K) [] := by
  refine cal_of (fd_reached T) (g_reached T) sc_reached bi_reached (fun vs H Q E h => ?_) (fun cdv A outer s H vs Q E hr h => ?_)
  · obtain ⟨x, a, b, s₀, ns, ats, ps, rfl, _⟩ := h
    rfl
  · obtain ⟨x, a, b, s₀, ns, ats, ps, rfl, hW, ok, ha, po, hs, q⟩ := h
    refine ⟨_, (pss_cons (ps_set (i := 3) sc_reached.nd rfl (by first | exact Or.inl rfl | exact Or.inr rfl) (C8.pe_c (ok_leads_of T) hr (by decide) (by rfl) (pa_cons (pv 0) (pa_cons (C8.pe_c (ok_want_pointing T) hr (by decide) (by rfl) (pa_cons (pv 0) (pa_cons (pv 1) pa_nil))) pa_nil))))
      (pss_cons (ps_expr (C8.pe_c (ok_want_point T) hr (by decide) (by rfl) (pa_cons (pv 0) (pa_cons (pv 2) pa_nil))))
      (pss_cons (ps_set (i := 4) sc_reached.nd rfl (by first | exact Or.inl rfl | exact Or.inr rfl) (C8.pe_c (ok_steps_from T) hr (by decide) (by rfl) (pa_cons (pv 3) (pa_cons (pv 2) pa_nil))))
      (pss_one (ps_ret (pe_lc (own := [("one", 5)]) (g := gName 5) (by rfl) sc_reached.nd (pi_list (C8.pe_mt0 (ok_Web_points T) hr (by decide) (pv 0))) (blkOk_by (own := [("one", 5)]) (N := ["web", "pointing", "point", "leads", "steps", "one"]) (sc := defScope s_reached) (by decide +kernel)) (fun _ _ _ _ _ => (pg_name (i := 5) sc_reached.nd rfl (by first | exact Or.inl rfl | exact Or.inr rfl))) (fun _ _ _ _ _ => (pts_one (pt_cmp (pc_din (hu_of hr) (pv 5) (pv 4))))) (fun _ _ _ _ _ => (pv 5)))))))), ?_⟩
    have hn9 := ok.n9
    have h20 := ok.t20
    have hpl := po.len
    have hln : (ns.map V.str).length = ns.length := List.length_map ..
    refine ⟨_, rfl, _, rfl, _, rfl, x, a, b, ns, ats, ps, rfl, hW, ok, ha, po, fun r H1 nr s1 er => ⟨x, r, ns, ats, ps, rfl, hW.same s1, ok, er, po, fun l ls H2 nl s2' el hT hls => ?_⟩⟩
    have s2 := s1.trans s2'
    refine ⟨_, rfl, _, rfl, x, s₀, ns, ats, rfl, hW.same s2, hs, fun H3 s3' => ?_⟩
    have s3 := s2.trans s3'
    have hlen : ls.length = ats.length := by
      have := congrArg List.length hls
      rw [Ats.ties_len, leadsL_len, Ats.ties_len] at this
      omega
    refine ⟨_, rfl, _, rfl, l, s₀, ns, ls, rfl, s3' _ _ el, hT.same s3', fun t ht => ?_, hs, by omega, by omega, fun d st H4 nd s4' ed S => ?_⟩
    · rw [hls] at ht
      exact (leads_in ok ht).2.1
    have s4 := s3.trans s4'
    obtain ⟨dx, wa, wb, h1, h2, h3, h4⟩ := id (hW.same s4)
    refine ⟨_, rfl, x, dx, _, rfl, h1, wf_mp _ _, x, ns, ats, rfl, hW.same s4, fun pt npt => ⟨pt, rfl, ⟨_, SqL.of upd_same⟩, fun D nD => ?_⟩⟩
    have s5 := s4.next (o := .lst (ns.map V.str)) npt
    have t5 : Same H4 (upd H4 pt (.lst (ns.map V.str))) := same_new npt
    refine lc_list (K := K) (a := pt) (xs := ns.map V.str) (fun i Hc => Same (upd H4 pt (.lst (ns.map V.str))) Hc ∧ Hc D = some (.lst (((ns.take i).filter fun y => rchB (Led ls.ties) s₀ y).map V.str))) ⟨same_new nD, upd_same⟩ (fun i Hc _ z => SqL.of (z.1 _ _ upd_same)) ?_ ?_
    · rintro i v Hc hi ⟨sm, eD⟩
      obtain ⟨z, hz, rfl⟩ := strs_at hi
      have hil := (List.getElem?_eq_some_iff.mp hz).1
      have erz : decide (z ∈ st.names) = rchB (Led ls.ties) s₀ z := by
        rw [Bool.eq_iff_iff, decide_eq_true_iff, rchB_iff]
        exact S.all z
      refine ⟨rfl, _, rfl, _, rfl, d, _, rfl, DGet.k (k := Sum.inr z) (sm _ _ (t5 _ _ ed)), _, rfl, ?_⟩
      rw [Sts.has, erz]
      refine ite2 (fun c4 => ?_) (fun c4 => ?_)
      · refine ⟨_, rfl, _, eD, ?_, sm.into nD, ?_⟩
        · rw [List.length_map]
          refine small1000 (Nat.le_trans (List.length_filter_le ..) ?_)
          rw [List.length_take]
          omega
        · rw [upd_same, take_snoc hz, List.filter_append, List.filter_cons_of_pos (p := fun y => rchB (Led ls.ties) s₀ y) c4, List.filter_nil, List.map_append]
          rfl
      · refine ⟨sm, ?_⟩
        rw [take_snoc hz, List.filter_append, List.filter_cons_of_neg (p := fun y => rchB (Led ls.ties) s₀ y) c4, List.filter_nil, List.append_nil]
        exact eD
    · rintro H6 ⟨s6, eD⟩
      rw [hln, List.take_length, hls] at eD
      exact q D H6 (s5.free nD) (s5.trans s6) eD
/-! ### ways -/
/-- the numbers lead from s on to y, one after the other -/
inductive WayTo (ls : List (Str × Str)) (s : Str) : List Nat → Str → Prop
  | nil : WayTo ls s [] s
  | snoc {ks : List Nat} {k : Nat} {x y : Str} : WayTo ls s ks x → ls[k]? = some (x, y) → WayTo ls s (ks ++ [k]) y
/-- the ties by which the search came to its place i -/
inductive Back (st : Sts) : Nat → List Nat → Prop
  | nil : Back st 0 []
  | snoc {i : Nat} {e : Str × Nat × Nat} {ks : List Nat} : 0 < i → st[i]? = some e → Back st e.2.2 ks → Back st i (ks ++ [e.2.1])
theorem Back.uniq {st : Sts} {i : Nat} {ks : List Nat} (h : Back st i ks) : ∀ {ms : List Nat}, Back st i ms → ks = ms := by
  induction h with
  | nil =>
    intro ms g
    cases g with
    | nil => rfl
    | snoc h0 => omega
  | snoc h0 he _ ih =>
    intro ms g
    cases g with
    | nil => omega
    | snoc _ he' g' =>
      rw [he] at he'
      cases he'
      rw [ih g']
theorem Back.lvl {st : Sts} {i : Nat} {ks : List Nat} (h : Back st i ks) : Lvl st i ks.length := by
  induction h with
  | nil => exact .zero
  | snoc h0 he _ ih =>
    rw [List.length_append, List.length_singleton]
    exact .step h0 he ih
theorem Back.way {ns : List Str} {ls : List (Str × Str)} {s : Str} {st : Sts} {a m : Nat} (S : StepsAt ns ls s st a m) {i : Nat} {ks : List Nat} (h : Back st i ks) : ∀ x, st.names[i]? = some x → WayTo ls s ks x := by
  induction h with
  | nil =>
    intro x hx
    obtain ⟨r, e⟩ := S.fst
    rw [e] at hx
    have : s = x := Option.some.inj hx
    rw [← this]
    exact .nil
  | @snoc i e ks h0 he _ ih =>
    intro x hx
    obtain ⟨g, k, j⟩ := e
    obtain ⟨e', he', rfl⟩ := Sts.names_at.mp hx
    rw [he] at he'
    cases he'
    obtain ⟨_, _, z, h3, h4⟩ := S.par i g k j h0 he
    exact .snoc (ih z h4) h3
/-- what way tells -/
def WayIs (ns : List Str) (ls : List (Str × Str)) (s y : Str) (o : Option (List Nat)) : Prop :=
  ∃ st : Sts, StepsAt ns ls s st st.length 0 ∧ ((o = none ∧ y ∉ st.names) ∨ ∃ i ks, o = some ks ∧ st.names[i]? = some y ∧ Back st i ks)
theorem WayIs.uniq {ns : List Str} {ls : List (Str × Str)} {s y : Str} {o o' : Option (List Nat)} (h : WayIs ns ls s y o) (h' : WayIs ns ls s y o') : o = o' := by
  obtain ⟨st, S, h⟩ := h
  obtain ⟨st', S', h'⟩ := h'
  have e := S.uniq S'
  subst e
  rcases h with ⟨rfl, h⟩ | ⟨i, ks, rfl, hi, hb⟩
  · rcases h' with ⟨rfl, _⟩ | ⟨i, ks, rfl, hi, _⟩
    · rfl
    · exact absurd (List.mem_of_getElem? hi) h
  · rcases h' with ⟨rfl, h'⟩ | ⟨j, ms, rfl, hj, hc⟩
    · exact absurd (List.mem_of_getElem? hi) h'
    · have : i = j := Classical.byContradiction fun ne => nodup_ne S.nd hi hj ne rfl
      subst this
      rw [hb.uniq hc]
theorem WayIs.none {ns : List Str} {ls : List (Str × Str)} {s y : Str} (h : WayIs ns ls s y none) : ¬ Rch (Led ls) s y := by
  obtain ⟨st, S, h⟩ := h
  rcases h with ⟨_, h⟩ | ⟨i, ks, e, _⟩
  · exact fun z => h ((S.all y).mpr z)
  · cases e
theorem WayIs.some {ns : List Str} {ls : List (Str × Str)} {s y : Str} {ks : List Nat} (h : WayIs ns ls s y (some ks)) : WayTo ls s ks y ∧ IsDist ls s y ks.length := by
  obtain ⟨st, S, h⟩ := h
  rcases h with ⟨e, _⟩ | ⟨i, ms, e, hi, hb⟩
  · cases e
  · cases e
    exact ⟨hb.way S y hi, S.dist hi hb.lvl⟩
def numsV (ks : List Nat) : List V := ks.map fun k => V.int (k : Nat)
def WayAt (H : Hp) (v : V) : Option (List Nat) → Prop
  | none => v = .non
  | some ks => ∃ l, v = .ref l ∧ H l = some (.lst (numsV ks))
def spWay (K : PySem.W.Frag) : Sp := fun vs H Q _ => ∃ (x a : Addr) (b : Bool) (s y : Str) (ns : List Str) (ats : Ats) (ps : List Int), vs = [.ref x, .ref a, .str s, .str y] ∧ WebAt K H x ns ats ∧ WebOk ns ats ∧ H a = some (rowO b (ps.map V.int)) ∧ PointOk ats ps ∧ s ∈ ns ∧ y ∈ ns ∧
  ∀ v o H', Same H H' → WayAt H' v o → WayIs ns (leadsL ats.ties ps) s y o → (∀ l, v = .ref l → H l = none) → Q v H'
theorem ok_way {P : Program} {w : World} {K : PySem.W.Frag} {mg : Str → Option Value} {base : Heap} (T : Top K mg) :
    C8.Cal P w K mg base 5 "way" (spWay K) [] := by
  refine cal_of (fd_way T) (g_way T) sc_way bi_way (fun vs H Q E h => ?_) (fun cdv A outer s H vs Q E hr h => ?_)
  · obtain ⟨x, a, b, s₀, y₀, ns, ats, ps, rfl, _⟩ := h
    rfl
  · obtain ⟨x, a, b, s₀, y₀, ns, ats, ps, rfl, hW, ok, ha, po, hs, hy, q⟩ := h
    refine ⟨_, (pss_cons (ps_set (i := 4) sc_way.nd rfl (by first | exact Or.inl rfl | exact Or.inr rfl) (C8.pe_c (ok_leads_of T) hr (by decide) (by rfl) (pa_cons (pv 0) (pa_cons (C8.pe_c (ok_want_pointing T) hr (by decide) (by rfl) (pa_cons (pv 0) (pa_cons (pv 1) pa_nil))) pa_nil))))
      (pss_cons (ps_expr (C8.pe_c (ok_want_point T) hr (by decide) (by rfl) (pa_cons (pv 0) (pa_cons (pv 2) pa_nil))))
      (pss_cons (ps_expr (C8.pe_c (ok_want_point T) hr (by decide) (by rfl) (pa_cons (pv 0) (pa_cons (pv 3) pa_nil))))
      (pss_cons (ps_set (i := 5) sc_way.nd rfl (by first | exact Or.inl rfl | exact Or.inr rfl) (C8.pe_c (ok_steps_from T) hr (by decide) (by rfl) (pa_cons (pv 4) (pa_cons (pv 2) pa_nil))))
      (pss_cons (ps_if (pt_cmp (pc_dnotin (hu_of hr) (pv 3) (pv 5))) (pss_one (ps_ret pe_non)) pss_nil)
      (pss_cons (ps_set (i := 6) sc_way.nd rfl (by first | exact Or.inl rfl | exact Or.inr rfl) (pe_lst pa_nil))
      (pss_cons (ps_set (i := 7) sc_way.nd rfl (by first | exact Or.inl rfl | exact Or.inr rfl) (pv 3))
      (pss_cons (ps_while PassesOwn.never (pt_cmpR op_ne (pv 7) (pv 2) (nomark _)) (pss_cons (ps_expr (pe_bmK (K := K) PySem.F.plainAttrs_list PySem.F.slot_list_append PySem.F.type_list_append mt_append (pv 6) (pa_cons (pe_dget (hu_of hr) (pv 5) (pv 7) (fun _ _ => rfl)) pa_nil)))
      (pss_one (ps_set (i := 7) sc_way.nd rfl (by first | exact Or.inl rfl | exact Or.inr rfl) (pe_ix (ixT (K := K)) (pe_ix (ixL (K := K)) (pv 4) (pe_dget (hu_of hr) (pv 5) (pv 7) (fun _ _ => rfl)) (fun _ _ => rfl)) pe_int (fun _ _ => rfl))))))
      (pss_one (ps_ret (pe_revL (pv 6)))))))))))), ?_⟩
    have hn9 := ok.n9
    have h20 := ok.t20
    have hpl := po.len
    refine ⟨_, rfl, _, rfl, _, rfl, x, a, b, ns, ats, ps, rfl, hW, ok, ha, po, fun r H1 nr s1 er => ⟨x, r, ns, ats, ps, rfl, hW.same s1, ok, er, po, fun l ls H2 nl s2' el hT hls => ?_⟩⟩
    have s2 := s1.trans s2'
    refine ⟨_, rfl, _, rfl, x, s₀, ns, ats, rfl, hW.same s2, hs, fun H3 s3' => ?_⟩
    have s3 := s2.trans s3'
    refine ⟨_, rfl, _, rfl, x, y₀, ns, ats, rfl, hW.same s3, hy, fun H4 s4' => ?_⟩
    have s4 := s3.trans s4'
    have t4 := s3'.trans s4'
    have hlen : ls.length = ats.length := by
      have := congrArg List.length hls
      rw [Ats.ties_len, leadsL_len, Ats.ties_len] at this
      omega
    refine ⟨_, rfl, _, rfl, l, s₀, ns, ls, rfl, t4 _ _ el, hT.same t4, fun t ht => ?_, hs, by omega, by omega, fun d st H5 nd s5' ed S => ?_⟩
    · rw [hls] at ht
      exact (leads_in ok ht).2.1
    have s5 := s4.trans s5'
    have t5 := t4.trans s5'
    have hsl := S.len
    have S' : StepsAt ns (leadsL ats.ties ps) s₀ st st.length 0 := by
      rw [← hls]
      exact S
    refine ⟨_, rfl, _, rfl, d, _, rfl, DGet.k (k := Sum.inr y₀) ed, _, rfl, ?_⟩
    rw [Sts.has]
    refine ite2 (fun c1 => ?_) (fun c1 => ?_)
    · have hn : y₀ ∉ st.names := fun z => by
        rw [decide_eq_true z] at c1
        cases c1
      exact q .non none H5 s5 rfl ⟨st, S', .inl ⟨rfl, hn⟩⟩ fun l' e => nomatch e
    · have hyn : y₀ ∈ st.names := Classical.byContradiction fun z => c1 (by rw [decide_eq_false z]; rfl)
      obtain ⟨iy, hiy⟩ := List.getElem?_of_mem hyn
      have hiyl := (List.getElem?_eq_some_iff.mp hiy).1
      rw [Sts.names_len] at hiyl
      refine ⟨Nat.zero_le _, fun f nf => ?_⟩
      have s6 := s5.next (o := .lst []) nf
      have t6 : Same H5 (upd H5 f (.lst [])) := same_new nf
      refine ⟨_, rfl, fun m σ Hc => ∃ (i : Nat) (h : Str) (fk : List Nat), σ = [some (.ref x), some (.ref a), some (.str s₀), some (.str y₀), some (.ref l), some (.ref d), some (.ref f), some (.str h)] ∧ i = m ∧ i < st.length ∧ st.names[i]? = some h ∧ Same H5 Hc ∧ Hc f = some (.lst (numsV fk)) ∧ fk.length + i ≤ iy ∧ ∀ ks, Back st i ks → Back st iy (ks ++ fk.reverse),
        ⟨_, iy, y₀, [], rfl, rfl, hiyl, hiy, t6, upd_same, by rw [List.length_nil]; omega, fun ks hk => by rw [List.reverse_nil, List.append_nil]; exact hk⟩, ?_⟩
      rintro m σ Hc ⟨i, h, fk, rfl, rfl, hil, hi, sm, ef, hfl, hbk⟩
      refine ⟨_, rfl, _, rfl, rfl, _, rfl, ite2 (fun e => ?_) (fun e => ?_)⟩
      · have hne : h ≠ s₀ := fun z => by
          rw [z, decide_eq_true rfl] at e
          cases e
        have i0 : 0 < i := by
          refine Nat.pos_of_ne_zero fun z => hne ?_
          subst z
          obtain ⟨r', er'⟩ := S.fst
          rw [er'] at hi
          exact (Option.some.inj hi).symm
        obtain ⟨⟨g, k, j⟩, he, hg⟩ := Sts.names_at.mp hi
        have hg : g = h := hg
        subst hg
        obtain ⟨hj1, _, z, hj3, hj4⟩ := S.par i g k j i0 he
        have hval : valV st.kv (Sum.inr g) = some (.int (k : Nat)) := Sts.val_later S.nd he i0
        obtain ⟨⟨A', u, w'⟩, hA, hAt⟩ : ∃ y, ls[k]? = some y ∧ y.2 = (z, g) := by
          unfold Ats.ties at hj3
          rw [List.getElem?_map] at hj3
          cases e9 : ls[k]? with
          | none =>
            rw [e9] at hj3
            cases hj3
          | some y =>
            rw [e9] at hj3
            exact ⟨y, rfl, Option.some.inj hj3⟩
        cases hAt
        have gv : ls.vals[k]? = some (.ref A') := by
          unfold Ats.vals
          rw [List.getElem?_map, hA]
          rfl
        refine ⟨fun σ' H' => ∃ (i' : Nat) (h : Str) (fk : List Nat), σ' = [some (.ref x), some (.ref a), some (.str s₀), some (.str y₀), some (.ref l), some (.ref d), some (.ref f), some (.str h)] ∧ i' < i ∧ i' < st.length ∧ st.names[i']? = some h ∧ Same H5 H' ∧ H' f = some (.lst (numsV fk)) ∧ fk.length + i' ≤ iy ∧ ∀ ks, Back st i' ks → Back st iy (ks ++ fk.reverse), ?_, ?_⟩
        · rintro σ' H' ⟨i', h, fk, rfl, h1, h2, h3, h4, h5, h6, h7⟩
          exact ⟨i', h1, i', h, fk, rfl, rfl, h2, h3, h4, h5, h6, h7⟩
        have edc := sm _ _ ed
        have hfk : fk.length ≤ 9 := by omega
        refine ⟨_, rfl, .inl ⟨rfl, _, SqL.of ef⟩, _, rfl, _, rfl, d, _, rfl, (hval ▸ DGet.k (k := Sum.inr g) edc), f, _, _, rfl, rfl, ef, (by unfold numsV; rw [List.length_map]; exact small1000 (by omega)), ?_⟩
        have ndf : d ≠ f := ne_of_none ed nf
        have sm2 : Same H5 (upd Hc f (.lst (numsV fk ++ [.int (k : Nat)]))) := sm.into nf
        refine ⟨_, rfl, _, rfl, _, rfl, d, _, rfl, (hval ▸ DGet.k (k := Sum.inr g) (sm2 _ _ ed)), l, _, _, _, rfl, rfl, SqL.of (sm2 _ _ (t5 _ _ el)), atI_of rfl gv, A', _, 0, _, rfl, rfl, SqT.of (sm2 _ _ (t5 _ _ (hT _ (List.mem_of_getElem? hA)))), rfl, ?_⟩
        refine ⟨j, z, fk ++ [k], rfl, hj1, by omega, hj4, sm2, ?_, ?_, fun ks hk => ?_⟩
        · rw [upd_same]
          unfold numsV
          rw [List.map_append]
          rfl
        · rw [List.length_append, List.length_singleton]
          omega
        · rw [List.reverse_append]
          have := hbk (ks ++ [k]) (.snoc (e := (g, k, j)) i0 he hk)
          rw [List.append_assoc] at this
          exact this
      · have hsh : h = s₀ := Classical.byContradiction fun z => e (by rw [decide_eq_false fun z2 => z (V.str.inj z2)]; rfl)
        subst hsh
        obtain ⟨r', er'⟩ := S.fst
        have h0 : st.names[0]? = some h := by
          rw [er']
          rfl
        have i0 : i = 0 := Classical.byContradiction fun ne => nodup_ne S.nd hi h0 ne rfl
        subst i0
        refine ⟨_, rfl, f, _, rfl, SqL.of ef, fun rl nrl => ?_⟩
        have erev : (numsV fk).reverse = numsV fk.reverse := by
          unfold numsV
          rw [List.map_reverse]
        rw [erev]
        refine q (.ref rl) (some fk.reverse) _ ((s5.trans sm).next nrl) ⟨rl, rfl, upd_same⟩ ⟨st, S', .inr ⟨iy, _, rfl, hiy, ?_⟩⟩ fun l' e' => ?_
        · have := hbk [] .nil
          rw [List.nil_append] at this
          exact this
        · cases e'
          exact (s5.trans sm).free nrl
end PW

namespace PW
open PySem PySem.Spec PyProof.Rows L2
theorem ok_law_rounds {P : Program} {w : World} {K : PySem.W.Frag} {mg : Str → Option Value} {base : Heap} (T : Top K mg) :
    C8.Cal P w K mg base 1 "_law_rounds" (spLawRounds K) [] := by
  refine cal_of (fd_law_rounds T) (g_law_rounds T) sc_law_rounds bi_law_rounds (fun vs H Q E h => ?_) (fun cdv A outer s H vs Q E hr h => ?_)
  · obtain ⟨w₀, a, b, r, s₀, ns, ats, ps, rfl, _⟩ := h
    rfl
  · obtain ⟨w₀, a, b, r, s₀, ns, ats, ps, rfl, hD, ok, hr', po, hs, q⟩ := h
    refine ⟨_, (pss_cons (ps_set (i := 3) sc_law_rounds.nd rfl (by first | exact Or.inl rfl | exact Or.inr rfl) (pe_disp (pps_cons (pv 2) pe_int pps_nil) (by rfl) (by rfl) (fun z => by cases z) (by decide)))
      (pss_cons (ps_for PassesOwn.never rfl (pi_range1 (by rfl) (f_range T) (pa_cons (pe_callB (lenK (K := K)) (by rfl) (f_len T) PySem.boot_len (pa_cons (pe_ix (ixT (K := K)) (pv 0) pe_int (fun _ _ => rfl)) pa_nil)) pa_nil)) (pg_name (i := 4) sc_law_rounds.nd rfl (by first | exact Or.inl rfl | exact Or.inr rfl)) (pss_cons (ps_setLc (i := 5) (own := [("_law_point", 11)]) (g := gName 11) (by rfl) sc_law_rounds.nd rfl rfl (sw_true rfl rfl rfl (by decide +kernel)) (pi_list (pe_ix (ixT (K := K)) (pv 0) pe_int (fun _ _ => rfl))) (blkOk_by (own := [("_law_point", 11)]) (N := ["_law_web_here", "_law_row", "_law_start", "_law_found", "_law_turn", "_law_last", "_law_a", "_law_b", "_law_told", "_law_begin", "_law_goal", "_law_point"]) (sc := defScope s_law_rounds) (by decide +kernel)) (fun _ _ _ _ _ => (pg_name (i := 11) sc_law_rounds.nd rfl (by first | exact Or.inl rfl | exact Or.inr rfl))) (fun _ _ _ _ _ => (pts_one (pt_cmpR op_eq (pe_dget2 (hu_of hr) (pv 3) (pv 11) (pe_un un_neg pe_int) ⟨rfl, rfl, rfl, rfl⟩) (pv 4) (nomark _)))) (fun _ _ _ _ _ => (pv 11)))
      (pss_one (ps_for PassesOwn.never rfl (pi_zip (by rfl) (f_zip T) (pa_cons (pe_ix (ixT (K := K)) (pv 0) pe_int (fun _ _ => rfl)) (pa_cons (pv 1) pa_nil))) (pg_tup (n := 2) rfl (pgs_cons (pg_tup (n := 2) rfl (pgs_cons (pg_name (i := 6) sc_law_rounds.nd rfl (by first | exact Or.inl rfl | exact Or.inr rfl)) (pgs_cons (pg_name (i := 7) sc_law_rounds.nd rfl (by first | exact Or.inl rfl | exact Or.inr rfl)) pgs_nil))) (pgs_cons (pg_name (i := 8) sc_law_rounds.nd rfl (by first | exact Or.inl rfl | exact Or.inr rfl)) pgs_nil))) (C8.pss_cut (ps_asg (pe_ix (ixL (K := K)) (pe_lst (pa_cons (pe_tup (pa_cons (pv 6) (pa_cons (pv 7) pa_nil))) (pa_cons (pe_tup (pa_cons (pv 7) (pa_cons (pv 6) pa_nil))) pa_nil))) (pv 8) (fun _ _ => rfl)) (pg_tup (n := 2) rfl (pgs_cons (pg_name (i := 9) sc_law_rounds.nd rfl (by first | exact Or.inl rfl | exact Or.inr rfl)) (pgs_cons (pg_name (i := 10) sc_law_rounds.nd rfl (by first | exact Or.inl rfl | exact Or.inr rfl)) pgs_nil))))
      (pss_one (ps_if (PW.pt (pw_and (pt_cmpR (inSeq (K := K)) (pv 9) (pv 5) (by with_unfolding_all rfl)) (pw_and1 (pt_cmp (pc_dnotin (hu_of hr) (pv 10) (pv 3)))))) (pss_one (ps_dput (hu_of hr) (pv 3) (pv 10) (pe_op op_add (pv 4) pe_int) rfl)) pss_nil)))))))
      (pss_one (ps_ret (pv 3))))), ?_⟩
    have h20 := ok.t20
    have hn9 := ok.n9
    have hpl := po.len
    obtain ⟨ls, hls⟩ : ∃ ls, leadsL ats.ties ps = ls := ⟨_, rfl⟩
    have hfl : ls.length = ats.length := by
      rw [← hls, leadsL_len, Ats.ties_len]
      omega
    have hin : ∀ t ∈ ls, t.2 ∈ ns := fun t ht => (leads_in (ps := ps) ok (by rw [hls]; exact ht)).2.1
    have hln : (ns.map V.str).length = ns.length := List.length_map ..
    refine fun d nd => ⟨_, rfl, upd_same, [(Sum.inr s₀, .int 0)], rfl, (by show 1 ≤ 15; decide), ?_⟩
    have s0 : Same H (upd (upd H d (.dK [])) d (.dK (mergeK [] [(Sum.inr s₀, .int 0)]))) := (same_new nd).into nd
    refine ⟨_, rfl, w₀, _, 0, _, rfl, rfl, SqT.of (s0 _ _ hD.tup), rfl, a, _, rfl, .inl (SqL.of (s0 _ _ hD.nam)), _, rfl, by omega, by omega, ?_⟩
    refine for_range (lo := 0) (fun t σ Hc => ∃ (fl : Rds) (y4 y5 y6 y7 y8 y9 y10 : Option V), σ = [some (.ref w₀), some (.ref r), some (.str s₀), some (.ref d), y4, y5, y6, y7, y8, y9, y10, none] ∧ Same H Hc ∧ Hc d = some (.dK fl.kv) ∧ RdAt ns ls s₀ fl t 0)
      ⟨[(s₀, 0)], none, none, none, none, none, none, none, rfl, s0, upd_same, RdAt.init hs⟩ ?_ ?_
    · rintro t σ Hc ht ⟨fl, y4, y5, y6, y7, y8, y9, y10, rfl, sm, ed, R⟩
      have hfl9 := R.len
      -- last
      refine ⟨_, rfl, w₀, _, 0, _, rfl, rfl, SqT.of (sm _ _ hD.tup), rfl, a, rfl, ⟨_, SqL.of (sm _ _ hD.nam)⟩, fun D nD => ?_⟩
      refine lc_list (K := K) (a := a) (xs := ns.map V.str) (fun i H1 => ∃ L : List Str, Same Hc H1 ∧ H1 D = some (.lst (L.map V.str)) ∧ L.length ≤ i ∧ ∀ z, z ∈ L ↔ z ∈ ns.take i ∧ IsDist ls s₀ z t)
        ⟨[], same_new nD, upd_same, Nat.le_refl _, fun z => by simp⟩ (fun i H1 _ ⟨_, z, _⟩ => SqL.of (z _ _ (sm _ _ hD.nam))) ?_ ?_
      · rintro i v H1 hi ⟨L, s1, eD, hL, hLm⟩
        obtain ⟨z, hz, rfl⟩ := strs_at hi
        have hil := (List.getElem?_eq_some_iff.mp hz).1
        have ed1 := s1 _ _ ed
        have hmem : ∀ y, y ∈ ns.take (i + 1) ↔ y ∈ ns.take i ∨ y = z := fun y => by
          rw [take_snoc hz, List.mem_append, List.mem_singleton]
        refine ⟨rfl, _, rfl, d, rfl, .inl ⟨_, .inl ed1⟩, _, rfl, 1, rfl, _, DGet.k (k := Sum.inr z) ed1, ?_⟩
        have hgo := R.last z
        have hscal : scal ((valV fl.kv (Sum.inr z)).getD (.int (-1))) (.int ((0 : Int) + (t : Int))) = true := by
          by_cases c : z ∈ fl.names
          · obtain ⟨e, he, rfl⟩ := List.mem_map.mp c
            rw [Rds.val R.nd he]
            rfl
          · rw [Rds.not c]
            rfl
        refine ⟨_, rfl, hscal, _, rfl, ?_⟩
        rw [show ((0 : Int) + (t : Int)) = ((t : Nat) : Int) by omega]
        refine ite2 (fun c => ?_) (fun c => ?_)
        · refine ⟨_, rfl, _, eD, ?_, L ++ [z], s1.into nD, ?_, by rw [List.length_append, List.length_singleton]; omega, fun y => ?_⟩
          · rw [List.length_map]
            exact small1000 (by omega)
          · rw [upd_same, List.map_append]
            rfl
          · rw [List.mem_append, List.mem_singleton, hLm, hmem]
            constructor
            · rintro (⟨h1, h2⟩ | rfl)
              · exact ⟨.inl h1, h2⟩
              · exact ⟨.inr rfl, hgo.mp c⟩
            · rintro ⟨h1 | rfl, h2⟩
              · exact .inl ⟨h1, h2⟩
              · exact .inr rfl
        · refine ⟨L, s1, eD, by omega, fun y => ?_⟩
          rw [hLm, hmem]
          constructor
          · rintro ⟨h1, h2⟩
            exact ⟨.inl h1, h2⟩
          · rintro ⟨h1 | rfl, h2⟩
            · exact ⟨h1, h2⟩
            · exact absurd (hgo.mpr h2) c
      rintro H1 ⟨L, s1', eD, hL, hLm⟩
      rw [hln, List.take_length] at hLm
      rw [hln] at hL
      have s1 := sm.trans s1'
      refine ⟨_, rfl, w₀, _, 1, _, rfl, rfl, SqT.of (s1 _ _ hD.tup), rfl, _, rfl, b, r, _, _, rfl, SqL.of (s1 _ _ hD.tie), SqL.of (s1 _ _ hr'), ?_⟩
      refine for_it (walk_zip (K := K) (a := b) (b := r) (xs := ats.vals) (ys := ps.map V.int) (n := ats.length) (by rw [Ats.vals_len, List.length_map]; omega)) (fun k σ H2 => ∃ (fl : Rds) (y6 y7 y8 y9 y10 : Option V), σ = [some (.ref w₀), some (.ref r), some (.str s₀), some (.ref d), some (.int ((0 : Int) + (t : Int))), some (.ref D), y6, y7, y8, y9, y10, none] ∧ Same H H2 ∧ H2 D = some (.lst (L.map V.str)) ∧ H2 d = some (.dK fl.kv) ∧ RdAt ns ls s₀ fl t k)
        ⟨fl, _, _, _, _, _, rfl, s1, eD, s1' _ _ ed, R⟩ (fun k σ H2 _ ⟨_, _, _, _, _, _, _, z, _⟩ => ⟨SqL.of (z _ _ hD.tie), SqL.of (z _ _ hr')⟩) ?_ ?_
      · rintro k v σ H2 H2' hk ⟨fl, y6, y7, y8, y9, y10, rfl, s2, eD2, ed2, R2⟩ ⟨T', x1, x2, rfl, nT, rfl, e1, e2⟩
        obtain ⟨⟨A', u, w'⟩, hA, rfl⟩ := Ats.vals_at e1
        obtain ⟨pt, hpt, rfl⟩ := ints_at e2
        have hm := List.mem_of_getElem? hA
        have gl := leadsL_at (Ats.ties_at hA) hpt
        rw [hls] at gl
        have htn := po.turn pt (List.mem_of_getElem? hpt)
        have sT : Same H2 (upd H2 T' (.tup [.ref A', .int pt])) := same_new nT
        have hfl2 := R2.len
        refine ⟨T', _, rfl, SqT.of upd_same, rfl, _, _, rfl, A', _, rfl, SqT.of ((s2.trans sT) _ _ (hD.tups _ hm)), rfl, _, _, rfl, _, _, rfl, rfl, _, _, rfl, rfl, ?_⟩
        refine ⟨fun σ' H' => ∃ s g : Str, lead (u, w') pt = (s, g) ∧ σ' = [some (.ref w₀), some (.ref r), some (.str s₀), some (.ref d), some (.int ((0 : Int) + (t : Int))), some (.ref D), some (.str u), some (.str w'), some (.int pt), some (.str s), some (.str g), none] ∧ Same H2 H', ?_, ?_⟩
        · refine ⟨_, rfl, _, rfl, (by show 2 ≤ sizeLine; decide), fun t1 n1 => ⟨_, rfl, _, rfl, (by show 2 ≤ sizeLine; decide), fun t2 n2 => ⟨(by show 2 ≤ sizeLine; decide), fun l3 n3 => ?_⟩⟩⟩
          have sA := sT.next (o := .tup [.str u, .str w']) n1
          have sB := sA.next (o := .tup [.str w', .str u]) n2
          have sC := sB.next (o := .lst [.ref t1, .ref t2]) n3
          refine ⟨_, rfl, ?_⟩
          rcases htn with rfl | rfl
          · refine ⟨l3, _, 0, _, rfl, rfl, SqL.of upd_same, rfl, t1, _, rfl, SqT.of (same_new n3 _ _ (same_new n2 _ _ upd_same)), rfl, _, _, rfl, _, _, rfl, rfl, ?_⟩
            exact ⟨u, w', rfl, rfl, sC⟩
          · refine ⟨l3, _, 1, _, rfl, rfl, SqL.of upd_same, rfl, t2, _, rfl, SqT.of (same_new n3 _ _ upd_same), rfl, _, _, rfl, _, _, rfl, rfl, ?_⟩
            exact ⟨w', u, rfl, rfl, sC⟩
        · rintro σ' G ⟨s, g, hsg, rfl, sC⟩
          rw [hsg] at gl
          have s2C := s2.trans sC
          have eDC := sC _ _ eD2
          have edC := sC _ _ ed2
          have keep : ¬ (IsDist ls s₀ s t ∧ g ∉ fl.names) → ∃ (fl : Rds) (y6 y7 y8 y9 y10 : Option V), [some (V.ref w₀), some (.ref r), some (.str s₀), some (.ref d), some (.int ((0 : Int) + (t : Int))), some (.ref D), some (.str u), some (.str w'), some (.int pt), some (.str s), some (.str g), none] = [some (.ref w₀), some (.ref r), some (.str s₀), some (.ref d), some (.int ((0 : Int) + (t : Int))), some (.ref D), y6, y7, y8, y9, y10, none] ∧ Same H G ∧ G D = some (.lst (L.map V.str)) ∧ G d = some (.dK fl.kv) ∧ RdAt ns ls s₀ fl t (k + 1) := fun c =>
            ⟨fl, _, _, _, _, _, rfl, s2C, eDC, edC, R2.skip gl c⟩
          refine ⟨_, rfl, _, rfl, D, _, rfl, .inl (SqL.of eDC), rfl, flat_strs L, _, rfl, ?_⟩
          show if inV (.str s) (L.map V.str) = true then _ else _
          rw [inV_strs]
          refine ite2 (fun c1 => ?_) (fun c1 => ?_)
          · have hsd : IsDist ls s₀ s t := ((hLm s).mp (of_decide_eq_true c1)).2
            refine ⟨_, rfl, _, rfl, d, _, rfl, DGet.k (k := Sum.inr g) edC, _, rfl, ?_⟩
            rw [Rds.has]
            refine ite2 (fun c2 => ?_) (fun c2 => ?_)
            · have hg : g ∉ fl.names := fun z => by
                rw [decide_eq_true z] at c2
                cases c2
              refine ⟨_, rfl, _, _, rfl, rfl, _, rfl, _, rfl, d, _, rfl, DPut.k (k := Sum.inr g) edC (by rw [Rds.kv_len]; exact small1000 (by omega)), ?_⟩
              refine ⟨fl ++ [(g, t + 1)], _, _, _, _, _, rfl, s2C.into nd, ?_, ?_, R2.add gl hsd hg (hin _ (List.mem_of_getElem? gl))⟩
              · rw [upd_ne (ne_of eDC edC (by intro z; cases z))]
                exact eDC
              · rw [upd_same, putK_new _ (Rds.not hg), Rds.kv_snoc]
                show some (HO.dK (fl.kv ++ [((Sum.inr g : Key), V.int ((0 : Int) + (t : Int) + 1))])) = some (HO.dK (fl.kv ++ [((Sum.inr g : Key), V.int ((t + 1 : Nat) : Int))]))
                rw [show ((0 : Int) + (t : Int)) + 1 = ((t + 1 : Nat) : Int) by omega]
            · exact keep fun z => c2 (by rw [decide_eq_false z.2]; rfl)
          · refine keep fun z => c1 (decide_eq_true ((hLm s).mpr ⟨?_, z.1⟩))
            have := leads_in (ps := ps) ok (l := (s, g)) (by rw [hls]; exact List.mem_of_getElem? gl)
            exact this.1
      · rintro σ H2 ⟨fl, y6, y7, y8, y9, y10, rfl, s2, eD2, ed2, R2⟩
        rw [← hfl] at R2
        exact ⟨fl, _, _, _, _, _, _, _, rfl, s2, ed2, R2.next⟩
    · rintro σ Hc ⟨fl, y4, y5, y6, y7, y8, y9, y10, rfl, sm, ed, R⟩
      have e : (((ns.map V.str).length : Int)).toNat = ns.length := by
        rw [hln]
        omega
      rw [e] at R
      exact ⟨_, rfl, q d fl Hc nd sm ed (by rw [hls]; exact R.fin hs hin)⟩
end PW

namespace PW
open PySem PySem.Spec PyProof.Rows L2
theorem WayTo.end_ {ls : List (Str × Str)} {s x : Str} {ks : List Nat} (h : WayTo ls s ks x) : ∀ {y : Str}, WayTo ls s ks y → x = y := by
  cases h with
  | nil =>
    intro y g
    generalize hk : ([] : List Nat) = ks at g
    cases g with
    | nil => rfl
    | snoc _ _ =>
      have := congrArg List.length hk
      simp at this
  | @snoc ks k u _ _ e =>
    intro y g
    generalize hk : ks ++ [k] = ms at g
    cases g with
    | nil =>
      have := congrArg List.length hk
      simp at this
    | @snoc ks' k' u' _ _ e' =>
      have h2 := List.append_inj' hk rfl
      have h3 : k = k' := List.singleton_inj.mp h2.2
      rw [h3, e'] at e
      exact (Prod.mk.inj (Option.some.inj e)).2.symm
theorem WayTo.wk {ls : List (Str × Str)} {s x : Str} {ks : List Nat} (h : WayTo ls s ks x) : Wk ls s ks.length x := by
  induction h with
  | nil => exact .zero
  | snoc _ e ih =>
    rw [List.length_append, List.length_singleton]
    exact .step ih (List.mem_of_getElem? e)
theorem WayTo.part {ls : List (Str × Str)} {s y : Str} {ks : List Nat} (h : WayTo ls s ks y) : ∀ i, i ≤ ks.length → ∃ x, WayTo ls s (ks.take i) x ∧ ∀ n, Wk ls s n x → Wk ls s (n + (ks.length - i)) y := by
  induction h with
  | nil =>
    intro i hi
    exact ⟨s, by rw [List.take_nil]; exact .nil, fun n hn => by simpa using hn⟩
  | @snoc ks k u v hu e ih =>
    intro i hi
    rw [List.length_append, List.length_singleton] at hi
    by_cases c : i ≤ ks.length
    · obtain ⟨x, h1, h2⟩ := ih i c
      refine ⟨x, by rw [List.take_append_of_le_length c]; exact h1, fun n hn => ?_⟩
      have := (h2 n hn).step (List.mem_of_getElem? e)
      rw [List.length_append, List.length_singleton, show n + (ks.length + 1 - i) = n + (ks.length - i) + 1 by omega]
      exact this
    · have : i = ks.length + 1 := by omega
      subst this
      refine ⟨v, by rw [List.take_of_length_le (by rw [List.length_append, List.length_singleton]; exact Nat.le_refl _)]; exact .snoc hu e, fun n hn => ?_⟩
      rw [List.length_append, List.length_singleton, Nat.sub_self]
      exact hn
theorem WayTo.mid {ls : List (Str × Str)} {s y : Str} {ks : List Nat} (h : WayTo ls s ks y) (d : IsDist ls s y ks.length) {i : Nat} (hi : i ≤ ks.length) : ∃ x, WayTo ls s (ks.take i) x ∧ IsDist ls s x i := by
  obtain ⟨x, h1, h2⟩ := h.part i hi
  have hw := h1.wk
  rw [List.length_take, Nat.min_eq_left hi] at hw
  refine ⟨x, h1, hw, fun m hm => ?_⟩
  have := d.le _ (h2 m hm)
  omega
theorem WayTo.turn {ls : List (Str × Str)} {s y : Str} {ks : List Nat} (h : WayTo ls s ks y) (d : IsDist ls s y ks.length) {i k : Nat} {x : Str} (hk : ks[i]? = some k) (hx : WayTo ls s (ks.take i) x) : ∃ z, ls[k]? = some (x, z) ∧ WayTo ls s (ks.take (i + 1)) z ∧ IsDist ls s z (i + 1) := by
  have hil := (List.getElem?_eq_some_iff.mp hk).1
  obtain ⟨z, h1, h2⟩ := h.mid d (i := i + 1) hil
  refine ⟨z, ?_, h1, h2⟩
  have e : ks.take (i + 1) = ks.take i ++ [k] := take_snoc hk
  rw [e] at h1
  generalize hm : ks.take i ++ [k] = ms at h1
  cases h1 with
  | nil =>
    have := congrArg List.length hm
    simp at this
  | @snoc ks' k' u' _ hu e' =>
    have h3 := List.append_inj' hm rfl
    have h4 : k = k' := List.singleton_inj.mp h3.2
    rw [← h3.1] at hu
    rw [h4, hu.end_ hx] at *
    exact e'
theorem nums_at {ks : List Nat} {i : Nat} {v : V} (h : (numsV ks)[i]? = some v) : ∃ k, ks[i]? = some k ∧ v = .int (k : Nat) := by
  unfold numsV at h
  rw [List.getElem?_map] at h
  cases e : ks[i]? with
  | none =>
    rw [e] at h
    cases h
  | some k =>
    rw [e] at h
    exact ⟨k, rfl, (Option.some.inj h).symm⟩
def spIsWay (K : PySem.W.Frag) : Sp := fun vs H Q _ => ∃ (w a b r l : Addr) (s y : Str) (ns : List Str) (ats : Ats) (ps : List Int) (ks : List Nat), vs = [.ref w, .ref r, .ref l, .str s, .str y] ∧ DatAt H w a b ns ats ∧ WebOk ns ats ∧ H r = some (.lst (ps.map V.int)) ∧ PointOk ats ps ∧ H l = some (.lst (numsV ks)) ∧ s ∈ ns ∧ WayTo (leadsL ats.ties ps) s ks y ∧ IsDist (leadsL ats.ties ps) s y ks.length ∧
  ∀ H', Same H H' → Q (.bl true) H'
theorem ok_law_is_way {P : Program} {w : World} {K : PySem.W.Frag} {mg : Str → Option Value} {base : Heap} (T : Top K mg) :
    C8.Cal P w K mg base 1 "_law_is_way" (spIsWay K) [] := by
  refine cal_of (fd_law_is_way T) (g_law_is_way T) sc_law_is_way bi_law_is_way (fun vs H Q E h => ?_) (fun cdv A outer s H vs Q E hr h => ?_)
  · obtain ⟨w₀, a, b, r, l, s₀, y₀, ns, ats, ps, ks, rfl, _⟩ := h
    rfl
  · obtain ⟨w₀, a, b, r, l, s₀, y₀, ns, ats, ps, ks, rfl, hD, ok, hr', po, hl, hs, hw, hd, q⟩ := h
    refine ⟨_, (pss_cons (ps_set (i := 5) sc_law_is_way.nd rfl (by first | exact Or.inl rfl | exact Or.inr rfl) (pe_lst (pa_cons (pv 3) pa_nil)))
      (pss_cons (ps_for PassesOwn.never rfl (pi_list (pv 2)) (pg_name (i := 6) sc_law_is_way.nd rfl (by first | exact Or.inl rfl | exact Or.inr rfl)) (pss_cons (ps_if (PW.pt (pw_or (pt_not (pt_val (pe_callB (isiK1 (K := K)) (by rfl) (f_isinstance T) (by decide +kernel) (pa_cons (pv 6) (pa_cons (pe_bltn (v := .ty "int") (by rfl) (f_int T) (by decide +kernel) rfl) pa_nil))))) (pw_or (pt_val (pe_callB (isiK1 (K := K)) (by rfl) (f_isinstance T) (by decide +kernel) (pa_cons (pv 6) (pa_cons (pe_bltn (v := .ty "bool") (by rfl) (f_bool T) (by decide +kernel) rfl) pa_nil)))) (pw_or1 (pt_not (pt_chain op_le op_lt pe_int (pv 6) (pe_callB (lenK (K := K)) (by rfl) (f_len T) PySem.boot_len (pa_cons (pv 1) pa_nil)))))))) (pss_one (ps_ret pe_bl)) pss_nil)
      (pss_cons (ps_asg (pe_ix (ixL (K := K)) (pe_ix (ixT (K := K)) (pv 0) pe_int (fun _ _ => rfl)) (pv 6) (fun _ _ => rfl)) (pg_tup (n := 2) rfl (pgs_cons (pg_name (i := 7) sc_law_is_way.nd rfl (by first | exact Or.inl rfl | exact Or.inr rfl)) (pgs_cons (pg_name (i := 8) sc_law_is_way.nd rfl (by first | exact Or.inl rfl | exact Or.inr rfl)) pgs_nil))))
      (C8.pss_cut (ps_asg (pe_ix (ixL (K := K)) (pe_lst (pa_cons (pe_tup (pa_cons (pv 7) (pa_cons (pv 8) pa_nil))) (pa_cons (pe_tup (pa_cons (pv 8) (pa_cons (pv 7) pa_nil))) pa_nil))) (pe_ix (ixL (K := K)) (pv 1) (pv 6) (fun _ _ => rfl)) (fun _ _ => rfl)) (pg_tup (n := 2) rfl (pgs_cons (pg_name (i := 9) sc_law_is_way.nd rfl (by first | exact Or.inl rfl | exact Or.inr rfl)) (pgs_cons (pg_name (i := 10) sc_law_is_way.nd rfl (by first | exact Or.inl rfl | exact Or.inr rfl)) pgs_nil))))
      (pss_cons (ps_if (PW.pt (pw_or (pt_cmpR op_ne (pv 9) (pe_ix (ixL (K := K)) (pv 5) (pe_op op_sub (pe_callB (lenK (K := K)) (by rfl) (f_len T) PySem.boot_len (pa_cons (pv 5) pa_nil)) pe_int) (fun _ _ => rfl)) (nomark _)) (pw_or1 (pt_cmpR (inSeq (K := K)) (pv 10) (pv 5) (by with_unfolding_all rfl))))) (pss_one (ps_ret pe_bl)) pss_nil)
      (pss_one (ps_expr (pe_bmK (K := K) PySem.F.plainAttrs_list PySem.F.slot_list_append PySem.F.type_list_append mt_append (pv 5) (pa_cons (pv 10) pa_nil)))))))))
      (pss_one (ps_ret (pe_cmpR op_eq (pe_ix (ixL (K := K)) (pv 5) (pe_op op_sub (pe_callB (lenK (K := K)) (by rfl) (f_len T) PySem.boot_len (pa_cons (pv 5) pa_nil)) pe_int) (fun _ _ => rfl)) (pv 4) (nomark _)))))), ?_⟩
    have hpl := po.len
    have hn9 := ok.n9
    have hin : ∀ t ∈ leadsL ats.ties ps, t.2 ∈ ns := fun t ht => (leads_in ok ht).2.1
    refine ⟨_, rfl, (by show 1 ≤ sizeLine; decide), fun f nf => ?_⟩
    have s1 : Same H (upd H f (.lst [.str s₀])) := same_new nf
    refine ⟨_, rfl, l, rfl, ⟨_, SqL.of (s1 _ _ hl)⟩, ?_⟩
    refine for_list (K := K) (a := l) (xs := numsV ks) (fun i σ Hc => ∃ (ms : List Str) (x : Str) (y6 y7 y8 y9 y10 : Option V), σ = [some (.ref w₀), some (.ref r), some (.ref l), some (.str s₀), some (.str y₀), some (.ref f), y6, y7, y8, y9, y10] ∧ Same H Hc ∧ Hc f = some (.lst ((ms ++ [x]).map V.str)) ∧ ms.length = i ∧ WayTo (leadsL ats.ties ps) s₀ (ks.take i) x ∧ IsDist (leadsL ats.ties ps) s₀ x i ∧ ∀ z ∈ ms, ∃ j, j < i ∧ IsDist (leadsL ats.ties ps) s₀ z j)
      ⟨[], s₀, none, none, none, none, none, rfl, s1, upd_same, rfl, .nil, .self _ _, fun z hz => by simp at hz⟩ (fun i σ Hc _ ⟨_, _, _, _, _, _, _, _, z, _⟩ => SqL.of (z _ _ hl)) ?_ ?_
    · rintro i v σ Hc hi ⟨ms, x, y6, y7, y8, y9, y10, rfl, sm, ef, hml, hwx, hdx, hms⟩
      obtain ⟨k, hk, rfl⟩ := nums_at hi
      obtain ⟨z, hlk, hwz, hdz⟩ := hw.turn hd hk hwx
      have hkl := (List.getElem?_eq_some_iff.mp hlk).1
      rw [leadsL_len, Ats.ties_len] at hkl
      have hka : k < ats.length := by omega
      have hi9 := dist_lt hs hin hdz
      obtain ⟨⟨A', u, w'⟩, hA⟩ : ∃ y, ats[k]? = some y := ⟨_, List.getElem?_eq_getElem hka⟩
      obtain ⟨pt, hpt⟩ : ∃ pt, ps[k]? = some pt := ⟨_, List.getElem?_eq_getElem (by omega)⟩
      have hm := List.mem_of_getElem? hA
      have hlead : lead (u, w') pt = (x, z) := Option.some.inj ((leadsL_at (Ats.ties_at hA) hpt).symm.trans hlk)
      have htn := po.turn pt (List.mem_of_getElem? hpt)
      have gv : ats.vals[k]? = some (.ref A') := by
        unfold Ats.vals
        rw [List.getElem?_map, hA]
        rfl
      have gp : (ps.map V.int)[k]? = some (.int pt) := by
        rw [List.getElem?_map, hpt]
        rfl
      refine ⟨_, rfl, _, _, _, _, true, rfl, .ty _, .base (.int _), kit_ty (by decide +kernel), true, rfl, ?_⟩
      refine ⟨_, rfl, _, _, _, _, false, rfl, .ty _, .base (.int _), kit_ty (by decide +kernel), false, rfl, ?_⟩
      refine ⟨_, rfl, 0, _, rfl, rfl, true, ?_, _, rfl, r, _, rfl, .inl (SqL.of (sm _ _ hr')), _, _, rfl, rfl, true, ?_, ?_⟩
      · exact bT (by omega)
      · exact bT (by rw [List.length_map]; omega)
      refine ⟨_, rfl, w₀, _, 1, _, rfl, rfl, SqT.of (sm _ _ hD.tup), rfl, _, rfl, b, _, _, _, rfl, rfl, SqL.of (sm _ _ hD.tie), atI_of rfl gv, A', _, rfl, SqT.of (sm _ _ (hD.tups _ hm)), rfl, _, _, rfl, _, _, rfl, rfl, ?_⟩
      refine ⟨fun σ' H' => σ' = [some (.ref w₀), some (.ref r), some (.ref l), some (.str s₀), some (.str y₀), some (.ref f), some (.int (k : Nat)), some (.str u), some (.str w'), some (.str x), some (.str z)] ∧ Same Hc H', ?_, ?_⟩
      · refine ⟨_, rfl, _, rfl, (by show 2 ≤ sizeLine; decide), fun t1 n1 => ⟨_, rfl, _, rfl, (by show 2 ≤ sizeLine; decide), fun t2 n2 => ⟨(by show 2 ≤ sizeLine; decide), fun l3 n3 => ?_⟩⟩⟩
        have sA : Same Hc (upd Hc t1 (.tup [.str u, .str w'])) := same_new n1
        have sB := sA.next (o := .tup [.str w', .str u]) n2
        have sC := sB.next (o := .lst [.ref t1, .ref t2]) n3
        refine ⟨_, rfl, _, rfl, r, _, _, _, rfl, rfl, SqL.of ((sm.trans sC) _ _ hr'), atI_of rfl gp, ?_⟩
        rcases htn with rfl | rfl
        · cases hlead
          exact ⟨l3, _, 0, _, rfl, rfl, SqL.of upd_same, rfl, t1, _, rfl, SqT.of (same_new n3 _ _ (same_new n2 _ _ upd_same)), rfl, _, _, rfl, _, _, rfl, rfl, rfl, sC⟩
        · cases hlead
          exact ⟨l3, _, 1, _, rfl, rfl, SqL.of upd_same, rfl, t2, _, rfl, SqT.of (same_new n3 _ _ upd_same), rfl, _, _, rfl, _, _, rfl, rfl, rfl, sC⟩
      · rintro σ' G ⟨rfl, sC⟩
        have efC := sC _ _ ef
        have smC := sm.trans sC
        have hlen : (((ms ++ [x]).map V.str).length : Int) - 1 = ((ms.length : Nat) : Int) := by
          rw [List.length_map, List.length_append, List.length_singleton]
          omega
        have gx : ((ms ++ [x]).map V.str)[ms.length]? = some (.str x) := by
          rw [List.getElem?_map, List.getElem?_append_right (Nat.le_refl _), Nat.sub_self]
          rfl
        refine ⟨_, rfl, _, rfl, _, rfl, f, _, rfl, .inl (SqL.of efC), _, _, rfl, rfl, f, _, _, _, rfl, rfl, SqL.of efC, atI_of hlen gx, rfl, false, ?_, ?_⟩
        · rw [decide_eq_true rfl]
          rfl
        have hzn : z ∉ ms ++ [x] := fun q9 => by
          rcases List.mem_append.mp q9 with q9 | q9
          · obtain ⟨j, hj, hdj⟩ := hms z q9
            have := hdz.uniq hdj
            omega
          · rw [List.mem_singleton.mp q9] at hdz
            have := hdz.uniq hdx
            omega
        refine ⟨_, rfl, _, rfl, f, _, rfl, .inl (SqL.of efC), rfl, flat_strs _, false, ?_, ?_⟩
        · show V.bl (inV (.str z) ((ms ++ [x]).map V.str)) = _
          rw [inV_strs, decide_eq_false hzn]
        refine ⟨_, rfl, .inl ⟨rfl, _, SqL.of efC⟩, _, rfl, f, _, _, rfl, rfl, efC, ?_, ms ++ [x], z, _, _, _, _, _, rfl, smC.into nf, ?_, ?_, hwz, hdz, fun y9 hy9 => ?_⟩
        · rw [List.length_map, List.length_append, List.length_singleton]
          exact small1000 (by omega)
        · rw [upd_same, List.map_append (l₁ := ms ++ [x])]
          rfl
        · rw [List.length_append, List.length_singleton, hml]
        · rcases List.mem_append.mp hy9 with q9 | q9
          · obtain ⟨j, hj, hdj⟩ := hms y9 q9
            exact ⟨j, by omega, hdj⟩
          · rw [List.mem_singleton.mp q9]
            exact ⟨i, by omega, hdx⟩
    · rintro σ Hc ⟨ms, x, y6, y7, y8, y9, y10, rfl, sm, ef, hml, hwx, hdx, hms⟩
      have e0 : (numsV ks).length = ks.length := List.length_map ..
      rw [e0, List.take_length] at hwx
      have hxy := hwx.end_ hw
      subst hxy
      have hlen : (((ms ++ [x]).map V.str).length : Int) - 1 = ((ms.length : Nat) : Int) := by
        rw [List.length_map, List.length_append, List.length_singleton]
        omega
      have gx : ((ms ++ [x]).map V.str)[ms.length]? = some (.str x) := by
        rw [List.getElem?_map, List.getElem?_append_right (Nat.le_refl _), Nat.sub_self]
        rfl
      refine ⟨_, rfl, _, rfl, f, _, rfl, .inl (SqL.of ef), _, _, rfl, rfl, f, _, _, _, rfl, rfl, SqL.of ef, atI_of hlen gx, _, rfl, rfl, ?_⟩
      rw [decide_eq_true rfl]
      exact q _ sm
end PW

namespace PW
open PySem PySem.Spec PyProof.Rows L2
def dNums (ks : List Nat) : PyData := dI (ks.map fun k => ((k : Nat) : Int))
theorem numsV_eq (ks : List Nat) : numsV ks = (ks.map fun k => ((k : Nat) : Int)).map V.int := by
  unfold numsV
  rw [List.map_map]
  rfl
def spRight33 (K : PySem.W.Frag) : Sp := fun vs H Q _ => ∃ (x t a b r g d : Addr) (gb : Bool) (s y : Str) (ns : List Str) (ats : Ats) (ps : List Int) (fl : Rds), vs = [.ref x, .ref t, .ref r, .ref g, .str s, .str y, .ref d] ∧ WebAt K H x ns ats ∧ DatAt H t a b ns ats ∧ WebOk ns ats ∧ H r = some (.lst (ps.map V.int)) ∧ H g = some (rowO gb (ps.map V.int)) ∧ PointOk ats ps ∧ s ∈ ns ∧ y ∈ ns ∧ H d = some (.dK fl.kv) ∧ RdsOk ns (leadsL ats.ties ps) s fl ∧
  ∀ H', Same H H' → Q (.bl true) H'
theorem ok_law_right {P : Program} {w : World} {K : PySem.W.Frag} {mg : Str → Option Value} {base : Heap} (T : Top K mg) :
    C8.Cal P w K mg base 6 "_law_right" (spRight33 K) [] := by
  refine cal_of (fd_law_right T) (g_law_right T) sc_law_right bi_law_right (fun vs H Q E h => ?_) (fun cdv A outer s H vs Q E hr h => ?_)
  · obtain ⟨x, t, a, b, r, g, d, gb, s₀, y₀, ns, ats, ps, fl, rfl, _⟩ := h
    rfl
  · obtain ⟨x, t, a, b, r, g, d, gb, s₀, y₀, ns, ats, ps, fl, rfl, hW, hD, ok, er, eg, po, hs, hy, ed, R, q⟩ := h
    refine ⟨_, (pss_cons (ps_set (i := 7) sc_law_right.nd rfl (by first | exact Or.inl rfl | exact Or.inr rfl) (C8.pe_c (ok_way T) hr (by decide) (by rfl) (pa_cons (pv 0) (pa_cons (pv 3) (pa_cons (pv 4) (pa_cons (pv 5) pa_nil))))))
      (pss_cons (ps_if (pt_cmp (pc_dnotin (hu_of hr) (pv 5) (pv 6))) (pss_one (ps_ret (pe_cmpR op_isN (pv 7) pe_non (nomark _)))) pss_nil)
      (pss_cons (ps_if (PW.pt (pw_or (pt_not (pt_val (pe_callB (isiK1 (K := K)) (by rfl) (f_isinstance T) (by decide +kernel) (pa_cons (pv 7) (pa_cons (pe_bltn (v := .ty "list") (by rfl) (f_list T) (by decide +kernel) rfl) pa_nil))))) (pw_or (pt_cmpR op_ne (pe_callB (lenK (K := K)) (by rfl) (f_len T) PySem.boot_len (pa_cons (pv 7) pa_nil)) (pe_dget (hu_of hr) (pv 6) (pv 5) (fun _ _ => rfl)) (nomark _)) (pw_or1 (pt_not (pt_val (C8.pe_c (ok_law_is_way T) hr (by decide) (by rfl) (pa_cons (pv 1) (pa_cons (pv 2) (pa_cons (pv 7) (pa_cons (pv 4) (pa_cons (pv 5) pa_nil)))))))))))) (pss_one (ps_ret pe_bl)) pss_nil)
      (pss_cons (ps_set (i := 8) sc_law_right.nd rfl (by first | exact Or.inl rfl | exact Or.inr rfl) (pe_callTy (listK (K := K)) (by rfl) (f_list T) (by decide +kernel) (pa_cons (pv 7) pa_nil)))
      (pss_cons (ps_expr (pe_bmK (K := K) PySem.F.plainAttrs_list PySem.F.slot_list_append PySem.F.type_list_append mt_append (pv 7) (pa_cons pe_int pa_nil)))
      (pss_one (ps_ret (pe_cmpR (eqDK (K := K) hr.units) (C8.pe_c (ok_way T) hr (by decide) (by rfl) (pa_cons (pv 0) (pa_cons (pv 3) (pa_cons (pv 4) (pa_cons (pv 5) pa_nil))))) (pv 8) (nomark _))))))))), ?_⟩
    have hn9 := ok.n9
    have hin : ∀ t ∈ leadsL ats.ties ps, t.2 ∈ ns := fun t ht => (leads_in ok ht).2.1
    refine ⟨_, rfl, _, rfl, _, rfl, _, rfl, x, g, gb, s₀, y₀, ns, ats, ps, rfl, hW, ok, eg, po, hs, hy, fun v o H1 s1 hv hway hfr => ?_⟩
    refine ⟨_, rfl, _, rfl, d, _, rfl, DGet.k (k := Sum.inr y₀) (s1 _ _ ed), _, rfl, ?_⟩
    rw [Rds.has]
    cases o with
    | none =>
      have hv : v = .non := hv
      subst hv
      rw [decide_eq_false fun z => hway.none ((R.names y₀).mp z)]
      refine iteT ?_
      refine ⟨_, rfl, rfl, ?_⟩
      rw [decide_eq_true rfl]
      exact q _ s1
    | some ks =>
      obtain ⟨l, rfl, el⟩ := hv
      have fl0 := hfr l rfl
      obtain ⟨hwt, hds⟩ := hway.some
      have hmem := (R.iff y₀ ks.length).mpr hds
      have hkl := dist_lt hs hin hds
      have e0 : (numsV ks).length = ks.length := List.length_map ..
      rw [decide_eq_true ((R.names y₀).mpr hds.wk.rch)]
      refine iteF ?_
      refine ⟨_, rfl, _, _, _, _, true, rfl, .ty _, .base (.lst el), kit_ty (by decide +kernel), true, rfl, ?_⟩
      have hval : valV fl.kv (Sum.inr y₀) = some (.int (ks.length : Nat)) := Rds.val R.nd hmem
      refine ⟨_, rfl, l, _, rfl, .inl (SqL.of el), _, rfl, _, rfl, d, _, rfl, (hval ▸ DGet.k (k := Sum.inr y₀) (s1 _ _ ed)), rfl, false, ?_, ?_⟩
      · rw [e0, decide_eq_true rfl]
        rfl
      refine ⟨_, rfl, _, rfl, _, rfl, _, rfl, _, rfl, t, a, b, r, l, s₀, y₀, ns, ats, ps, ks, rfl, hD.same s1, ok, s1 _ _ er, po, el, hs, hwt, hds, fun H2 s2' => ⟨true, rfl, ?_⟩⟩
      have s2 := s1.trans s2'
      have el2 := s2' _ _ el
      refine ⟨_, rfl, l, _, rfl, .inl (SqL.of el2), fun kp nkp => ?_⟩
      have s3 := s2.next (o := .lst (numsV ks)) nkp
      have el3 := same_new (o := .lst (numsV ks)) nkp _ _ el2
      refine ⟨_, rfl, .inl ⟨rfl, _, SqL.of el3⟩, l, _, _, rfl, rfl, el3, (by rw [e0]; exact small1000 (by omega)), ?_⟩
      have s4 : Same H (upd (upd H2 kp (.lst (numsV ks))) l (.lst (numsV ks ++ [.int 0]))) := s3.into fl0
      have nkl : kp ≠ l := (ne_of_none el2 nkp).symm
      have ekp : upd (upd H2 kp (.lst (numsV ks))) l (.lst (numsV ks ++ [.int 0])) kp = some (.lst (numsV ks)) := by
        rw [upd_ne nkl]
        exact upd_same
      refine ⟨_, rfl, _, rfl, _, rfl, _, rfl, x, g, gb, s₀, y₀, ns, ats, ps, rfl, hW.same s4, ok, s4 _ _ eg, po, hs, hy, fun v2 o2 H5 s5 hv2 hway2 _ => ?_⟩
      have eo := hway.uniq hway2
      subst eo
      obtain ⟨l2, rfl, el2'⟩ := hv2
      have ekp5 := s5 _ _ ekp
      rw [numsV_eq] at el2' ekp5
      have pl := plain_dI (ks.map fun k => ((k : Nat) : Int))
      refine ⟨_, rfl, _, _, dp_ints (SqL.of el2'), dp_ints (SqL.of ekp5), pl.shaped, pl.shaped, ?_⟩
      rw [pl.eqv_self]
      exact q _ (s4.trans s5)
theorem shw_names {xs : List Str} (h : ∀ x ∈ xs, IsName x) (hl : xs.length ≤ 9) : Shw 45 1 (dS xs) := Shw.list (W := 4) (n := 0) (L := 9) (fun d hd => by
  obtain ⟨x, hx, rfl⟩ := List.mem_map.mp hd
  have hn := h x hx
  refine Shw.str (strOk_name hn) ?_
  obtain ⟨l, rfl, _, h4, _⟩ := hn
  rw [SX.S_len]
  exact h4) (by rw [List.length_map]; exact hl)
def spLaw (K : PySem.W.Frag) : Sp := fun vs H Q _ => ∃ (a : Addr) (ns : List Int), vs = [.ref a] ∧ SqL K H a (ns.map V.int) ∧ ns.length ≤ 63 ∧ ∀ H', Q (.bl true) H'
theorem fn_law {P : Program} {w : World} {K : PySem.W.Frag} {mg : Str → Option Value} {base : Heap} (T : Top K mg) {fd : FuncData}
    (F : FunD K "law" "law" (defArgs s_law) (defBody s_law) (defScope s_law) [] [] (He.fAd K ("law", none)) fd) : FnG P w K mg base C8.CX0 7 (He.fAd K ("law", none)) fd ["_law_script"] (spLaw K) := by
  refine fnG_nox F sc_law (fun vs H Q E h => ?_) (fun cdv A outer s H vs Q E gd hr h => ?_)
  · obtain ⟨a, ns, rfl, _⟩ := h
    rfl
  · obtain ⟨a, ns, rfl, hS, hlen, q⟩ := h
    refine ⟨_, (pss_cons (ps_for PassesOwn.never rfl (pi_range1 (by rfl) (f_range T) (pa_cons (pe_callB (call_max2 rfl) (by rfl) (f_max T) (by decide +kernel) (pa_cons pe_int (pa_cons (pe_callB (call_min2 rfl) (by rfl) (f_min T) (by decide +kernel) (pa_cons pe_int (pa_cons (pe_callB (lenK (K := K)) (by rfl) (f_len T) PySem.boot_len (pa_cons (pv 0) pa_nil)) pa_nil))) pa_nil))) pa_nil)) (pg_name (i := 1) sc_law.nd rfl (by first | exact Or.inl rfl | exact Or.inr rfl)) (pss_cons (ps_set (i := 2) sc_law.nd rfl (by first | exact Or.inl rfl | exact Or.inr rfl) (C8.pe_c (ok_law_pot T) hr (by decide) (by rfl) (pa_cons (pv 0) (pa_cons (pv 1) pa_nil))))
      (pss_cons (ps_set (i := 3) sc_law.nd rfl (by first | exact Or.inl rfl | exact Or.inr rfl) (C8.pe_c (ok_law_web T) hr (by decide) (by rfl) (pa_cons (pv 2) (pa_cons pe_int (pa_cons pe_int pa_nil)))))
      (pss_cons (ps_set (i := 4) sc_law.nd rfl (by first | exact Or.inl rfl | exact Or.inr rfl) (C8.pe_mk (ok_Web_init T) hr (by decide) (by rfl) (pa_cons (pe_ix (ixT (K := K)) (pv 3) pe_int (fun _ _ => rfl)) (pa_cons (pe_ix (ixT (K := K)) (pv 3) pe_int (fun _ _ => rfl)) pa_nil))))
      (pss_cons (ps_set (i := 5) sc_law.nd rfl (by first | exact Or.inl rfl | exact Or.inr rfl) (C8.pe_c (ok_law_pointing T) hr (by decide) (by rfl) (pa_cons (pv 2) (pa_cons (pv 3) pa_nil))))
      (pss_cons (ps_set (i := 6) sc_law.nd rfl (by first | exact Or.inl rfl | exact Or.inr rfl) (C8.pe_c (ok_law_handed T) hr (by decide) (by rfl) (pa_cons (pv 2) (pa_cons (pv 5) pa_nil))))
      (pss_cons (ps_for PassesOwn.never rfl (pi_list (pe_ix (ixT (K := K)) (pv 3) pe_int (fun _ _ => rfl))) (pg_name (i := 7) sc_law.nd rfl (by first | exact Or.inl rfl | exact Or.inr rfl)) (pss_cons (ps_set (i := 8) sc_law.nd rfl (by first | exact Or.inl rfl | exact Or.inr rfl) (C8.pe_c (ok_law_rounds T) hr (by decide) (by rfl) (pa_cons (pv 3) (pa_cons (pv 5) (pa_cons (pv 7) pa_nil)))))
      (pss_cons (ps_setLc (i := 9) (own := [("_law_point", 11)]) (g := gName 11) (by rfl) sc_law.nd rfl rfl (sw_true rfl rfl rfl (by decide +kernel)) (pi_list (pe_ix (ixT (K := K)) (pv 3) pe_int (fun _ _ => rfl))) (blkOk_by (own := [("_law_point", 11)]) (N := ["_law_script", "_law_k", "_law_pot_here", "_law_web_here", "_law_made", "_law_row", "_law_given", "_law_a", "_law_rounds_here", "_law_due", "_law_told", "_law_point", "_law_b"]) (sc := defScope s_law) (by decide +kernel)) (fun _ _ _ _ _ => (pg_name (i := 11) sc_law.nd rfl (by first | exact Or.inl rfl | exact Or.inr rfl))) (fun _ _ _ _ _ => (pts_one (pt_cmp (pc_din (hu_of hr) (pv 11) (pv 8))))) (fun _ _ _ _ _ => (pv 11)))
      (pss_cons (ps_set (i := 10) sc_law.nd rfl (by first | exact Or.inl rfl | exact Or.inr rfl) (C8.pe_c (ok_reached T) hr (by decide) (by rfl) (pa_cons (pv 4) (pa_cons (pv 6) (pa_cons (pv 7) pa_nil)))))
      (pss_cons (ps_if (pt_cmpR op_ne (pe_callB (reprK (K := K) gd (u65 hr)) (by rfl) (f_repr T) (by decide +kernel) (pa_cons (pv 10) pa_nil)) (pe_callB (reprK (K := K) gd (u65 hr)) (by rfl) (f_repr T) (by decide +kernel) (pa_cons (pv 9) pa_nil)) (nomark _)) (pss_one (ps_ret pe_bl)) pss_nil)
      (pss_cons (ps_expr (pe_bm0K (K := K) PySem.F.plainAttrs_list PySem.F.slot_list_clear PySem.F.type_list_clear mt_clear (pv 10)))
      (pss_cons (ps_if (pt_cmpR (neDK (K := K) hr.units) (C8.pe_c (ok_reached T) hr (by decide) (by rfl) (pa_cons (pv 4) (pa_cons (pv 6) (pa_cons (pv 7) pa_nil)))) (pv 9) (nomark _)) (pss_one (ps_ret pe_bl)) pss_nil)
      (pss_one (ps_if (pt_not (pt_val (pe_callB (allK (K := K) rfl) (by rfl) (f_all T) (by decide +kernel) (pa_cons (pe_lc (own := [("_law_b", 12)]) (g := gName 12) (by rfl) sc_law.nd (pi_list (pe_ix (ixT (K := K)) (pv 3) pe_int (fun _ _ => rfl))) (blkOk_by (own := [("_law_b", 12)]) (N := ["_law_script", "_law_k", "_law_pot_here", "_law_web_here", "_law_made", "_law_row", "_law_given", "_law_a", "_law_rounds_here", "_law_due", "_law_told", "_law_point", "_law_b"]) (sc := defScope s_law) (by decide +kernel)) (fun _ _ _ _ _ => (pg_name (i := 12) sc_law.nd rfl (by first | exact Or.inl rfl | exact Or.inr rfl))) (fun _ _ _ _ _ => pts_nil) (fun _ _ _ _ _ => (C8.pe_c (ok_law_right T) hr (by decide) (by rfl) (pa_cons (pv 4) (pa_cons (pv 3) (pa_cons (pv 5) (pa_cons (pv 6) (pa_cons (pv 7) (pa_cons (pv 12) (pa_cons (pv 8) pa_nil)))))))))) pa_nil)))) (pss_one (ps_ret pe_bl)) pss_nil)))))))))
      (pss_one (ps_if (pt_cmpR (neDK (K := K) hr.units) (pe_callTy (listK (K := K)) (by rfl) (f_list T) (by decide +kernel) (pa_cons (pv 6) pa_nil)) (pv 5) (nomark _)) (pss_one (ps_ret pe_bl)) pss_nil)))))))))
      (pss_one (ps_ret pe_bl))), ?_⟩
    have hlm : ((ns.map V.int).length : Int) = ns.length := by rw [List.length_map]
    refine ⟨_, rfl, a, _, rfl, .inl hS, _, _, rfl, _, _, rfl, _, rfl, ?_, ?_, ?_⟩
    · split <;> split <;> omega
    · split <;> split <;> omega
    have hcnt : (if (if ((ns.map V.int).length : Int) < 6 then ((ns.map V.int).length : Int) else 6) > 1 then (if ((ns.map V.int).length : Int) < 6 then ((ns.map V.int).length : Int) else 6) else 1).toNat ≤ 6 := by
      split <;> split <;> omega
    refine for_range (lo := 0) (fun i σ Hc => ∃ y1 y2 y3 y4 y5 y6 y7 y8 y9 y10 : Option V, σ = [some (.ref a), y1, y2, y3, y4, y5, y6, y7, y8, y9, y10, none, none] ∧ Same H Hc) ⟨none, none, none, none, none, none, none, none, none, none, rfl, Same.refl H⟩ ?_ ?_
    · rintro i σ Hc hi ⟨y1, y2, y3, y4, y5, y6, y7, y8, y9, y10, rfl, sm⟩
      have hi6 : i < 6 := Nat.lt_of_lt_of_le hi hcnt
      refine ⟨_, rfl, _, rfl, a, _, ns, rfl, sm.seq hS, by omega, by omega, by omega, fun p H1 np s1 hp => ?_⟩
      refine ⟨_, rfl, p, 9, 20, rfl, hp, by decide, by decide, by decide, by decide, fun t wa wb nm ats H2 hn n1 n9 t20 hv ft fa fb nab k2 p2 et ea eb hT => ?_⟩
      have ok : WebOk nm ats := ⟨hn, n1, by omega, by omega, hv⟩
      have nwa : wa ≠ p := hp.ne fa
      have nwb : wb ≠ p := hp.ne fb
      have hDt : DatAt H2 t wa wb nm ats := ⟨et, ea, eb, hT⟩
      refine ⟨_, rfl, t, _, 0, _, rfl, rfl, SqT.of et, rfl, _, rfl, t, _, 1, _, rfl, rfl, SqT.of et, rfl, make_web ea eb hT ok fun x H3 nx s3 hW => ?_⟩
      have p3 := p2.same s3
      have hD3 := hDt.same s3
      refine ⟨_, rfl, _, rfl, p, t, wa, wb, nm, ats, rfl, p3, nwa, nwb, hD3, ok, fun r ps H4 nr k4 p4 er po => ?_⟩
      have nrp : r ≠ p := p3.ne nr
      have hD4 := hD3.kp p3 nwa nwb k4
      have hW4 := hW.kp p3 n1 k4
      refine ⟨_, rfl, _, rfl, p, r, _, rfl, p4, nrp, er, fun g gb H5 ng k5 p5 eg => ?_⟩
      have hD5 := hD4.kp p4 nwa nwb k5
      have hW5 := hW4.kp p4 n1 k5
      have er5 := k5 _ _ nrp er
      have s05 : Same H H5 := fun z o hz => by
        have nz : z ≠ p := ne_of_none (sm _ _ hz) np
        exact k5 z o nz (k4 z o nz (s3 _ _ (k2 z o nz (s1 _ _ (sm _ _ hz)))))
      have hlnm : (nm.map V.str).length = nm.length := List.length_map ..
      have hnm9 : nm.length ≤ 9 := ok.n9
      refine ⟨_, rfl, t, _, 0, _, rfl, rfl, SqT.of hD5.tup, rfl, wa, rfl, ⟨_, SqL.of hD5.nam⟩, ?_⟩
      refine for_list (K := K) (a := wa) (xs := nm.map V.str) (fun j σ Hd => ∃ y7 y8 y9 y10 : Option V, σ = [some (.ref a), some (.int ((0 : Int) + (i : Int))), some (.ref p), some (.ref t), some (.ref x), some (.ref r), some (.ref g), y7, y8, y9, y10, none, none] ∧ Same H5 Hd)
        ⟨_, _, _, _, rfl, Same.refl _⟩ (fun j σ Hd _ ⟨_, _, _, _, _, z⟩ => SqL.of (z _ _ hD5.nam)) ?_ ?_
      · rintro j v σ Hd hj ⟨y7, y8, y9, y10, rfl, sd⟩
        obtain ⟨s₀, hs0, rfl⟩ := strs_at hj
        have hs := List.mem_of_getElem? hs0
        have hDd := hD5.same sd
        refine ⟨_, rfl, _, rfl, _, rfl, t, wa, wb, r, s₀, nm, ats, ps, rfl, hDd, ok, sd _ _ er5, po, hs, fun d fl H6 nd s6' ed R => ?_⟩
        have s6 := sd.trans s6'
        have hD6 := hD5.same s6
        -- due
        refine ⟨_, rfl, t, _, 0, _, rfl, rfl, SqT.of hD6.tup, rfl, wa, rfl, ⟨_, SqL.of hD6.nam⟩, fun D nD => ?_⟩
        refine lc_list (K := K) (a := wa) (xs := nm.map V.str) (fun k H7 => Same H6 H7 ∧ H7 D = some (.lst (((nm.take k).filter fun y => rchB (Led (leadsL ats.ties ps)) s₀ y).map V.str))) ⟨same_new nD, upd_same⟩ (fun k H7 _ z => SqL.of (z.1 _ _ hD6.nam)) ?_ ?_
        · rintro k v H7 hk ⟨s7, eD⟩
          obtain ⟨z, hz, rfl⟩ := strs_at hk
          have hil := (List.getElem?_eq_some_iff.mp hz).1
          have erz : decide (z ∈ fl.names) = rchB (Led (leadsL ats.ties ps)) s₀ z := by
            rw [Bool.eq_iff_iff, decide_eq_true_iff, rchB_iff]
            exact R.names z
          refine ⟨rfl, _, rfl, _, rfl, d, _, rfl, DGet.k (k := Sum.inr z) (s7 _ _ ed), _, rfl, ?_⟩
          rw [Rds.has, erz]
          refine ite2 (fun c4 => ?_) (fun c4 => ?_)
          · refine ⟨_, rfl, _, eD, ?_, s7.into nD, ?_⟩
            · rw [List.length_map]
              refine small1000 (Nat.le_trans (List.length_filter_le ..) ?_)
              rw [List.length_take]
              omega
            · rw [upd_same, take_snoc hz, List.filter_append, List.filter_cons_of_pos (p := fun y => rchB (Led (leadsL ats.ties ps)) s₀ y) c4, List.filter_nil, List.map_append]
              rfl
          · refine ⟨s7, ?_⟩
            rw [take_snoc hz, List.filter_append, List.filter_cons_of_neg (p := fun y => rchB (Led (leadsL ats.ties ps)) s₀ y) c4, List.filter_nil, List.append_nil]
            exact eD
        rintro H7 ⟨s7', eD⟩
        rw [hlnm, List.take_length] at eD
        have eD : H7 D = some (.lst ((reachedL nm (leadsL ats.ties ps) s₀).map V.str)) := eD
        have s7 := s6.trans s7'
        generalize hrl : reachedL nm (leadsL ats.ties ps) s₀ = rl at *
        have hsub : ∀ z ∈ rl, z ∈ nm := fun z hz => by
          rw [← hrl] at hz
          exact (mem_hangL.mp hz).1
        have hrn : ∀ z ∈ rl, IsName z := fun z hz => hn.ok z (hsub z hz)
        have hrl9 : rl.length ≤ 9 := by
          rw [← hrl]
          exact Nat.le_trans (List.length_filter_le ..) hnm9
        have hsh := shw_names hrn hrl9
        have pl := plain_dS hrn
        refine ⟨_, rfl, _, rfl, _, rfl, x, g, gb, s₀, nm, ats, ps, rfl, hW5.same s7, ok, s7 _ _ eg, po, hs, fun tl H8 ntl s8' etl => ?_⟩
        rw [hrl] at etl
        have s8 := s7.trans s8'
        refine ⟨_, rfl, .inl ⟨tl, _, rfl, dp_strs (SqL.of etl), hsh.shw, hsh.nod, hsh.deep, hsh.fit, _, rfl, .inl ⟨D, _, rfl, dp_strs (SqL.of (s8' _ _ eD)), hsh.shw, hsh.nod, hsh.deep, hsh.fit, rfl, false, ?_, ?_⟩⟩⟩
        · rw [decide_eq_true rfl]
          rfl
        refine ⟨_, rfl, .inl ⟨rfl, _, SqL.of etl⟩, tl, _, rfl, rfl, etl, ?_⟩
        have ftl : H7 tl = none := ntl
        have s9' : Same H7 (upd H8 tl (.lst [])) := s8'.into ftl
        have s9 := s7.trans s9'
        refine ⟨_, rfl, _, rfl, _, rfl, x, g, gb, s₀, nm, ats, ps, rfl, hW5.same s9, ok, s9 _ _ eg, po, hs, fun tl2 H10 ntl2 s10' etl2 => ?_⟩
        rw [hrl] at etl2
        have s10 := s9.trans s10'
        refine ⟨_, rfl, _, _, dp_strs (SqL.of etl2), dp_strs (SqL.of (s10' _ _ (s9' _ _ eD))), pl.shaped, pl.shaped, false, ?_, ?_⟩
        · rw [pl.eqv_self]
          rfl
        have ed10 := s10' _ _ (s9' _ _ (s7' _ _ ed))
        have hD10 := hD5.same s10
        refine ⟨_, rfl, t, _, 0, _, rfl, rfl, SqT.of hD10.tup, rfl, wa, rfl, ⟨_, SqL.of hD10.nam⟩, fun F nF => ?_⟩
        refine lc_list (K := K) (a := wa) (xs := nm.map V.str) (fun k H11 => Same H10 H11 ∧ H11 F = some (.lst ((List.replicate k true).map V.bl))) ⟨same_new nF, upd_same⟩ (fun k H11 _ z => SqL.of (z.1 _ _ hD10.nam)) ?_ ?_
        · rintro k v H11 hk ⟨s11, eF⟩
          obtain ⟨z, hz, rfl⟩ := strs_at hk
          have hil := (List.getElem?_eq_some_iff.mp hz).1
          have s11' := s10.trans s11
          refine ⟨rfl, _, rfl, _, rfl, _, rfl, _, rfl, _, rfl, _, rfl, _, rfl, x, t, wa, wb, r, g, d, gb, s₀, z, nm, ats, ps, fl, rfl, hW5.same s11', hD5.same s11', ok, s11' _ _ er5, s11' _ _ eg, po, hs, List.mem_of_getElem? hz, s11 _ _ ed10, R, fun H12 s12 => ⟨_, s12 _ _ eF, ?_, (s11.trans s12).into nF, ?_⟩⟩
          · rw [List.length_map, List.length_replicate]
            exact small1000 (by omega)
          · rw [upd_same, List.replicate_succ', List.map_append]
            rfl
        · rintro H11 ⟨s11, eF⟩
          refine ⟨F, _, rfl, SqL.of eF, true, ?_, ?_⟩
          · rw [List.all_replicate]
            simp
          exact ⟨_, _, _, _, rfl, s10.trans s11⟩
      · rintro σ Hd ⟨y7, y8, y9, y10, rfl, sd⟩
        have pl := plain_dI ps
        refine ⟨_, rfl, g, _, rfl, rowO.sq (sd _ _ eg), fun l2 n2 => ?_⟩
        have s2 := sd.next (o := .lst (ps.map V.int)) n2
        refine ⟨_, rfl, _, _, dp_ints (SqL.of upd_same), dp_ints (SqL.of (s2 _ _ er5)), pl.shaped, pl.shaped, false, ?_, ?_⟩
        · rw [pl.eqv_self]
          rfl
        exact ⟨_, _, _, _, _, _, _, _, _, _, rfl, s05.trans s2⟩
    · rintro σ Hc ⟨y1, y2, y3, y4, y5, y6, y7, y8, y9, y10, rfl, sm⟩
      exact q _
theorem law_end {P : Program} {w : World} {K : PySem.W.Frag} {mg : Str → Option Value} {fa : Addr} (T : Top K mg) (hmg : mg "law" = some (.ref fa)) :
    ∃ fd : FuncData, (∀ (s : Shared) (v : Value), BindsTo s fd ⟨[v], []⟩ [("_law_script", v)]) ∧ ∀ base : Heap, K.In base → base.Ns mainGlobals mg → FnG P w K mg base C8.CX0 7 fa fd ["_law_script"] (spLaw K) := by
  obtain ⟨fd, F⟩ := fd_law T
  have e := hmg.symm.trans (g_law T)
  cases e
  exact ⟨fd, fun s v => FunD.bindsA (ps := ["_law_script"]) F bi_law s [v] rfl, fun base _ _ => fn_law T F⟩
end PW

namespace PW
open PySem PySem.W PySem.Calls PyProof.Rows
def loose0 : List PySem.Str := ["PointError", "NoWeb", "NoPoint", "NoPointing", "is_whole", "is_listed", "is_turn", "is_pointing", "want_pointing", "leads_of", "want_point", "steps_from", "way", "reached", "SMALL", "MOST_LETTERS", "MOST_POINTS", "MOST_TIES", "is_row", "is_name", "are_names", "is_pair", "Web", "_law_pot", "_law_take", "_law_names", "_law_mixed", "_law_tie", "_law_web", "_law_pointing"]
def loose1 : List PySem.Str := ["_law_handed", "_law_rounds", "_law_is_way", "_law_right"]
def loose : List PySem.Str := loose0 ++ loose1
abbrev R : PySem.W.OpenRow := PySem.W.OpenLaw.row PySem.Challenge.rw_pointways_k33_whole_ways_of_fewest_ties
abbrev hk : PySem.W.Hook := He.hookD 5 fa fn
def ob (s : PySem.W.SharedT) : He.AlD := He.obsDG 5 fa fn (HandSHeadRun.getT s)
theorem ob_eq (s : PySem.W.SharedT) : ob s = hk.obs s.abs := He.obsDG_eq (HandSHeadRun.getT_eq s)
theorem run (w : World) : HandSHeadRun.RunEq R (PySem.W.view R.prog [39]) hk ob 4000 loose w := by
  intro os
  kernel_rfl
end PW
open PySem PySem.W PySem.Calls PyProof.Rows
set_option maxHeartbeats 0 in
theorem PySem.Challenge.cw_pointways_k33_whole_ways_of_fewest_ties_holds : PySem.Challenge.rw_pointways_k33_whole_ways_of_fewest_ties.Holds := by
  w_on; o_law
  refine HandSHeadRun.head_any (r := OpenLaw.row PySem.Challenge.rw_pointways_k33_whole_ways_of_fewest_ties)
    (q := view (OpenLaw.row PySem.Challenge.rw_pointways_k33_whole_ways_of_fewest_ties).prog [39]) (H := PW.hk) (ob := PW.ob) (M := 4000) (loose := PW.loose)
    (d := HandSHeadRun.topDef (OpenLaw.row PySem.Challenge.rw_pointways_k33_whole_ways_of_fewest_ties).prog 39) (kwd := []) PW.ob_eq (by kernel_rfl) (fun s => by kernel_rfl) PW.run
    (by kernel_rfl) (by kernel_rfl) (by kernel_rfl) (by rfl) (by first | assumption | decide +kernel) (by decide +kernel)
    ⟨rfl, rfl, rfl, rfl, rfl, by decide +kernel⟩ ?hw ?hc
  case hw => w_witness2
  case hc =>
    refine PW.walk_ofG (l := PySem.Challenge.rw_pointways_k33_whole_ways_of_fewest_ties) (n := 63) (k := 7) (x := "_law_script") (cx := C8.CX0)
      rfl (by decide) (by kernel_rfl) ⟨rfl, by decide, by decide⟩ ?F (fun _ _ _ _ z => z)
    intro w mg fa h Y G hmg0
    obtain ⟨K, KX, c⟩ := Y
    have hmg : mg ("law" : PySem.Str) = some (.ref fa) := by
      have e : (HandSHeadRun.topDef (OpenLaw.row PySem.Challenge.rw_pointways_k33_whole_ways_of_fewest_ties).prog 39).name = ("law" : PySem.Str) := by kernel_rfl
      rw [← e]
      exact hmg0
    have T : PW.Top K mg := PW.TopOf.mk' KX G c
    obtain ⟨fd, hb, hF⟩ := PW.law_end (P := (PySem.Challenge.rw_pointways_k33_whole_ways_of_fewest_ties).prog) (w := w) T hmg
    exact ⟨K, fd, PW.spLaw K, KX, hb, fun H a ns hl _ hS => ⟨a, ns, rfl, hS, hl, fun _ => rfl⟩, hF⟩
