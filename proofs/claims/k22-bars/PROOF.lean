import PyProof.Rows.All
import Wide.All
import OpenK.AllK
import Wide.FinOn
import HandS.ForMost
import HandS.Codes
import HandS.IsInst
import HandS.More
import HandS.Defaults
import HandS.Walk
import HandS.Deep
import HandS.Conv
import HandS.Zip
import HandS.Head0
import HandS.Head1
import HandS.Head2
import HandS.HeadEnd
import HandS.HeadHook1
import HandS.HeadHook2
import PySem.Challenge.RW_pointways_k22_whole_bars
set_option Elab.async false
set_option linter.all false
set_option maxRecDepth 100000
set_option maxHeartbeats 4000000
namespace PW
open PySem PySem.Spec PyProof.Rows L2
/-! ### what the top left, by names -/
structure TopOf (fa : List He.Fa) (fn : List He.DefD) (K : PySem.W.Frag) (mg : Str → Option Value) : Prop where
  says : He.SaysD fa fn K
  glo : ∀ x, (He.Fa.glo x).ok K = true → mg x = some (.ref (He.ga K x))
  free : ∀ x, (He.Fa.free x).ok K = true → mg x = none
  int : ∀ x i, (He.Fa.int x i).ok K = true → ∃ t, mg x = some (.int i t)
  str : ∀ x z, (He.Fa.str x z).ok K = true → ∃ t, mg x = some (.str z t)
theorem TopOf.mk' {fa : List He.Fa} {fn : List He.DefD} {K : PySem.W.Frag} {mg : Str → Option Value} {h : Heap} (X : K.In h) (G : h.Ns mainGlobals mg) (c : He.SaysD fa fn K) : TopOf fa fn K mg :=
  ⟨c, fun _ z => He.glo_ok X G z, fun _ z => He.free_ok X G z, fun _ _ z => He.int_ok X G z, fun _ _ z => He.str_ok X G z⟩
section
variable {P : Program} {w : World} {K : PySem.W.Frag} {mg : Str → Option Value} {base : Heap}
abbrev BodyOf (P : Program) (w : World) (K : PySem.W.Frag) (mg : Str → Option Value) (base : Heap) (N : List Str) (qual : Str) (sc : Scope) (bd : List Stmt) (f : Addr) (k : Nat) (sp : Sp) : Prop :=
  ∀ (cdv : Value) (A : Around) (outer : List Env) (s : Shared) (H : Hp) (vs : List V) (Q : VK) (E : XK), Room k (A.deeper (envOfC qual sc s.heap.objs.size f cdv)) → sp vs H Q E →
      ∃ t, PSs (cxOf C8.CX0 P w K mg base N qual sc f cdv A outer s H E).nox bd t ∧ t { nx := fun _ H' => Q .non H', rt := Q } (start N vs) H
abbrev BindOf (x qual : Str) (pa : Arguments) (bd : List Stmt) (sc : Scope) (ps : List Str) : Prop :=
  ∀ (kV doc pm : Value) (an : Option Addr) (cdv ct : Value) (us : List Value), us.length = ps.length → bindArgs (PySem.W.fnOf x qual pa bd sc .none kV doc pm an cdv ct) ⟨us, []⟩ = pure (ps.zip us)
theorem fnok_of {x qual : Str} {pa : Arguments} {bd : List Stmt} {sc : Scope} {f : Addr} {fd : FuncData} {N ps : List Str} {k : Nat} {sp : Sp} (F : FunD K x qual pa bd sc [] [] f fd) (S : FnScope N ps sc)
    (len : ∀ vs H Q E, sp vs H Q E → vs.length = ps.length) (hbody : BodyOf P w K mg base N qual sc bd f k sp) : FnOk P w K mg base C8.CX0 (k + 1) f fd ps sp := by
  refine F.ok S len fun cdv A outer s H vs Q E hr h => ?_
  obtain ⟨t, a, b⟩ := hbody cdv A outer s H vs Q E hr h
  exact ⟨t, a.nox, b⟩
/-- a def by its body -/
theorem cal_of {x : Str} {pa : Arguments} {bd : List Stmt} {sc : Scope} {f : Addr} {N ps : List Str} {k : Nat} {sp : Sp} (F : ∃ fd, FunD K x x pa bd sc [] [] f fd) (hm : mg x = some (.ref f)) (S : FnScope N ps sc)
    (hb : BindOf x x pa bd sc ps) (len : ∀ vs H Q E, sp vs H Q E → vs.length = ps.length) (hbody : BodyOf P w K mg base N x sc bd f k sp) : C8.Cal P w K mg base (k + 1) x sp [] := by
  obtain ⟨fd, F⟩ := F
  exact ⟨f, fd, ps, [], fnok_of F S len hbody, hm, F.kp, F.bindsN hb, .nil⟩
/-- a method by its body -/
theorem met_of {m qual : Str} {C : Addr} {pa : Arguments} {bd : List Stmt} {sc : Scope} {f : Addr} {N ps : List Str} {k : Nat} {sp : Sp} (c : Cls K C) (me : Meth K C m f) (F : ∃ fd, FunD K m qual pa bd sc [] [] f fd) (S : FnScope N ps sc)
    (hb : BindOf m qual pa bd sc ps) (len : ∀ vs H Q E, sp vs H Q E → vs.length = ps.length) (hbody : BodyOf P w K mg base N qual sc bd f k sp) : C8.Met P w K mg base (k + 1) C m sp [] := by
  obtain ⟨fd, F⟩ := F
  exact ⟨f, fd, ps, [], c, me, fnok_of F S len hbody, F.bindsN hb, .nil⟩
/-- a class by its __init__'s body -/
theorem mak_of {x qual : Str} {C : Addr} {pa : Arguments} {bd : List Stmt} {sc : Scope} {f : Addr} {N ps : List Str} {k : Nat} {sp : Sp} (M : Mk K C f) (hm : mg x = some (.ref C)) (F : ∃ fd, FunD K "__init__" qual pa bd sc [] [] f fd) (S : FnScope N ps sc)
    (hb : BindOf "__init__" qual pa bd sc ps) (len : ∀ vs H Q E, sp vs H Q E → vs.length = ps.length) (hbody : BodyOf P w K mg base N qual sc bd f k sp) : C8.Mak P w K mg base (k + 1) x C sp [] := by
  obtain ⟨fd, F⟩ := F
  exact ⟨f, fd, ps, [], M, fnok_of F S len hbody, hm, F.bindsN hb, .nil⟩
end
/-! ### the layer's rules with the written part by its own name (so that a comprehension's reading holds none of its frame) -/
section
variable {X : Cx} {K : PySem.W.Frag}
def rLenK (K : PySem.W.Frag) : List V → Hp → VK → Prop := fun xs H Q => ∃ p ys, xs = [V.ref p] ∧ (SqL K H p ys ∨ SqT K H p ys) ∧ Q (.int ys.length) H
def rListK (K : PySem.W.Frag) : List V → Hp → VK → Prop := fun xs H Q => ∃ p ys, xs = [V.ref p] ∧ (SqL K H p ys ∨ SqT K H p ys) ∧ ∀ l, H l = none → Q (.ref l) (upd H l (.lst ys))
def rTupK (K : PySem.W.Frag) : List V → Hp → VK → Prop := fun xs H Q => ∃ p ys, xs = [V.ref p] ∧ ((SqL K H p ys ∧ ∀ l, H l = none → Q (.ref l) (upd H l (.tup ys))) ∨ (SqT K H p ys ∧ Q (.ref p) H))
theorem ixL (h : X.K = K := by rfl) : IxR X (rIxL K) := by
  subst h
  exact ix_list
theorem ixT (h : X.K = K := by rfl) : IxR X (rIxT K) := by
  subst h
  exact ix_tup
theorem inSeq (h : X.K = K := by rfl) : OpR X (compareOp .In) (rIn K false) := by
  subst h
  exact op_in_seq
theorem notInSeq (h : X.K = K := by rfl) : OpR X (compareOp .NotIn) (rIn K true) := by
  subst h
  exact op_notIn_seq
theorem eqDK (hu : X.A.units + 64 < cLine) (h : X.K = K := by rfl) : OpR X (compareOp .Eq) (rEqD K) := by
  subst h
  exact op_eqD hu
theorem neDK (hu : X.A.units + 64 < cLine) (h : X.K = K := by rfl) : OpR X (compareOp .NotEq) (rNeD K) := by
  subst h
  exact op_neD hu
theorem inDK (hu : X.A.units + 65 < cLine) (h : X.K = K := by rfl) : OpR X (compareOp .In) (rInD K) := by
  subst h
  exact op_inD hu
theorem notInDK (hu : X.A.units + 65 < cLine) (h : X.K = K := by rfl) : OpR X (compareOp .NotIn) (rNotInD K) := by
  subst h
  exact op_notInD hu
theorem u65 {k : Nat} {A : Around} (r : Room k A) : A.units + 65 < cLine := by
  have := r.un
  omega
theorem lenK (h : X.K = K := by rfl) : CallR X (.builtin "len") (rLenK K) := by
  subst h
  exact call_len_seq
theorem listK (h : X.K = K := by rfl) : CallR X (.type "list") (rListK K) := by
  subst h
  exact call_list_of
theorem tupK (h : X.K = K := by rfl) : CallR X (.type "tuple") (rTupK K) := by
  subst h
  exact call_tuple_of
theorem allK (hc : X.calm = true) (h : X.K = K := by rfl) : CallR X (.builtin "all") (rAll K) := by
  subst h
  exact cr_all hc
theorem anyK (hc : X.calm = true) (h : X.K = K := by rfl) : CallR X (.builtin "any") (rAny K) := by
  subst h
  exact cr_any hc
theorem sumK (hc : X.calm = true) (h : X.K = K := by rfl) : CallR X (.builtin "sum") (rSum K) := by
  subst h
  exact cr_sum hc
theorem maxK (hc : X.calm = true) (h : X.K = K := by rfl) : CallR X (.builtin "max") (rMax K) := by
  subst h
  exact cr_max hc
theorem minK (hc : X.calm = true) (h : X.K = K := by rfl) : CallR X (.builtin "min") (rMin K) := by
  subst h
  exact cr_min hc
theorem isiK1 (h : X.K = K := by rfl) : CallR X (.builtin "isinstance") (rIsi K) := by
  subst h
  exact call_isi
theorem isiKT (h : X.K = K := by rfl) : CallR X (.builtin "isinstance") (rIsiT K) := by
  subst h
  exact call_isiT
theorem slLK (h : X.K = K := by rfl) : SlR X (rSlL K) := by
  subst h
  exact sl_list
theorem slTK (h : X.K = K := by rfl) : SlR X (rSlT K) := by
  subst h
  exact sl_tup
theorem mtIndexK (h : X.K = K := by rfl) : MtR X "list.index" (rIndex K) := by
  subst h
  exact mt_index
end
end PW

set_option Elab.async false
set_option linter.all false
set_option maxRecDepth 100000
set_option maxHeartbeats 4000000
namespace PW
open PySem PySem.Spec PyProof.Rows L2
def top (i : Nat) : Stmt := PySem.Challenge.pw_pointways_k22_whole_bars.main.body.getD i (.Pass ⟨0, 0, 0, 0⟩)
abbrev s_is_row : Stmt := top 9
theorem sc_is_row : FnScope ["thing"] ["thing"] (defScope s_is_row) :=
  ⟨rfl, rfl, rfl, by decide +kernel, rfl, by decide +kernel, by decide +kernel⟩
def d_is_row : He.DefD := ⟨("is_row", none), "is_row", "is_row", defArgs s_is_row, defBody s_is_row, defScope s_is_row, [], []⟩
abbrev s_is_name : Stmt := top 10
theorem sc_is_name : FnScope ["thing", "sign"] ["thing"] (defScope s_is_name) :=
  ⟨rfl, rfl, rfl, by decide +kernel, rfl, by decide +kernel, by decide +kernel⟩
def d_is_name : He.DefD := ⟨("is_name", none), "is_name", "is_name", defArgs s_is_name, defBody s_is_name, defScope s_is_name, [], []⟩
abbrev s_are_names : Stmt := top 11
theorem sc_are_names : FnScope ["thing", "one"] ["thing"] (defScope s_are_names) :=
  ⟨rfl, rfl, rfl, by decide +kernel, rfl, by decide +kernel, by decide +kernel⟩
def d_are_names : He.DefD := ⟨("are_names", none), "are_names", "are_names", defArgs s_are_names, defBody s_are_names, defScope s_are_names, [], []⟩
abbrev s_is_pair : Stmt := top 12
theorem sc_is_pair : FnScope ["points", "thing", "one"] ["points", "thing"] (defScope s_is_pair) :=
  ⟨rfl, rfl, rfl, by decide +kernel, rfl, by decide +kernel, by decide +kernel⟩
def d_is_pair : He.DefD := ⟨("is_pair", none), "is_pair", "is_pair", defArgs s_is_pair, defBody s_is_pair, defScope s_is_pair, [], []⟩
abbrev s_Web_init : Stmt := inClass (top 13) 0
theorem sc_Web_init : FnScope ["self", "points", "ties", "tie"] ["self", "points", "ties"] (defScope s_Web_init) :=
  ⟨rfl, rfl, rfl, by decide +kernel, rfl, by decide +kernel, by decide +kernel⟩
def d_Web_init : He.DefD := ⟨("Web", some "__init__"), "__init__", "Web.__init__", defArgs s_Web_init, defBody s_Web_init, defScope s_Web_init, [], []⟩
abbrev s_Web_points : Stmt := inClass (top 13) 1
theorem sc_Web_points : FnScope ["self"] ["self"] (defScope s_Web_points) :=
  ⟨rfl, rfl, rfl, by decide +kernel, rfl, by decide +kernel, by decide +kernel⟩
def d_Web_points : He.DefD := ⟨("Web", some "points"), "points", "Web.points", defArgs s_Web_points, defBody s_Web_points, defScope s_Web_points, [], []⟩
abbrev s_Web_ties : Stmt := inClass (top 13) 2
theorem sc_Web_ties : FnScope ["self"] ["self"] (defScope s_Web_ties) :=
  ⟨rfl, rfl, rfl, by decide +kernel, rfl, by decide +kernel, by decide +kernel⟩
def d_Web_ties : He.DefD := ⟨("Web", some "ties"), "ties", "Web.ties", defArgs s_Web_ties, defBody s_Web_ties, defScope s_Web_ties, [], []⟩
abbrev s_Web_many : Stmt := inClass (top 13) 3
theorem sc_Web_many : FnScope ["self"] ["self"] (defScope s_Web_many) :=
  ⟨rfl, rfl, rfl, by decide +kernel, rfl, by decide +kernel, by decide +kernel⟩
def d_Web_many : He.DefD := ⟨("Web", some "many"), "many", "Web.many", defArgs s_Web_many, defBody s_Web_many, defScope s_Web_many, [], []⟩
abbrev s_in_order : Stmt := top 15
theorem sc_in_order : FnScope ["web", "points", "point"] ["web", "points"] (defScope s_in_order) :=
  ⟨rfl, rfl, rfl, by decide +kernel, rfl, by decide +kernel, by decide +kernel⟩
def d_in_order : He.DefD := ⟨("in_order", none), "in_order", "in_order", defArgs s_in_order, defBody s_in_order, defScope s_in_order, [], []⟩
abbrev s_ties_crossing : Stmt := top 16
theorem sc_ties_crossing : FnScope ["web", "points", "k", "a", "b"] ["web", "points"] (defScope s_ties_crossing) :=
  ⟨rfl, rfl, rfl, by decide +kernel, rfl, by decide +kernel, by decide +kernel⟩
def d_ties_crossing : He.DefD := ⟨("ties_crossing", none), "ties_crossing", "ties_crossing", defArgs s_ties_crossing, defBody s_ties_crossing, defScope s_ties_crossing, [], []⟩
abbrev s_lot_of : Stmt := top 17
theorem sc_lot_of : FnScope ["web", "points", "known", "one"] ["web", "points"] (defScope s_lot_of) :=
  ⟨rfl, rfl, rfl, by decide +kernel, rfl, by decide +kernel, by decide +kernel⟩
def d_lot_of : He.DefD := ⟨("lot_of", none), "lot_of", "lot_of", defArgs s_lot_of, defBody s_lot_of, defScope s_lot_of, [], []⟩
abbrev s_crossing : Stmt := top 18
theorem sc_crossing : FnScope ["web", "lot"] ["web", "lot"] (defScope s_crossing) :=
  ⟨rfl, rfl, rfl, by decide +kernel, rfl, by decide +kernel, by decide +kernel⟩
def d_crossing : He.DefD := ⟨("crossing", none), "crossing", "crossing", defArgs s_crossing, defBody s_crossing, defScope s_crossing, [], []⟩
abbrev s_far_end : Stmt := top 20
theorem sc_far_end : FnScope ["tie", "point"] ["tie", "point"] (defScope s_far_end) :=
  ⟨rfl, rfl, rfl, by decide +kernel, rfl, by decide +kernel, by decide +kernel⟩
def d_far_end : He.DefD := ⟨("far_end", none), "far_end", "far_end", defArgs s_far_end, defBody s_far_end, defScope s_far_end, [], []⟩
abbrev s_hanging : Stmt := top 21
theorem sc_hanging : FnScope ["web", "start", "left", "ties", "met", "at", "here", "number"] ["web", "start", "left"] (defScope s_hanging) :=
  ⟨rfl, rfl, rfl, by decide +kernel, rfl, by decide +kernel, by decide +kernel⟩
def d_hanging : He.DefD := ⟨("hanging", none), "hanging", "hanging", defArgs s_hanging, defBody s_hanging, defScope s_hanging, [], []⟩
abbrev s_bars : Stmt := top 22
theorem sc_bars : FnScope ["web", "found", "number", "a", "b", "others", "lot", "k"] ["web"] (defScope s_bars) :=
  ⟨rfl, rfl, rfl, by decide +kernel, rfl, by decide +kernel, by decide +kernel⟩
def d_bars : He.DefD := ⟨("bars", none), "bars", "bars", defArgs s_bars, defBody s_bars, defScope s_bars, [], []⟩
abbrev s_law_pot : Stmt := top 24
theorem sc_law_pot : FnScope ["_law_script", "_law_k", "_law_cell"] ["_law_script", "_law_k"] (defScope s_law_pot) :=
  ⟨rfl, rfl, rfl, by decide +kernel, rfl, by decide +kernel, by decide +kernel⟩
def d_law_pot : He.DefD := ⟨("_law_pot", none), "_law_pot", "_law_pot", defArgs s_law_pot, defBody s_law_pot, defScope s_law_pot, [], []⟩
abbrev s_law_take : Stmt := top 25
theorem sc_law_take : FnScope ["_law_pot_here", "_law_many", "_law_digit"] ["_law_pot_here", "_law_many"] (defScope s_law_take) :=
  ⟨rfl, rfl, rfl, by decide +kernel, rfl, by decide +kernel, by decide +kernel⟩
def d_law_take : He.DefD := ⟨("_law_take", none), "_law_take", "_law_take", defArgs s_law_take, defBody s_law_take, defScope s_law_take, [], []⟩
abbrev s_law_names : Stmt := top 26
theorem sc_law_names : FnScope ["_law_pot_here", "_law_many", "_law_letters", "_law_begin", "_law_found", "_law_k", "_law_word", "_law_j"] ["_law_pot_here", "_law_many"] (defScope s_law_names) :=
  ⟨rfl, rfl, rfl, by decide +kernel, rfl, by decide +kernel, by decide +kernel⟩
def d_law_names : He.DefD := ⟨("_law_names", none), "_law_names", "_law_names", defArgs s_law_names, defBody s_law_names, defScope s_law_names, [], []⟩
abbrev s_law_mixed : Stmt := top 27
theorem sc_law_mixed : FnScope ["_law_pot_here", "_law_things", "_law_found", "_law_thing"] ["_law_pot_here", "_law_things"] (defScope s_law_mixed) :=
  ⟨rfl, rfl, rfl, by decide +kernel, rfl, by decide +kernel, by decide +kernel⟩
def d_law_mixed : He.DefD := ⟨("_law_mixed", none), "_law_mixed", "_law_mixed", defArgs s_law_mixed, defBody s_law_mixed, defScope s_law_mixed, [], []⟩
abbrev s_law_tie : Stmt := top 28
theorem sc_law_tie : FnScope ["_law_pot_here", "_law_names_here", "_law_a", "_law_b"] ["_law_pot_here", "_law_names_here"] (defScope s_law_tie) :=
  ⟨rfl, rfl, rfl, by decide +kernel, rfl, by decide +kernel, by decide +kernel⟩
def d_law_tie : He.DefD := ⟨("_law_tie", none), "_law_tie", "_law_tie", defArgs s_law_tie, defBody s_law_tie, defScope s_law_tie, [], []⟩
abbrev s_law_web : Stmt := top 29
theorem sc_law_web : FnScope ["_law_pot_here", "_law_points", "_law_most", "_law_names_here", "_law_kind", "_law_ties", "_law_row", "_law_k", "_law_turns", "_law_tie_here", "_law_turn", "_law_a", "_law_b"] ["_law_pot_here", "_law_points", "_law_most"] (defScope s_law_web) :=
  ⟨rfl, rfl, rfl, by decide +kernel, rfl, by decide +kernel, by decide +kernel⟩
def d_law_web : He.DefD := ⟨("_law_web", none), "_law_web", "_law_web", defArgs s_law_web, defBody s_law_web, defScope s_law_web, [], []⟩
abbrev s_law_hang : Stmt := top 30
theorem sc_law_hang : FnScope ["_law_web_here", "_law_start", "_law_gone", "_law_found", "_law_turn", "_law_k", "_law_a", "_law_b", "_law_name"] ["_law_web_here", "_law_start", "_law_gone"] (defScope s_law_hang) :=
  ⟨rfl, rfl, rfl, by decide +kernel, rfl, by decide +kernel, by decide +kernel⟩
def d_law_hang : He.DefD := ⟨("_law_hang", none), "_law_hang", "_law_hang", defArgs s_law_hang, defBody s_law_hang, defScope s_law_hang, [], []⟩
abbrev s_law_right : Stmt := top 31
theorem sc_law_right : FnScope ["_law_web_here", "_law_names_here", "_law_ties", "_law_due", "_law_k", "_law_a", "_law_b", "_law_lot", "_law_told", "_law_one"] ["_law_web_here", "_law_names_here", "_law_ties"] (defScope s_law_right) :=
  ⟨rfl, rfl, rfl, by decide +kernel, rfl, by decide +kernel, by decide +kernel⟩
def d_law_right : He.DefD := ⟨("_law_right", none), "_law_right", "_law_right", defArgs s_law_right, defBody s_law_right, defScope s_law_right, [], []⟩
abbrev s_law : Stmt := top 32
theorem sc_law : FnScope ["_law_script", "_law_k", "_law_names_here", "_law_ties"] ["_law_script"] (defScope s_law) :=
  ⟨rfl, rfl, rfl, by decide +kernel, rfl, by decide +kernel, by decide +kernel⟩
def d_law : He.DefD := ⟨("law", none), "law", "law", defArgs s_law, defBody s_law, defScope s_law, [], []⟩
def fn : List He.DefD := [d_is_row, d_is_name, d_are_names, d_is_pair, d_Web_init, d_Web_points, d_Web_ties, d_Web_many, d_in_order, d_ties_crossing, d_lot_of, d_crossing, d_far_end, d_hanging, d_bars, d_law_pot, d_law_take, d_law_names, d_law_mixed, d_law_tie, d_law_web, d_law_hang, d_law_right, d_law]
def fa : List He.Fa := [.glo "is_row", .glo "is_name", .glo "are_names", .glo "is_pair", .glo "in_order", .glo "ties_crossing", .glo "lot_of", .glo "crossing", .glo "far_end", .glo "hanging", .glo "bars", .glo "_law_pot", .glo "_law_take", .glo "_law_names", .glo "_law_mixed", .glo "_law_tie", .glo "_law_web", .glo "_law_hang", .glo "_law_right", .glo "law", .free "abs", .free "all", .free "bool", .free "divmod", .free "enumerate", .free "int", .free "isinstance", .free "len", .free "list", .free "max", .free "min", .free "range", .free "set", .free "str", .free "tuple", .free "zip", .str "SMALL" "abcdefghijklmnopqrstuvwxyz", .int "MOST_LETTERS" 4, .int "MOST_POINTS" 9, .int "MOST_TIES" 20, .glo "Web", .cls "Web", .mkr "Web", .noat "Web" "own_points", .noat "Web" "own_ties", .meth "Web" "__init__", .meth "Web" "points", .meth "Web" "ties", .meth "Web" "many"]
abbrev Top (K : PySem.W.Frag) (mg : Str → Option Value) : Prop := TopOf fa fn K mg
section
variable {K : PySem.W.Frag} {mg : Str → Option Value} (T : Top K mg)
include T
theorem g_is_row : mg "is_row" = some (.ref (He.ga K "is_row")) := T.glo _ (T.says.fact 0 (f := .glo "is_row") rfl)
theorem g_is_name : mg "is_name" = some (.ref (He.ga K "is_name")) := T.glo _ (T.says.fact 1 (f := .glo "is_name") rfl)
theorem g_are_names : mg "are_names" = some (.ref (He.ga K "are_names")) := T.glo _ (T.says.fact 2 (f := .glo "are_names") rfl)
theorem g_is_pair : mg "is_pair" = some (.ref (He.ga K "is_pair")) := T.glo _ (T.says.fact 3 (f := .glo "is_pair") rfl)
theorem g_in_order : mg "in_order" = some (.ref (He.ga K "in_order")) := T.glo _ (T.says.fact 4 (f := .glo "in_order") rfl)
theorem g_ties_crossing : mg "ties_crossing" = some (.ref (He.ga K "ties_crossing")) := T.glo _ (T.says.fact 5 (f := .glo "ties_crossing") rfl)
theorem g_lot_of : mg "lot_of" = some (.ref (He.ga K "lot_of")) := T.glo _ (T.says.fact 6 (f := .glo "lot_of") rfl)
theorem g_crossing : mg "crossing" = some (.ref (He.ga K "crossing")) := T.glo _ (T.says.fact 7 (f := .glo "crossing") rfl)
theorem g_far_end : mg "far_end" = some (.ref (He.ga K "far_end")) := T.glo _ (T.says.fact 8 (f := .glo "far_end") rfl)
theorem g_hanging : mg "hanging" = some (.ref (He.ga K "hanging")) := T.glo _ (T.says.fact 9 (f := .glo "hanging") rfl)
theorem g_bars : mg "bars" = some (.ref (He.ga K "bars")) := T.glo _ (T.says.fact 10 (f := .glo "bars") rfl)
theorem g_law_pot : mg "_law_pot" = some (.ref (He.ga K "_law_pot")) := T.glo _ (T.says.fact 11 (f := .glo "_law_pot") rfl)
theorem g_law_take : mg "_law_take" = some (.ref (He.ga K "_law_take")) := T.glo _ (T.says.fact 12 (f := .glo "_law_take") rfl)
theorem g_law_names : mg "_law_names" = some (.ref (He.ga K "_law_names")) := T.glo _ (T.says.fact 13 (f := .glo "_law_names") rfl)
theorem g_law_mixed : mg "_law_mixed" = some (.ref (He.ga K "_law_mixed")) := T.glo _ (T.says.fact 14 (f := .glo "_law_mixed") rfl)
theorem g_law_tie : mg "_law_tie" = some (.ref (He.ga K "_law_tie")) := T.glo _ (T.says.fact 15 (f := .glo "_law_tie") rfl)
theorem g_law_web : mg "_law_web" = some (.ref (He.ga K "_law_web")) := T.glo _ (T.says.fact 16 (f := .glo "_law_web") rfl)
theorem g_law_hang : mg "_law_hang" = some (.ref (He.ga K "_law_hang")) := T.glo _ (T.says.fact 17 (f := .glo "_law_hang") rfl)
theorem g_law_right : mg "_law_right" = some (.ref (He.ga K "_law_right")) := T.glo _ (T.says.fact 18 (f := .glo "_law_right") rfl)
theorem g_law : mg "law" = some (.ref (He.ga K "law")) := T.glo _ (T.says.fact 19 (f := .glo "law") rfl)
theorem f_abs : mg "abs" = none := T.free _ (T.says.fact 20 (f := .free "abs") rfl)
theorem f_all : mg "all" = none := T.free _ (T.says.fact 21 (f := .free "all") rfl)
theorem f_bool : mg "bool" = none := T.free _ (T.says.fact 22 (f := .free "bool") rfl)
theorem f_divmod : mg "divmod" = none := T.free _ (T.says.fact 23 (f := .free "divmod") rfl)
theorem f_enumerate : mg "enumerate" = none := T.free _ (T.says.fact 24 (f := .free "enumerate") rfl)
theorem f_int : mg "int" = none := T.free _ (T.says.fact 25 (f := .free "int") rfl)
theorem f_isinstance : mg "isinstance" = none := T.free _ (T.says.fact 26 (f := .free "isinstance") rfl)
theorem f_len : mg "len" = none := T.free _ (T.says.fact 27 (f := .free "len") rfl)
theorem f_list : mg "list" = none := T.free _ (T.says.fact 28 (f := .free "list") rfl)
theorem f_max : mg "max" = none := T.free _ (T.says.fact 29 (f := .free "max") rfl)
theorem f_min : mg "min" = none := T.free _ (T.says.fact 30 (f := .free "min") rfl)
theorem f_range : mg "range" = none := T.free _ (T.says.fact 31 (f := .free "range") rfl)
theorem f_set : mg "set" = none := T.free _ (T.says.fact 32 (f := .free "set") rfl)
theorem f_str : mg "str" = none := T.free _ (T.says.fact 33 (f := .free "str") rfl)
theorem f_tuple : mg "tuple" = none := T.free _ (T.says.fact 34 (f := .free "tuple") rfl)
theorem f_zip : mg "zip" = none := T.free _ (T.says.fact 35 (f := .free "zip") rfl)
theorem c_SMALL : ∃ u, mg "SMALL" = some u ∧ RelV (.str "abcdefghijklmnopqrstuvwxyz") u := by
  obtain ⟨t, e⟩ := T.str _ _ (T.says.fact 36 (f := .str "SMALL" "abcdefghijklmnopqrstuvwxyz") rfl)
  exact ⟨_, e, t, rfl⟩
theorem c_MOST_LETTERS : ∃ u, mg "MOST_LETTERS" = some u ∧ RelV (.int 4) u := by
  obtain ⟨t, e⟩ := T.int _ _ (T.says.fact 37 (f := .int "MOST_LETTERS" 4) rfl)
  exact ⟨_, e, t, rfl⟩
theorem c_MOST_POINTS : ∃ u, mg "MOST_POINTS" = some u ∧ RelV (.int 9) u := by
  obtain ⟨t, e⟩ := T.int _ _ (T.says.fact 38 (f := .int "MOST_POINTS" 9) rfl)
  exact ⟨_, e, t, rfl⟩
theorem c_MOST_TIES : ∃ u, mg "MOST_TIES" = some u ∧ RelV (.int 20) u := by
  obtain ⟨t, e⟩ := T.int _ _ (T.says.fact 39 (f := .int "MOST_TIES" 20) rfl)
  exact ⟨_, e, t, rfl⟩
theorem g_Web : mg "Web" = some (.ref (He.ga K "Web")) := T.glo _ (T.says.fact 40 (f := .glo "Web") rfl)
theorem cl_Web : Cls K (He.ga K "Web") := He.cls_ok (T.says.fact 41 (f := .cls "Web") rfl)
theorem mk_Web : Mk K (He.ga K "Web") (He.fAd K ("Web", some "__init__")) := He.mkr_ok (T.says.fact 42 (f := .mkr "Web") rfl)
theorem na_Web_own_points : NoAttr K (He.ga K "Web") "own_points" := He.noat_ok (T.says.fact 43 (f := .noat "Web" "own_points") rfl)
theorem na_Web_own_ties : NoAttr K (He.ga K "Web") "own_ties" := He.noat_ok (T.says.fact 44 (f := .noat "Web" "own_ties") rfl)
theorem me_Web_init : Meth K (He.ga K "Web") "__init__" (He.fAd K ("Web", some "__init__")) := He.meth_ok (T.says.fact 45 (f := .meth "Web" "__init__") rfl)
theorem me_Web_points : Meth K (He.ga K "Web") "points" (He.fAd K ("Web", some "points")) := He.meth_ok (T.says.fact 46 (f := .meth "Web" "points") rfl)
theorem me_Web_ties : Meth K (He.ga K "Web") "ties" (He.fAd K ("Web", some "ties")) := He.meth_ok (T.says.fact 47 (f := .meth "Web" "ties") rfl)
theorem me_Web_many : Meth K (He.ga K "Web") "many" (He.fAd K ("Web", some "many")) := He.meth_ok (T.says.fact 48 (f := .meth "Web" "many") rfl)
end
theorem fd_is_row {K : PySem.W.Frag} {mg : Str → Option Value} (T : Top K mg) : ∃ fd, FunD K "is_row" "is_row" (defArgs s_is_row) (defBody s_is_row) (defScope s_is_row) [] [] (He.fAd K ("is_row", none)) fd := T.says.def_ 0 (d := d_is_row) rfl
theorem bi_is_row : BindOf "is_row" "is_row" (defArgs s_is_row) (defBody s_is_row) (defScope s_is_row) ["thing"] :=
  fun _ _ _ _ _ _ us hl => match us, hl with | [_], _ => rfl
theorem fd_is_name {K : PySem.W.Frag} {mg : Str → Option Value} (T : Top K mg) : ∃ fd, FunD K "is_name" "is_name" (defArgs s_is_name) (defBody s_is_name) (defScope s_is_name) [] [] (He.fAd K ("is_name", none)) fd := T.says.def_ 1 (d := d_is_name) rfl
theorem bi_is_name : BindOf "is_name" "is_name" (defArgs s_is_name) (defBody s_is_name) (defScope s_is_name) ["thing"] :=
  fun _ _ _ _ _ _ us hl => match us, hl with | [_], _ => rfl
theorem fd_are_names {K : PySem.W.Frag} {mg : Str → Option Value} (T : Top K mg) : ∃ fd, FunD K "are_names" "are_names" (defArgs s_are_names) (defBody s_are_names) (defScope s_are_names) [] [] (He.fAd K ("are_names", none)) fd := T.says.def_ 2 (d := d_are_names) rfl
theorem bi_are_names : BindOf "are_names" "are_names" (defArgs s_are_names) (defBody s_are_names) (defScope s_are_names) ["thing"] :=
  fun _ _ _ _ _ _ us hl => match us, hl with | [_], _ => rfl
theorem fd_is_pair {K : PySem.W.Frag} {mg : Str → Option Value} (T : Top K mg) : ∃ fd, FunD K "is_pair" "is_pair" (defArgs s_is_pair) (defBody s_is_pair) (defScope s_is_pair) [] [] (He.fAd K ("is_pair", none)) fd := T.says.def_ 3 (d := d_is_pair) rfl
theorem bi_is_pair : BindOf "is_pair" "is_pair" (defArgs s_is_pair) (defBody s_is_pair) (defScope s_is_pair) ["points", "thing"] :=
  fun _ _ _ _ _ _ us hl => match us, hl with | [_, _], _ => rfl
theorem fd_Web_init {K : PySem.W.Frag} {mg : Str → Option Value} (T : Top K mg) : ∃ fd, FunD K "__init__" "Web.__init__" (defArgs s_Web_init) (defBody s_Web_init) (defScope s_Web_init) [] [] (He.fAd K ("Web", some "__init__")) fd := T.says.def_ 4 (d := d_Web_init) rfl
theorem bi_Web_init : BindOf "__init__" "Web.__init__" (defArgs s_Web_init) (defBody s_Web_init) (defScope s_Web_init) ["self", "points", "ties"] :=
  fun _ _ _ _ _ _ us hl => match us, hl with | [_, _, _], _ => rfl
theorem fd_Web_points {K : PySem.W.Frag} {mg : Str → Option Value} (T : Top K mg) : ∃ fd, FunD K "points" "Web.points" (defArgs s_Web_points) (defBody s_Web_points) (defScope s_Web_points) [] [] (He.fAd K ("Web", some "points")) fd := T.says.def_ 5 (d := d_Web_points) rfl
theorem bi_Web_points : BindOf "points" "Web.points" (defArgs s_Web_points) (defBody s_Web_points) (defScope s_Web_points) ["self"] :=
  fun _ _ _ _ _ _ us hl => match us, hl with | [_], _ => rfl
theorem fd_Web_ties {K : PySem.W.Frag} {mg : Str → Option Value} (T : Top K mg) : ∃ fd, FunD K "ties" "Web.ties" (defArgs s_Web_ties) (defBody s_Web_ties) (defScope s_Web_ties) [] [] (He.fAd K ("Web", some "ties")) fd := T.says.def_ 6 (d := d_Web_ties) rfl
theorem bi_Web_ties : BindOf "ties" "Web.ties" (defArgs s_Web_ties) (defBody s_Web_ties) (defScope s_Web_ties) ["self"] :=
  fun _ _ _ _ _ _ us hl => match us, hl with | [_], _ => rfl
theorem fd_Web_many {K : PySem.W.Frag} {mg : Str → Option Value} (T : Top K mg) : ∃ fd, FunD K "many" "Web.many" (defArgs s_Web_many) (defBody s_Web_many) (defScope s_Web_many) [] [] (He.fAd K ("Web", some "many")) fd := T.says.def_ 7 (d := d_Web_many) rfl
theorem bi_Web_many : BindOf "many" "Web.many" (defArgs s_Web_many) (defBody s_Web_many) (defScope s_Web_many) ["self"] :=
  fun _ _ _ _ _ _ us hl => match us, hl with | [_], _ => rfl
theorem fd_in_order {K : PySem.W.Frag} {mg : Str → Option Value} (T : Top K mg) : ∃ fd, FunD K "in_order" "in_order" (defArgs s_in_order) (defBody s_in_order) (defScope s_in_order) [] [] (He.fAd K ("in_order", none)) fd := T.says.def_ 8 (d := d_in_order) rfl
theorem bi_in_order : BindOf "in_order" "in_order" (defArgs s_in_order) (defBody s_in_order) (defScope s_in_order) ["web", "points"] :=
  fun _ _ _ _ _ _ us hl => match us, hl with | [_, _], _ => rfl
theorem fd_ties_crossing {K : PySem.W.Frag} {mg : Str → Option Value} (T : Top K mg) : ∃ fd, FunD K "ties_crossing" "ties_crossing" (defArgs s_ties_crossing) (defBody s_ties_crossing) (defScope s_ties_crossing) [] [] (He.fAd K ("ties_crossing", none)) fd := T.says.def_ 9 (d := d_ties_crossing) rfl
theorem bi_ties_crossing : BindOf "ties_crossing" "ties_crossing" (defArgs s_ties_crossing) (defBody s_ties_crossing) (defScope s_ties_crossing) ["web", "points"] :=
  fun _ _ _ _ _ _ us hl => match us, hl with | [_, _], _ => rfl
theorem fd_lot_of {K : PySem.W.Frag} {mg : Str → Option Value} (T : Top K mg) : ∃ fd, FunD K "lot_of" "lot_of" (defArgs s_lot_of) (defBody s_lot_of) (defScope s_lot_of) [] [] (He.fAd K ("lot_of", none)) fd := T.says.def_ 10 (d := d_lot_of) rfl
theorem bi_lot_of : BindOf "lot_of" "lot_of" (defArgs s_lot_of) (defBody s_lot_of) (defScope s_lot_of) ["web", "points"] :=
  fun _ _ _ _ _ _ us hl => match us, hl with | [_, _], _ => rfl
theorem fd_crossing {K : PySem.W.Frag} {mg : Str → Option Value} (T : Top K mg) : ∃ fd, FunD K "crossing" "crossing" (defArgs s_crossing) (defBody s_crossing) (defScope s_crossing) [] [] (He.fAd K ("crossing", none)) fd := T.says.def_ 11 (d := d_crossing) rfl
theorem bi_crossing : BindOf "crossing" "crossing" (defArgs s_crossing) (defBody s_crossing) (defScope s_crossing) ["web", "lot"] :=
  fun _ _ _ _ _ _ us hl => match us, hl with | [_, _], _ => rfl
theorem fd_far_end {K : PySem.W.Frag} {mg : Str → Option Value} (T : Top K mg) : ∃ fd, FunD K "far_end" "far_end" (defArgs s_far_end) (defBody s_far_end) (defScope s_far_end) [] [] (He.fAd K ("far_end", none)) fd := T.says.def_ 12 (d := d_far_end) rfl
theorem bi_far_end : BindOf "far_end" "far_end" (defArgs s_far_end) (defBody s_far_end) (defScope s_far_end) ["tie", "point"] :=
  fun _ _ _ _ _ _ us hl => match us, hl with | [_, _], _ => rfl
theorem fd_hanging {K : PySem.W.Frag} {mg : Str → Option Value} (T : Top K mg) : ∃ fd, FunD K "hanging" "hanging" (defArgs s_hanging) (defBody s_hanging) (defScope s_hanging) [] [] (He.fAd K ("hanging", none)) fd := T.says.def_ 13 (d := d_hanging) rfl
theorem bi_hanging : BindOf "hanging" "hanging" (defArgs s_hanging) (defBody s_hanging) (defScope s_hanging) ["web", "start", "left"] :=
  fun _ _ _ _ _ _ us hl => match us, hl with | [_, _, _], _ => rfl
theorem fd_bars {K : PySem.W.Frag} {mg : Str → Option Value} (T : Top K mg) : ∃ fd, FunD K "bars" "bars" (defArgs s_bars) (defBody s_bars) (defScope s_bars) [] [] (He.fAd K ("bars", none)) fd := T.says.def_ 14 (d := d_bars) rfl
theorem bi_bars : BindOf "bars" "bars" (defArgs s_bars) (defBody s_bars) (defScope s_bars) ["web"] :=
  fun _ _ _ _ _ _ us hl => match us, hl with | [_], _ => rfl
theorem fd_law_pot {K : PySem.W.Frag} {mg : Str → Option Value} (T : Top K mg) : ∃ fd, FunD K "_law_pot" "_law_pot" (defArgs s_law_pot) (defBody s_law_pot) (defScope s_law_pot) [] [] (He.fAd K ("_law_pot", none)) fd := T.says.def_ 15 (d := d_law_pot) rfl
theorem bi_law_pot : BindOf "_law_pot" "_law_pot" (defArgs s_law_pot) (defBody s_law_pot) (defScope s_law_pot) ["_law_script", "_law_k"] :=
  fun _ _ _ _ _ _ us hl => match us, hl with | [_, _], _ => rfl
theorem fd_law_take {K : PySem.W.Frag} {mg : Str → Option Value} (T : Top K mg) : ∃ fd, FunD K "_law_take" "_law_take" (defArgs s_law_take) (defBody s_law_take) (defScope s_law_take) [] [] (He.fAd K ("_law_take", none)) fd := T.says.def_ 16 (d := d_law_take) rfl
theorem bi_law_take : BindOf "_law_take" "_law_take" (defArgs s_law_take) (defBody s_law_take) (defScope s_law_take) ["_law_pot_here", "_law_many"] :=
  fun _ _ _ _ _ _ us hl => match us, hl with | [_, _], _ => rfl
theorem fd_law_names {K : PySem.W.Frag} {mg : Str → Option Value} (T : Top K mg) : ∃ fd, FunD K "_law_names" "_law_names" (defArgs s_law_names) (defBody s_law_names) (defScope s_law_names) [] [] (He.fAd K ("_law_names", none)) fd := T.says.def_ 17 (d := d_law_names) rfl
theorem bi_law_names : BindOf "_law_names" "_law_names" (defArgs s_law_names) (defBody s_law_names) (defScope s_law_names) ["_law_pot_here", "_law_many"] :=
  fun _ _ _ _ _ _ us hl => match us, hl with | [_, _], _ => rfl
theorem fd_law_mixed {K : PySem.W.Frag} {mg : Str → Option Value} (T : Top K mg) : ∃ fd, FunD K "_law_mixed" "_law_mixed" (defArgs s_law_mixed) (defBody s_law_mixed) (defScope s_law_mixed) [] [] (He.fAd K ("_law_mixed", none)) fd := T.says.def_ 18 (d := d_law_mixed) rfl
theorem bi_law_mixed : BindOf "_law_mixed" "_law_mixed" (defArgs s_law_mixed) (defBody s_law_mixed) (defScope s_law_mixed) ["_law_pot_here", "_law_things"] :=
  fun _ _ _ _ _ _ us hl => match us, hl with | [_, _], _ => rfl
theorem fd_law_tie {K : PySem.W.Frag} {mg : Str → Option Value} (T : Top K mg) : ∃ fd, FunD K "_law_tie" "_law_tie" (defArgs s_law_tie) (defBody s_law_tie) (defScope s_law_tie) [] [] (He.fAd K ("_law_tie", none)) fd := T.says.def_ 19 (d := d_law_tie) rfl
theorem bi_law_tie : BindOf "_law_tie" "_law_tie" (defArgs s_law_tie) (defBody s_law_tie) (defScope s_law_tie) ["_law_pot_here", "_law_names_here"] :=
  fun _ _ _ _ _ _ us hl => match us, hl with | [_, _], _ => rfl
theorem fd_law_web {K : PySem.W.Frag} {mg : Str → Option Value} (T : Top K mg) : ∃ fd, FunD K "_law_web" "_law_web" (defArgs s_law_web) (defBody s_law_web) (defScope s_law_web) [] [] (He.fAd K ("_law_web", none)) fd := T.says.def_ 20 (d := d_law_web) rfl
theorem bi_law_web : BindOf "_law_web" "_law_web" (defArgs s_law_web) (defBody s_law_web) (defScope s_law_web) ["_law_pot_here", "_law_points", "_law_most"] :=
  fun _ _ _ _ _ _ us hl => match us, hl with | [_, _, _], _ => rfl
theorem fd_law_hang {K : PySem.W.Frag} {mg : Str → Option Value} (T : Top K mg) : ∃ fd, FunD K "_law_hang" "_law_hang" (defArgs s_law_hang) (defBody s_law_hang) (defScope s_law_hang) [] [] (He.fAd K ("_law_hang", none)) fd := T.says.def_ 21 (d := d_law_hang) rfl
theorem bi_law_hang : BindOf "_law_hang" "_law_hang" (defArgs s_law_hang) (defBody s_law_hang) (defScope s_law_hang) ["_law_web_here", "_law_start", "_law_gone"] :=
  fun _ _ _ _ _ _ us hl => match us, hl with | [_, _, _], _ => rfl
theorem fd_law_right {K : PySem.W.Frag} {mg : Str → Option Value} (T : Top K mg) : ∃ fd, FunD K "_law_right" "_law_right" (defArgs s_law_right) (defBody s_law_right) (defScope s_law_right) [] [] (He.fAd K ("_law_right", none)) fd := T.says.def_ 22 (d := d_law_right) rfl
theorem bi_law_right : BindOf "_law_right" "_law_right" (defArgs s_law_right) (defBody s_law_right) (defScope s_law_right) ["_law_web_here", "_law_names_here", "_law_ties"] :=
  fun _ _ _ _ _ _ us hl => match us, hl with | [_, _, _], _ => rfl
theorem fd_law {K : PySem.W.Frag} {mg : Str → Option Value} (T : Top K mg) : ∃ fd, FunD K "law" "law" (defArgs s_law) (defBody s_law) (defScope s_law) [] [] (He.fAd K ("law", none)) fd := T.says.def_ 23 (d := d_law) rfl
theorem bi_law : BindOf "law" "law" (defArgs s_law) (defBody s_law) (defScope s_law) ["_law_script"] :=
  fun _ _ _ _ _ _ us hl => match us, hl with | [_], _ => rfl
end PW

namespace PW
open PySem PySem.Spec PyProof.Rows L2
/-! ### heaps: what is kept -/
/-- all but p is as it was -/
def Kp (p : Addr) (H H' : Hp) : Prop := ∀ b o, b ≠ p → H b = some o → H' b = some o
theorem Kp.refl (p : Addr) (H : Hp) : Kp p H H := fun _ _ _ h => h
theorem Kp.trans {p : Addr} {H H1 H2 : Hp} (a : Kp p H H1) (b : Kp p H1 H2) : Kp p H H2 := fun c o n h => b c o n (a c o n h)
theorem Kp.same {p : Addr} {H H' : Hp} (e : Same H H') : Kp p H H' := fun b o _ h => e b o h
theorem Kp.free {p : Addr} {H H' : Hp} (e : Kp p H H') {l : Addr} (hl : l ≠ p) (h : H' l = none) : H l = none := by
  cases q : H l with
  | none => rfl
  | some o =>
    rw [e l o hl q] at h
    cases h
theorem Kp.write (p : Addr) (H : Hp) (o : HO) : Kp p H (upd H p o) := fun b u n h => by
  rw [upd_ne n]
  exact h
theorem same_new {H : Hp} {p : Addr} {o : HO} (h : H p = none) : Same H (upd H p o) := fun b x e => by
  rw [upd_ne (ne_of_none e h)]
  exact e
theorem Kp.new {p q : Addr} {H H1 : Hp} {o : HO} (e : Kp p H H1) (h : H1 q = none) : Kp p H (upd H1 q o) := e.trans (Kp.same (same_new h))
/-- writing into what is new since H -/
theorem _root_.L2.Same.into {H H1 : Hp} {q : Addr} {o : HO} (e : Same H H1) (h : H q = none) : Same H (upd H1 q o) := fun b x z => by
  rw [upd_ne (ne_of_none z h)]
  exact e b x z
theorem _root_.L2.Same.next {H H1 : Hp} {q : Addr} {o : HO} (e : Same H H1) (h : H1 q = none) : Same H (upd H1 q o) := e.into (e.free h)
theorem Kp.into {p q : Addr} {H H1 : Hp} {o : HO} (e : Kp p H H1) (h : H q = none) : Kp p H (upd H1 q o) := fun b x n z => by
  rw [upd_ne (ne_of_none z h)]
  exact e b x n z
/-! ### the pot of draws -/
def Pot (H : Hp) (p : Addr) : Prop := ∃ x y : Int, 0 ≤ x ∧ 0 ≤ y ∧ H p = some (.lst [.int x, .int y])
theorem Pot.same {H H' : Hp} {p : Addr} (h : Pot H p) (e : Same H H') : Pot H' p := by
  obtain ⟨x, y, hx, hy, z⟩ := h
  exact ⟨x, y, hx, hy, e _ _ z⟩
theorem Pot.ne {H : Hp} {p q : Addr} (h : Pot H p) (e : H q = none) : q ≠ p := by
  obtain ⟨x, y, hx, hy, z⟩ := h
  exact (ne_of_none z e).symm
theorem Pot.into {H : Hp} {p q : Addr} {o : HO} (h : Pot H p) (n : q ≠ p) : Pot (upd H q o) p := by
  obtain ⟨x, y, hx, hy, z⟩ := h
  exact ⟨x, y, hx, hy, by rw [upd_ne n.symm]; exact z⟩
end PW

namespace PW
open PySem PySem.Spec PyProof.Rows L2
def spPot (K : PySem.W.Frag) : Sp := fun vs H Q _ => ∃ (a : Addr) (k : Int) (ns : List Int), vs = [.ref a, .int k] ∧ SqL K H a (ns.map V.int) ∧ ns.length ≤ 1000 ∧ 0 ≤ k ∧ k < 1000 ∧
  ∀ p H', H p = none → Same H H' → Pot H' p → Q (.ref p) H'
def spTake : Sp := fun vs H Q _ => ∃ (p : Addr) (n : Int), vs = [.ref p, .int n] ∧ Pot H p ∧ 0 < n ∧ n < 1073741824 ∧
  ∀ d H', 0 ≤ d → d < n → Kp p H H' → Pot H' p → Q (.int d) H'
theorem fmod_pos {a b : Int} (h : 0 < b) : a.fmod b = a % b := Int.fmod_eq_emod_of_nonneg a (by omega)
theorem fdiv_pos {a b : Int} (h : 0 < b) : a.fdiv b = a / b := Int.fdiv_eq_ediv_of_nonneg a (by omega)
theorem ok_law_pot {P : Program} {w : World} {K : PySem.W.Frag} {mg : Str → Option Value} {base : Heap} (T : Top K mg) :
    C8.Cal P w K mg base 1 "_law_pot" (spPot K) [] := by
  refine cal_of (fd_law_pot T) (g_law_pot T) sc_law_pot bi_law_pot (fun vs H Q E h => ?_) (fun cdv A outer s H vs Q E hr h => ?_)
  · obtain ⟨a, k, ns, rfl, _⟩ := h
    rfl
  · obtain ⟨a, k, ns, rfl, hS, hlen, hk0, hk1, q⟩ := h
    refine ⟨_, (C8.pss_cut (ps_set (i := 2) sc_law_pot.nd rfl (by first | exact Or.inl rfl | exact Or.inr rfl) (pe_ifExp (pt_cmpR op_lt (pv 1) (pe_callB (lenK (K := K)) (by rfl) (f_len T) PySem.boot_len (pa_cons (pv 0) pa_nil)) (nomark _)) (pe_ix (ixL (K := K)) (pv 0) (pv 1) (fun _ _ => rfl)) pe_int))
      (pss_one (ps_ret (pe_lst (pa_cons (pe_callB (call_max2 rfl) (by rfl) (f_max T) (by decide +kernel) (pa_cons pe_int (pa_cons (pe_op op_sub (pe_callB call_abs (by rfl) (f_abs T) (by decide +kernel) (pa_cons (pv 2) pa_nil)) (pe_op op_pow pe_int pe_int)) pa_nil))) (pa_cons (pe_op op_add (pe_op op_add (pe_op op_modN (pe_callB call_abs (by rfl) (f_abs T) (by decide +kernel) (pa_cons (pv 2) pa_nil)) pe_int) (pe_op op_mul pe_int (pv 1))) pe_int) pa_nil)))))), ?_⟩
    refine ⟨fun σ' H' => ∃ c : Int, σ' = [some (.ref a), some (.int k), some (.int c)] ∧ H' = H, ?_, ?_⟩
    · refine ⟨.int k, rfl, .ref a, rfl, a, ns.map V.int, rfl, .inl hS, k, _, rfl, rfl, _, rfl, ite2 (fun e => ?_) (fun e => ?_)⟩
      · have hk : k < ((ns.map V.int).length : Int) := of_decide_eq_true e
        rw [List.length_map] at hk
        have hi : k.toNat < ns.length := by omega
        refine ⟨.ref a, rfl, .int k, rfl, a, ns.map V.int, k, .int ns[k.toNat], rfl, rfl, hS, ?_, ns[k.toNat], rfl, rfl⟩
        have e1 : k = ((k.toNat : Nat) : Int) := by omega
        exact at_of (j := k.toNat) e1 (by rw [List.getElem?_map, List.getElem?_eq_getElem hi]; rfl)
      · exact ⟨0, rfl, rfl⟩
    · rintro σ' H' ⟨c, rfl, rfl⟩
      refine ⟨.int c, rfl, c, rfl, 10, 18, rfl, rfl, ⟨by decide, by decide, by decide⟩, _, _, rfl, rfl, _, _, rfl, .int c, rfl, c, rfl, _, _, rfl, rfl, (by show (2147483629 : Int) ≠ 0; decide), .int k, rfl, _, _, rfl, rfl, .inl ⟨by decide, by decide⟩, _, _, rfl, rfl, _, _, rfl, rfl, (by show 2 ≤ sizeLine; decide), fun p hp => ?_⟩
      refine q p _ hp (same_new hp) ⟨_, _, ?_, ?_, upd_same⟩
      · split <;> omega
      · rw [fmod_pos (by decide)]
        have h1 : 0 ≤ (if c < 0 then -c else c) % 2147483629 := Int.emod_nonneg _ (by decide)
        omega
theorem ok_law_take {P : Program} {w : World} {K : PySem.W.Frag} {mg : Str → Option Value} {base : Heap} (T : Top K mg) :
    C8.Cal P w K mg base 1 "_law_take" spTake [] := by
  refine cal_of (fd_law_take T) (g_law_take T) sc_law_take bi_law_take (fun vs H Q E h => ?_) (fun cdv A outer s H vs Q E hr h => ?_)
  · obtain ⟨p, n, rfl, _⟩ := h
    rfl
  · obtain ⟨p, n, rfl, hp, hn0, hn1, q⟩ := h
    refine ⟨_, (pss_cons (ps_if (pt_cmpR op_gt (pe_ix (ixL (K := K)) (pv 0) pe_int (fun _ _ => rfl)) pe_int (nomark _)) (pss_cons (ps_asg (pe_callB call_divmod (by rfl) (f_divmod T) (by decide +kernel) (pa_cons (pe_ix (ixL (K := K)) (pv 0) pe_int (fun _ _ => rfl)) (pa_cons (pv 1) pa_nil))) (pg_tup (n := 2) rfl (pgs_cons (pg_sub (pv 0) pe_int set_list) (pgs_cons (pg_name (i := 2) sc_law_take.nd rfl (by first | exact Or.inl rfl | exact Or.inr rfl)) pgs_nil))))
      (pss_one (ps_ret (pv 2)))) pss_nil)
      (pss_cons (ps_asg (pe_op op_modN (pe_op op_add (pe_op op_mul (pe_ix (ixL (K := K)) (pv 0) pe_int (fun _ _ => rfl)) pe_int) pe_int) pe_int) (pg_sub (pv 0) pe_int set_list))
      (pss_one (ps_ret (pe_op op_modN (pe_op op_fdivN (pe_op op_modN (pe_op op_mul (pe_ix (ixL (K := K)) (pv 0) pe_int (fun _ _ => rfl)) (pe_ix (ixL (K := K)) (pv 0) pe_int (fun _ _ => rfl))) pe_int) pe_int) (pv 1)))))), ?_⟩
    obtain ⟨x, y, hx, hy, hp⟩ := hp
    refine ⟨.ref p, rfl, p, _, 0, .int x, rfl, rfl, SqL.of hp, rfl, x, 0, rfl, rfl, _, rfl, ite2 (fun e => ?_) (fun e => ?_)⟩
    · refine ⟨.ref p, rfl, p, _, 0, .int x, rfl, rfl, SqL.of hp, rfl, .int n, rfl, x, n, rfl, ⟨hn0, hn1⟩, fun t nt => ?_⟩
      have npt : p ≠ t := ne_of_none hp nt
      have hp1 : upd H t (.tup [.int (x / n), .int (x % n)]) p = some (.lst [.int x, .int y]) := by
        rw [upd_ne npt]
        exact hp
      refine ⟨t, _, rfl, SqT.of upd_same, rfl, _, _, rfl, .ref p, rfl, p, _, 0, 0, rfl, rfl, hp1, rfl, _, _, rfl, rfl, .int (x % n), rfl, ?_⟩
      refine q _ _ (Int.emod_nonneg _ (by omega)) (Int.emod_lt_of_pos _ hn0) ((Kp.same (same_new nt)).trans (Kp.write _ _ _)) ⟨x / n, y, Int.ediv_nonneg hx (by omega), hy, upd_same⟩
    · refine ⟨.ref p, rfl, p, _, 1, .int y, rfl, rfl, SqL.of hp, rfl, y, 48271, rfl, rfl, .inr ⟨by decide, by decide⟩, _, _, rfl, rfl, _, _, rfl, rfl, (by show (2147483647 : Int) ≠ 0; decide), .ref p, rfl, p, _, 1, 1, rfl, rfl, hp, rfl, ?_⟩
      have hz : (y * 48271 + 12345).fmod 2147483647 = (y * 48271 + 12345) % 2147483647 := fmod_pos (by decide)
      have z0 : 0 ≤ (y * 48271 + 12345) % 2147483647 := Int.emod_nonneg _ (by decide)
      have z1 : (y * 48271 + 12345) % 2147483647 < 2147483647 := Int.emod_lt_of_pos _ (by decide)
      simp only [hz]
      generalize (y * 48271 + 12345) % 2147483647 = z at z0 z1
      refine ⟨.ref p, rfl, p, _, 1, .int z, rfl, rfl, SqL.of upd_same, rfl, .ref p, rfl, p, _, 1, .int z, rfl, rfl, SqL.of upd_same, rfl, z, z, rfl, rfl, .inl ⟨by omega, by omega⟩, _, _, rfl, rfl, (by show (2147483629 : Int) ≠ 0; decide), _, _, rfl, rfl, ⟨by decide, by decide⟩, .int n, rfl, _, _, rfl, rfl, (by omega), ?_⟩
      refine q _ _ ?_ ?_ (Kp.write _ _ _) ⟨x, z, hx, z0, upd_same⟩
      · rw [fmod_pos hn0]
        exact Int.emod_nonneg _ (by omega)
      · rw [fmod_pos hn0]
        exact Int.emod_lt_of_pos _ hn0
end PW

namespace PW
open PySem PySem.Spec PyProof.Rows L2
/-! ### names -/
def Code (c : Nat) : Prop := 97 ≤ c ∧ c ≤ 122
def IsName (x : Str) : Prop := ∃ l : List Nat, x = SX.S l ∧ 1 ≤ l.length ∧ l.length ≤ 4 ∧ ∀ c ∈ l, Code c
structure NamesOk (ns : List Str) : Prop where
  nd : ns.Nodup
  ok : ∀ x ∈ ns, IsName x
def Heads (b : Int) (ws : List Str) : Prop := ∀ (j : Nat) (x : Str), ws[j]? = some x → ∃ l : List Nat, x = SX.S ((97 + ((b + 5 * (j : Int)) % 26).toNat) :: l) ∧ l.length ≤ 3 ∧ ∀ c ∈ l, Code c
theorem Heads.nil (b : Int) : Heads b [] := fun j x h => by simp at h
theorem Heads.snoc {b : Int} {ws : List Str} (h : Heads b ws) {l : List Nat} (hl : l.length ≤ 3) (hc : ∀ c ∈ l, Code c) : Heads b (ws ++ [SX.S ((97 + ((b + 5 * (ws.length : Int)) % 26).toNat) :: l)]) := fun j x e => by
  by_cases hj : j < ws.length
  · rw [List.getElem?_append_left hj] at e
    exact h j x e
  · rw [List.getElem?_append_right (by omega)] at e
    by_cases hz : j - ws.length = 0
    · have ej : j = ws.length := by omega
      rw [hz] at e
      have ex : SX.S ((97 + ((b + 5 * (ws.length : Int)) % 26).toNat) :: l) = x := Option.some.inj e
      subst ej
      exact ⟨l, ex.symm, hl, hc⟩
    · obtain ⟨k, hk⟩ : ∃ k, j - ws.length = k + 1 := ⟨j - ws.length - 1, by omega⟩
      rw [hk] at e
      simp at e
theorem Heads.ok {b : Int} {ws : List Str} (h : Heads b ws) (hl : ws.length ≤ 9) : NamesOk ws where
  nd := by
    unfold List.Nodup
    rw [List.pairwise_iff_getElem]
    intro i j hi hj hij e
    obtain ⟨l1, e1, _, _⟩ := h i _ (List.getElem?_eq_getElem hi)
    obtain ⟨l2, e2, _, _⟩ := h j _ (List.getElem?_eq_getElem hj)
    rw [e1, e2] at e
    have e3 := (List.cons.inj (SX.S_inj e)).1
    omega
  ok := fun x hx => by
    obtain ⟨j, hj, e⟩ := List.getElem_of_mem hx
    obtain ⟨l, e1, h1, h2⟩ := h j x (by rw [← e]; exact List.getElem?_eq_getElem hj)
    refine ⟨_, e1, by simp, by simp; omega, fun c hc => ?_⟩
    rcases List.mem_cons.mp hc with rfl | hc
    · unfold Code
      omega
    · exact h2 c hc
theorem ixN_of {n : Nat} {i : Int} {j : Nat} (e : i = (j : Int)) (h : j < n) : ixN n i = some j := by
  subst e
  unfold ixN
  rw [if_pos (by omega), if_pos (by omega)]
  simp
theorem atI_of {α : Type} {xs : List α} {i : Int} {j : Nat} {v : α} (e : i = (j : Int)) (h : xs[j]? = some v) : atI xs i = some v := by
  have hj : j < xs.length := (List.getElem?_eq_some_iff.mp h).1
  unfold atI
  rw [ixN_of e hj]
  exact h
theorem letters_eq : ("abcdefghijklmnopqrstuvwxyz" : Str).cps.toList = List.range' 97 26 := by decide +kernel
theorem letters_at {i : Int} (h0 : 0 ≤ i) (h1 : i < 26) : atI ("abcdefghijklmnopqrstuvwxyz" : Str).cps.toList i = some (97 + i.toNat) := by
  rw [letters_eq]
  refine atI_of (j := i.toNat) (show i = ((i.toNat : Nat) : Int) by omega) ?_
  rw [List.getElem?_range' (by omega), Nat.one_mul]
theorem letters_len : ("abcdefghijklmnopqrstuvwxyz" : Str).length ≤ sizeLine := by decide +kernel
theorem code_of {i : Int} (h0 : 0 ≤ i) (h1 : i < 26) : Code (97 + i.toNat) := ⟨by omega, by omega⟩
theorem small_size {n : Nat} (h : n ≤ 1000) : n ≤ sizeLine := Nat.le_of_lt (small1000 h)
def spNames : Sp := fun vs H Q _ => ∃ (p : Addr) (n : Int), vs = [.ref p, .int n] ∧ Pot H p ∧ 1 ≤ n ∧ n ≤ 9 ∧
  ∀ r ns H', NamesOk ns → ns.length = n.toNat → H r = none → Kp p H H' → Pot H' p → H' r = some (.lst (ns.map V.str)) → Q (.ref r) H'
end PW

namespace PW
open PySem PySem.Spec PyProof.Rows L2
theorem ok_law_names {P : Program} {w : World} {K : PySem.W.Frag} {mg : Str → Option Value} {base : Heap} (T : Top K mg) :
    C8.Cal P w K mg base 2 "_law_names" spNames [] := by
  refine cal_of (fd_law_names T) (g_law_names T) sc_law_names bi_law_names (fun vs H Q E h => ?_) (fun cdv A outer s H vs Q E hr h => ?_)
  · obtain ⟨p, n, rfl, _⟩ := h
    rfl
  · obtain ⟨p, n, rfl, hp, hn0, hn1, q⟩ := h
    refine ⟨_, (pss_cons (ps_set (i := 2) sc_law_names.nd rfl (by first | exact Or.inl rfl | exact Or.inr rfl) pe_str)
      (pss_cons (ps_set (i := 3) sc_law_names.nd rfl (by first | exact Or.inl rfl | exact Or.inr rfl) (C8.pe_c (ok_law_take T) hr (by decide) (by rfl) (pa_cons (pv 0) (pa_cons pe_int pa_nil))))
      (pss_cons (ps_set (i := 4) sc_law_names.nd rfl (by first | exact Or.inl rfl | exact Or.inr rfl) (pe_lst pa_nil))
      (pss_cons (ps_for PassesOwn.never rfl (pi_range1 (by rfl) (f_range T) (pa_cons (pv 1) pa_nil)) (pg_name (i := 5) sc_law_names.nd rfl (by first | exact Or.inl rfl | exact Or.inr rfl)) (pss_cons (ps_set (i := 6) sc_law_names.nd rfl (by first | exact Or.inl rfl | exact Or.inr rfl) (pe_ix ix_str (pv 2) (pe_op op_modN (pe_op op_add (pv 3) (pe_op op_mul pe_int (pv 5))) pe_int) (fun _ _ => rfl)))
      (pss_cons (ps_for PassesOwn.never rfl (pi_range1 (by rfl) (f_range T) (pa_cons (C8.pe_c (ok_law_take T) hr (by decide) (by rfl) (pa_cons (pv 0) (pa_cons pe_int pa_nil))) pa_nil)) (pg_name (i := 7) sc_law_names.nd rfl (by first | exact Or.inl rfl | exact Or.inr rfl)) (pss_one (ps_set (i := 6) sc_law_names.nd rfl (by first | exact Or.inl rfl | exact Or.inr rfl) (pe_op op_add_str (pv 6) (pe_ix ix_str (pv 2) (C8.pe_c (ok_law_take T) hr (by decide) (by rfl) (pa_cons (pv 0) (pa_cons pe_int pa_nil))) (fun _ _ => rfl))))))
      (pss_one (ps_expr (pe_bm PySem.F.plainAttrs_list PySem.F.slot_list_append PySem.F.type_list_append mt_append (pv 4) (pa_cons (pv 6) pa_nil)))))))
      (pss_one (ps_ret (pv 4))))))), ?_⟩
    -- letters, begin, found
    refine ⟨.ref p, rfl, p, 26, rfl, hp, by decide, by decide, fun b H1 hb0 hb1 k1 p1 => ⟨Nat.zero_le _, fun r nr => ?_⟩⟩
    have nrp : r ≠ p := p1.ne nr
    have fr : H r = none := k1.free nrp nr
    refine ⟨.int n, rfl, n, rfl, by omega, by omega, for_range (lo := 0) (n := n.toNat) (fun i σ H2 => ∃ (ws : List Str) (y5 y6 y7 : Option V),
      σ = [some (.ref p), some (.int n), some (.str "abcdefghijklmnopqrstuvwxyz"), some (.int b), some (.ref r), y5, y6, y7] ∧ ws.length = i ∧ Heads b ws ∧ Kp p H H2 ∧ Pot H2 p ∧ H2 r = some (.lst (ws.map V.str)))
      ⟨[], none, none, none, rfl, rfl, Heads.nil b, k1.new nr, p1.same (same_new nr), upd_same⟩ ?_ ?_⟩
    · rintro i σ H2 hi ⟨ws, y5, y6, y7, rfl, hw, hh, k2, p2, er⟩
      -- word = letters[..]
      refine ⟨_, rfl, .int b, rfl, _, rfl, 5, _, rfl, rfl, .inl ⟨by decide, by decide⟩, b, _, rfl, rfl, _, 26, rfl, rfl, (by show (26 : Int) ≠ 0; decide), _, _, _, rfl, rfl, letters_len, letters_at ?_ ?_, ?_⟩
      · rw [fmod_pos (by decide)]
        exact Int.emod_nonneg _ (by decide)
      · rw [fmod_pos (by decide)]
        exact Int.emod_lt_of_pos _ (by decide)
      -- for j in range(take(pot, 4))
      refine ⟨.ref p, rfl, p, 4, rfl, p2, by decide, by decide, fun d H3 d0 d1 k3 p3 => ⟨d, rfl, by omega, by omega, for_range (lo := 0) (n := d.toNat) (fun j σ H4 => ∃ (l : List Nat) (z7 : Option V),
        σ = [some (.ref p), some (.int n), some (.str "abcdefghijklmnopqrstuvwxyz"), some (.int b), some (.ref r), some (.int (0 + (i : Int))), some (.str (SX.S ((97 + ((b + 5 * (ws.length : Int)) % 26).toNat) :: l))), z7] ∧ l.length = j ∧ (∀ c ∈ l, Code c) ∧ Kp p H H4 ∧ Pot H4 p ∧ H4 r = some (.lst (ws.map V.str)))
        ⟨[], y7, ?_, rfl, fun c hc => by simp at hc, k2.trans k3, p3, k3 r _ nrp er⟩ ?_ ?_⟩⟩
      · rw [fmod_pos (by decide), hw, Int.zero_add]
        rfl
      · rintro j σ H4 hj ⟨l, z7, rfl, hl, hc, k4, p4, er4⟩
        refine ⟨_, rfl, _, rfl, .ref p, rfl, p, 26, rfl, p4, by decide, by decide, fun e H5 e0 e1 k5 p5 => ⟨_, _, _, rfl, rfl, letters_len, letters_at e0 e1, _, _, rfl, rfl, ?_, ?_⟩⟩
        · rw [SX.S_len]
          show _ + 1 ≤ sizeLine
          refine small_size ?_
          simp
          omega
        · refine ⟨l ++ [97 + e.toNat], some (.int (0 + (j : Int))), ?_, by simp [hl], fun c h => ?_, k4.trans k5, p5, k5 r _ nrp er4⟩
          · rw [show (SX.S ((97 + ((b + 5 * (ws.length : Int)) % 26).toNat) :: l) ++ (⟨#[97 + e.toNat]⟩ : Str)) = SX.S (((97 + ((b + 5 * (ws.length : Int)) % 26).toNat) :: l) ++ [97 + e.toNat]) from SX.S_cat _ _]
            rfl
          · rcases List.mem_append.mp h with h | h
            · exact hc c h
            · rw [List.mem_singleton.mp h]
              exact code_of e0 e1
      · rintro σ H4 ⟨l, z7, rfl, hl, hc, k4, p4, er4⟩
        -- found.append(word)
        refine ⟨.ref r, rfl, .inl ⟨rfl, _, SqL.of er4⟩, _, rfl, r, _, _, rfl, rfl, er4, ?_, ?_⟩
        · rw [List.length_map]
          exact small1000 (by omega)
        · refine ⟨ws ++ [SX.S ((97 + ((b + 5 * (ws.length : Int)) % 26).toNat) :: l)], _, _, _, rfl, by simp [hw], hh.snoc (by omega) hc, k4.into fr, p4.into nrp, ?_⟩
          rw [upd_same, List.map_append]
          rfl
    · rintro σ H2 ⟨ws, y5, y6, y7, rfl, hw, hh, k2, p2, er⟩
      exact ⟨_, rfl, q r ws H2 (hh.ok (by omega)) hw fr k2 p2 er⟩
end PW

namespace PW
open PySem PySem.Spec PyProof.Rows L2
/-! ### lists that hold what another holds, in another order -/
theorem perm_of_map {α β : Type} {f : α → β} : ∀ {ys zs : List β}, ys.Perm zs → ∀ l : List α, zs = l.map f → ∃ l' : List α, ys = l'.map f ∧ l'.Perm l := by
  intro ys zs h
  induction h with
  | nil =>
    intro l e
    have : l = [] := by
      cases l with
      | nil => rfl
      | cons a b => cases e
    subst this
    exact ⟨[], rfl, .nil⟩
  | cons x _ ih =>
    intro l e
    cases l with
    | nil => cases e
    | cons a b =>
      rw [List.map_cons] at e
      obtain ⟨e1, e2⟩ := List.cons.inj e
      obtain ⟨l', h1, h2⟩ := ih b e2
      exact ⟨a :: l', by rw [List.map_cons, e1, h1], h2.cons a⟩
  | swap x y r =>
    intro l e
    match l, e with
    | [], e => cases e
    | [_], e => cases e
    | a :: b :: c, e =>
      rw [List.map_cons, List.map_cons] at e
      obtain ⟨e1, e2⟩ := List.cons.inj e
      obtain ⟨e3, e4⟩ := List.cons.inj e2
      exact ⟨b :: a :: c, by rw [List.map_cons, List.map_cons, e1, e3, e4], .swap a b c⟩
  | trans _ _ ih1 ih2 =>
    intro l e
    obtain ⟨l1, a1, b1⟩ := ih2 l e
    obtain ⟨l2, a2, b2⟩ := ih1 l1 a1
    exact ⟨l2, a2, b2.trans b1⟩
theorem perm_insert {α : Type} (ys : List α) (x : α) (n : Nat) : (ys.take n ++ [x] ++ ys.drop n).Perm (ys ++ [x]) := by
  have h1 : (ys.take n ++ [x] ++ ys.drop n).Perm (ys.take n ++ (ys.drop n ++ [x])) := by
    rw [List.append_assoc]
    exact List.Perm.append_left _ List.perm_append_comm
  rw [← List.append_assoc, List.take_append_drop] at h1
  exact h1
theorem take_snoc {α : Type} {xs : List α} {i : Nat} {x : α} (h : xs[i]? = some x) : xs.take (i + 1) = xs.take i ++ [x] := by
  rw [List.take_add_one, h]
  rfl
/-! ### ties -/
abbrev Ats := List (Addr × Str × Str)
def Ats.vals (l : Ats) : List V := l.map fun x => V.ref x.1
def Ats.ties (l : Ats) : List (Str × Str) := l.map fun x => x.2
def TieOk (ns : List Str) (t : Str × Str) : Prop := t.1 ∈ ns ∧ t.2 ∈ ns ∧ t.1 ≠ t.2
def TupsAt (H : Hp) (l : Ats) : Prop := ∀ x ∈ l, H x.1 = some (.tup [.str x.2.1, .str x.2.2])
theorem TupsAt.nil (H : Hp) : TupsAt H [] := fun x h => by simp at h
theorem TupsAt.same {H H' : Hp} {l : Ats} (h : TupsAt H l) (e : Same H H') : TupsAt H' l := fun x hx => e _ _ (h x hx)
theorem TupsAt.kp {H H' : Hp} {l : Ats} {p : Addr} (h : TupsAt H l) (hp : Pot H p) (e : Kp p H H') : TupsAt H' l := fun x hx => by
  obtain ⟨a, b, _, _, z⟩ := hp
  exact e _ _ (ne_of (h x hx) z (by intro q; cases q)) (h x hx)
theorem TupsAt.snoc {H : Hp} {l : Ats} {x : Addr × Str × Str} (h : TupsAt H l) (hx : H x.1 = some (.tup [.str x.2.1, .str x.2.2])) : TupsAt H (l ++ [x]) := fun y hy => by
  rcases List.mem_append.mp hy with hy | hy
  · exact h y hy
  · rw [List.mem_singleton.mp hy]
    exact hx
theorem TupsAt.upd {H : Hp} {l : Ats} {q : Addr} {xs ys : List V} (h : TupsAt H l) (e : H q = some (.lst xs)) : TupsAt (L2.upd H q (.lst ys)) l := fun x hx => by
  rw [upd_ne (ne_of (h x hx) e (by intro z; cases z))]
  exact h x hx
theorem TupsAt.perm {H : Hp} {l l' : Ats} (h : TupsAt H l) (e : l'.Perm l) : TupsAt H l' := fun x hx => h x (e.mem_iff.mp hx)
theorem Pot.tup_ne {H : Hp} {p q : Addr} {xs : List V} (h : Pot H p) (e : H q = some (.tup xs)) : q ≠ p := by
  obtain ⟨a, b, _, _, z⟩ := h
  exact ne_of e z (by intro w; cases w)
def spMixed : Sp := fun vs H Q _ => ∃ (p a : Addr) (xs : List V), vs = [.ref p, .ref a] ∧ Pot H p ∧ a ≠ p ∧ H a = some (.lst xs) ∧ xs.length ≤ 1000 ∧
  ∀ r ys H', ys.Perm xs → H r = none → Kp p H H' → Pot H' p → H' r = some (.lst ys) → Q (.ref r) H'
def spTie : Sp := fun vs H Q _ => ∃ (p a : Addr) (ns : List Str), vs = [.ref p, .ref a] ∧ Pot H p ∧ a ≠ p ∧ H a = some (.lst (ns.map V.str)) ∧ ns.Nodup ∧ 2 ≤ ns.length ∧ ns.length ≤ 1000 ∧
  ∀ t x y H', TieOk ns (x, y) → H t = none → Kp p H H' → Pot H' p → H' t = some (.tup [.str x, .str y]) → Q (.ref t) H'
theorem nodup_ne {ns : List Str} (h : ns.Nodup) {i j : Nat} {x y : Str} (hi : ns[i]? = some x) (hj : ns[j]? = some y) (ne : i ≠ j) : x ≠ y := by
  obtain ⟨h1, e1⟩ := List.getElem?_eq_some_iff.mp hi
  obtain ⟨h2, e2⟩ := List.getElem?_eq_some_iff.mp hj
  unfold List.Nodup at h
  rw [List.pairwise_iff_getElem] at h
  rw [← e1, ← e2]
  rcases Nat.lt_or_gt_of_ne ne with z | z
  · exact h i j h1 h2 z
  · exact fun q => h j i h2 h1 z q.symm
end PW

namespace PW
open PySem PySem.Spec PyProof.Rows L2
theorem ok_law_mixed {P : Program} {w : World} {K : PySem.W.Frag} {mg : Str → Option Value} {base : Heap} (T : Top K mg) :
    C8.Cal P w K mg base 2 "_law_mixed" spMixed [] := by
  refine cal_of (fd_law_mixed T) (g_law_mixed T) sc_law_mixed bi_law_mixed (fun vs H Q E h => ?_) (fun cdv A outer s H vs Q E hr h => ?_)
  · obtain ⟨p, a, xs, rfl, _⟩ := h
    rfl
  · obtain ⟨p, a, xs, rfl, hp, nap, ha, hx, q⟩ := h
    refine ⟨_, (pss_cons (ps_set (i := 2) sc_law_mixed.nd rfl (by first | exact Or.inl rfl | exact Or.inr rfl) (pe_lst pa_nil))
      (pss_cons (ps_for PassesOwn.never rfl (pi_list (pv 1)) (pg_name (i := 3) sc_law_mixed.nd rfl (by first | exact Or.inl rfl | exact Or.inr rfl)) (pss_one (ps_expr (pe_bm PySem.F.plainAttrs_list PySem.F.slot_list_insert PySem.F.type_list_insert mt_insert (pv 2) (pa_cons (C8.pe_c (ok_law_take T) hr (by decide) (by rfl) (pa_cons (pv 0) (pa_cons (pe_op op_add (pe_callB (lenK (K := K)) (by rfl) (f_len T) PySem.boot_len (pa_cons (pv 2) pa_nil)) pe_int) pa_nil))) (pa_cons (pv 3) pa_nil))))))
      (pss_one (ps_ret (pv 2))))), ?_⟩
    refine ⟨Nat.zero_le _, fun r nr => ?_⟩
    have nrp : r ≠ p := hp.ne nr
    have nar : a ≠ r := ne_of_none ha nr
    refine ⟨.ref a, rfl, a, rfl, ⟨xs, SqL.of (same_new nr _ _ ha)⟩, for_list (K := K) (a := a) (xs := xs) (fun i σ H2 => ∃ (ys : List V) (y3 : Option V),
      σ = [some (.ref p), some (.ref a), some (.ref r), y3] ∧ ys.Perm (xs.take i) ∧ Kp p H H2 ∧ Pot H2 p ∧ H2 r = some (.lst ys))
      ⟨[], none, rfl, .nil, Kp.same (same_new nr), hp.same (same_new nr), upd_same⟩ (fun i σ H2 _ ⟨_, _, _, _, k, _, _⟩ => SqL.of (k a _ nap ha)) ?_ ?_⟩
    · rintro i x σ H2 hi ⟨ys, y3, rfl, hy, k2, p2, er⟩
      have hl : ys.length = (xs.take i).length := hy.length_eq
      rw [List.length_take] at hl
      refine ⟨.ref r, rfl, .inl ⟨rfl, _, SqL.of er⟩, .ref p, rfl, .ref r, rfl, r, ys, rfl, .inl (SqL.of er), _, _, rfl, rfl, p, _, rfl, p2, by omega, by omega, fun d H3 d0 d1 k3 p3 => ⟨_, rfl, r, ys, d, x, rfl, rfl, k3 r _ nrp er, small1000 (by omega), d0, by omega, ?_⟩⟩
      refine ⟨_, some x, rfl, (perm_insert ys x d.toNat).trans ?_, (k2.trans k3).into nr, p3.into nrp, upd_same⟩
      rw [take_snoc hi]
      exact hy.append_right [x]
    · rintro σ H2 ⟨ys, y3, rfl, hy, k2, p2, er⟩
      rw [List.take_length] at hy
      exact ⟨_, rfl, q r ys H2 hy nr k2 p2 er⟩
theorem ok_law_tie {P : Program} {w : World} {K : PySem.W.Frag} {mg : Str → Option Value} {base : Heap} (T : Top K mg) :
    C8.Cal P w K mg base 2 "_law_tie" spTie [] := by
  refine cal_of (fd_law_tie T) (g_law_tie T) sc_law_tie bi_law_tie (fun vs H Q E h => ?_) (fun cdv A outer s H vs Q E hr h => ?_)
  · obtain ⟨p, a, ns, rfl, _⟩ := h
    rfl
  · obtain ⟨p, a, ns, rfl, hp, nap, ha, nd, h2, h3, q⟩ := h
    refine ⟨_, (pss_cons (ps_set (i := 2) sc_law_tie.nd rfl (by first | exact Or.inl rfl | exact Or.inr rfl) (C8.pe_c (ok_law_take T) hr (by decide) (by rfl) (pa_cons (pv 0) (pa_cons (pe_callB (lenK (K := K)) (by rfl) (f_len T) PySem.boot_len (pa_cons (pv 1) pa_nil)) pa_nil))))
      (pss_cons (ps_set (i := 3) sc_law_tie.nd rfl (by first | exact Or.inl rfl | exact Or.inr rfl) (pe_op op_modN (pe_op op_add (pe_op op_add (pv 2) pe_int) (C8.pe_c (ok_law_take T) hr (by decide) (by rfl) (pa_cons (pv 0) (pa_cons (pe_op op_sub (pe_callB (lenK (K := K)) (by rfl) (f_len T) PySem.boot_len (pa_cons (pv 1) pa_nil)) pe_int) pa_nil)))) (pe_callB (lenK (K := K)) (by rfl) (f_len T) PySem.boot_len (pa_cons (pv 1) pa_nil))))
      (pss_one (ps_ret (pe_tup (pa_cons (pe_ix (ixL (K := K)) (pv 1) (pv 2) (fun _ _ => rfl)) (pa_cons (pe_ix (ixL (K := K)) (pv 1) (pv 3) (fun _ _ => rfl)) pa_nil))))))), ?_⟩
    have hl : ((ns.map V.str).length : Int) = ns.length := by rw [List.length_map]
    refine ⟨.ref p, rfl, .ref a, rfl, a, _, rfl, .inl (SqL.of ha), p, _, rfl, hp, by omega, by omega, fun i H1 i0 i1 k1 p1 => ?_⟩
    have ha1 := k1 a _ nap ha
    refine ⟨.int i, rfl, _, _, rfl, rfl, .ref p, rfl, .ref a, rfl, a, _, rfl, .inl (SqL.of ha1), _, _, rfl, rfl, p, _, rfl, p1, by omega, by omega, fun j H2 j0 j1 k2 p2 => ?_⟩
    have ha2 := k2 a _ nap ha1
    refine ⟨_, _, rfl, rfl, .ref a, rfl, a, _, rfl, .inl (SqL.of ha2), _, _, rfl, rfl, (by rw [hl]; omega), ?_⟩
    have hm : (i + 1 + j).fmod ((ns.map V.str).length : Int) = (i + 1 + j) % (ns.length : Int) := by
      rw [hl, fmod_pos (by omega)]
    obtain ⟨z, hz, z0, z1, zi⟩ : ∃ z : Int, (i + 1 + j) % (ns.length : Int) = z ∧ 0 ≤ z ∧ z < ns.length ∧ z ≠ i := by
      refine ⟨_, rfl, Int.emod_nonneg _ (by omega), Int.emod_lt_of_pos _ (by omega), ?_⟩
      by_cases hw : i + 1 + j < ns.length
      · rw [Int.emod_eq_of_lt (by omega) hw]
        omega
      · have e : (i + 1 + j) % (ns.length : Int) = (i + 1 + j - ns.length) % (ns.length : Int) := by
          rw [Int.sub_emod_right]
        rw [e, Int.emod_eq_of_lt (by omega) (by omega)]
        omega
    simp only [hm, hz]
    have hi : i.toNat < ns.length := by omega
    have hj : z.toNat < ns.length := by omega
    have gi : (ns.map V.str)[i.toNat]? = some (.str ns[i.toNat]) := by
      rw [List.getElem?_map, List.getElem?_eq_getElem hi]
      rfl
    have gj : (ns.map V.str)[z.toNat]? = some (.str ns[z.toNat]) := by
      rw [List.getElem?_map, List.getElem?_eq_getElem hj]
      rfl
    refine ⟨.ref a, rfl, .int i, rfl, a, _, i, _, rfl, rfl, SqL.of ha2, atI_of (show i = ((i.toNat : Nat) : Int) by omega) gi, .ref a, rfl, .int z, rfl, a, _, z, _, rfl, rfl, SqL.of ha2, atI_of (show z = ((z.toNat : Nat) : Int) by omega) gj, (by show 2 ≤ sizeLine; decide), fun t nt => ?_⟩
    have ft : H t = none := k1.free (p1.ne (k2.free (p2.ne nt) nt)) (k2.free (p2.ne nt) nt)
    exact q t _ _ _ ⟨List.getElem_mem hi, List.getElem_mem hj, nodup_ne nd (List.getElem?_eq_getElem hi) (List.getElem?_eq_getElem hj) (by omega)⟩ ft ((k1.trans k2).new nt) (p2.same (same_new nt)) upd_same
end PW

namespace PW
open PySem PySem.Spec PyProof.Rows L2
theorem ring_at {xs : List Str} (hn : 2 ≤ xs.length) (nd : xs.Nodup) {k : Int} (h0 : 0 ≤ k) (h1 : k < xs.length) :
    ∃ x y, atI (xs.map V.str) (k - 1) = some (.str x) ∧ atI (xs.map V.str) k = some (.str y) ∧ TieOk xs (x, y) := by
  have hk : k.toNat < xs.length := by omega
  have g : ∀ j : Nat, (h : j < xs.length) → (xs.map V.str)[j]? = some (.str xs[j]) := fun j h => by
    rw [List.getElem?_map, List.getElem?_eq_getElem h]
    rfl
  by_cases hz : k = 0
  · have hl : xs.length - 1 < xs.length := by omega
    refine ⟨xs[xs.length - 1], xs[k.toNat], ?_, atI_of (show k = ((k.toNat : Nat) : Int) by omega) (g _ hk), List.getElem_mem hl, List.getElem_mem hk, nodup_ne nd (List.getElem?_eq_getElem hl) (List.getElem?_eq_getElem hk) (by omega)⟩
    subst hz
    unfold atI ixN
    rw [if_neg (by omega), List.length_map, if_pos (by omega)]
    show (xs.map V.str)[((0 : Int) - 1 + (xs.length : Int)).toNat]? = _
    rw [show ((0 : Int) - 1 + (xs.length : Int)).toNat = xs.length - 1 by omega]
    exact g _ hl
  · have hl : (k - 1).toNat < xs.length := by omega
    exact ⟨xs[(k - 1).toNat], xs[k.toNat], atI_of (show k - 1 = (((k - 1).toNat : Nat) : Int) by omega) (g _ hl), atI_of (show k = ((k.toNat : Nat) : Int) by omega) (g _ hk), List.getElem_mem hl, List.getElem_mem hk, nodup_ne nd (List.getElem?_eq_getElem hl) (List.getElem?_eq_getElem hk) (by omega)⟩
theorem TieOk.perm {ns ms : List Str} {t : Str × Str} (h : TieOk ns t) (e : ns.Perm ms) : TieOk ms t := ⟨e.mem_iff.mp h.1, e.mem_iff.mp h.2.1, h.2.2⟩
theorem Ats.vals_len (l : Ats) : l.vals.length = l.length := by
  unfold Ats.vals
  rw [List.length_map]
theorem Ats.vals_snoc (l : Ats) (x : Addr × Str × Str) : Ats.vals (l ++ [x]) = l.vals ++ [V.ref x.1] := by
  unfold Ats.vals
  rw [List.map_append]
  rfl
theorem Ats.vals_at {l : Ats} {i : Nat} {v : V} (h : l.vals[i]? = some v) : ∃ x, l[i]? = some x ∧ v = V.ref x.1 := by
  unfold Ats.vals at h
  rw [List.getElem?_map] at h
  cases e : l[i]? with
  | none =>
    rw [e] at h
    cases h
  | some x =>
    rw [e] at h
    exact ⟨x, rfl, (Option.some.inj h).symm⟩
theorem ints_at {ts : List Int} {i : Nat} {v : V} (h : (ts.map V.int)[i]? = some v) : ∃ x, ts[i]? = some x ∧ v = V.int x := by
  rw [List.getElem?_map] at h
  cases e : ts[i]? with
  | none =>
    rw [e] at h
    cases h
  | some x =>
    rw [e] at h
    exact ⟨x, rfl, (Option.some.inj h).symm⟩
theorem strs_at {ts : List Str} {i : Nat} {v : V} (h : (ts.map V.str)[i]? = some v) : ∃ x, ts[i]? = some x ∧ v = V.str x := by
  rw [List.getElem?_map] at h
  cases e : ts[i]? with
  | none =>
    rw [e] at h
    cases h
  | some x =>
    rw [e] at h
    exact ⟨x, rfl, (Option.some.inj h).symm⟩
theorem all_snoc {α : Type} {P : α → Prop} {l : List α} {x : α} (h : ∀ y ∈ l, P y) (hx : P x) : ∀ y ∈ l ++ [x], P y := fun y hy => by
  rcases List.mem_append.mp hy with hy | hy
  · exact h y hy
  · rw [List.mem_singleton.mp hy]
    exact hx
def spWeb : Sp := fun vs H Q _ => ∃ (p : Addr) (pts most : Int), vs = [.ref p, .int pts, .int most] ∧ Pot H p ∧ 1 ≤ pts ∧ pts ≤ 9 ∧ pts ≤ most ∧ most ≤ 20 ∧
  ∀ t a b ns (ats : Ats) H', NamesOk ns → 1 ≤ ns.length → (ns.length : Int) ≤ pts → (ats.length : Int) ≤ most → (∀ x ∈ ats, TieOk ns x.2) → H t = none → H a = none → H b = none → a ≠ b → Kp p H H' → Pot H' p →
    H' t = some (.tup [.ref a, .ref b]) → H' a = some (.lst (ns.map V.str)) → H' b = some (.lst ats.vals) → TupsAt H' ats → Q (.ref t) H'
end PW

namespace PW
open PySem PySem.Spec PyProof.Rows L2
theorem ok_law_web {P : Program} {w : World} {K : PySem.W.Frag} {mg : Str → Option Value} {base : Heap} (T : Top K mg) :
    C8.Cal P w K mg base 3 "_law_web" spWeb [] := by
  refine cal_of (fd_law_web T) (g_law_web T) sc_law_web bi_law_web (fun vs H Q E h => ?_) (fun cdv A outer s H vs Q E hr h => ?_)
  · obtain ⟨p, pts, most, rfl, _⟩ := h
    rfl
  · obtain ⟨p, pts, most, rfl, hp, hp1, hp9, hpm, hm20, q⟩ := h
    refine ⟨_, (pss_cons (ps_set (i := 3) sc_law_web.nd rfl (by first | exact Or.inl rfl | exact Or.inr rfl) (C8.pe_c (ok_law_names T) hr (by decide) (by rfl) (pa_cons (pv 0) (pa_cons (pe_op op_add pe_int (C8.pe_c (ok_law_take T) hr (by decide) (by rfl) (pa_cons (pv 0) (pa_cons (pv 1) pa_nil)))) pa_nil))))
      (pss_cons (ps_set (i := 4) sc_law_web.nd rfl (by first | exact Or.inl rfl | exact Or.inr rfl) (C8.pe_c (ok_law_take T) hr (by decide) (by rfl) (pa_cons (pv 0) (pa_cons pe_int pa_nil))))
      (pss_cons (ps_set (i := 5) sc_law_web.nd rfl (by first | exact Or.inl rfl | exact Or.inr rfl) (pe_lst pa_nil))
      (C8.pss_cut (ps_if (pt_cmpR op_gt (pe_callB (lenK (K := K)) (by rfl) (f_len T) PySem.boot_len (pa_cons (pv 3) pa_nil)) pe_int (nomark _)) (pss_cons (ps_set (i := 6) sc_law_web.nd rfl (by first | exact Or.inl rfl | exact Or.inr rfl) (C8.pe_c (ok_law_mixed T) hr (by decide) (by rfl) (pa_cons (pv 0) (pa_cons (pv 3) pa_nil))))
      (C8.pss_cut (ps_if (pt_cmpR op_gt (pv 4) pe_int (nomark _)) (pss_one (ps_setLc (i := 5) (own := [("_law_k", 7)]) (g := gName 7) (by rfl) sc_law_web.nd rfl rfl (sw_true rfl rfl rfl (by decide +kernel)) (pi_range2 (by rfl) (f_range T) (pa_cons (pe_callTy call_int1 (by rfl) (f_int T) (by decide +kernel) (pa_cons (pe_cmpR op_eq (pv 4) pe_int (nomark _)) pa_nil)) (pa_cons (pe_callB (lenK (K := K)) (by rfl) (f_len T) PySem.boot_len (pa_cons (pv 6) pa_nil)) pa_nil))) (blkOk_by (own := [("_law_k", 7)]) (N := ["_law_pot_here", "_law_points", "_law_most", "_law_names_here", "_law_kind", "_law_ties", "_law_row", "_law_k", "_law_turns", "_law_tie_here", "_law_turn", "_law_a", "_law_b"]) (sc := defScope s_law_web) (by decide +kernel)) (fun _ _ _ _ _ => (pg_name (i := 7) sc_law_web.nd rfl (by first | exact Or.inl rfl | exact Or.inr rfl))) (fun _ _ _ _ _ => pts_nil) (fun _ _ _ _ _ => (pe_tup (pa_cons (pe_ix (ixL (K := K)) (pv 6) (pe_op op_sub (pv 7) pe_int) (fun _ _ => rfl)) (pa_cons (pe_ix (ixL (K := K)) (pv 6) (pv 7) (fun _ _ => rfl)) pa_nil)))))) pss_nil)
      (pss_one (ps_for PassesOwn.never rfl (pi_range1 (by rfl) (f_range T) (pa_cons (C8.pe_c (ok_law_take T) hr (by decide) (by rfl) (pa_cons (pv 0) (pa_cons (pe_op op_add (pe_op op_sub (pv 2) (pe_callB (lenK (K := K)) (by rfl) (f_len T) PySem.boot_len (pa_cons (pv 5) pa_nil))) pe_int) pa_nil))) pa_nil)) (pg_name (i := 7) sc_law_web.nd rfl (by first | exact Or.inl rfl | exact Or.inr rfl)) (pss_one (ps_expr (pe_bm PySem.F.plainAttrs_list PySem.F.slot_list_append PySem.F.type_list_append mt_append (pv 5) (pa_cons (C8.pe_c (ok_law_tie T) hr (by decide) (by rfl) (pa_cons (pv 0) (pa_cons (pv 3) pa_nil))) pa_nil)))))))) pss_nil)
      (pss_cons (ps_setLc (i := 8) (own := [("_law_tie_here", 9)]) (g := gName 9) (by rfl) sc_law_web.nd rfl rfl (sw_true rfl rfl rfl (by decide +kernel)) (pi_list (pv 5)) (blkOk_by (own := [("_law_tie_here", 9)]) (N := ["_law_pot_here", "_law_points", "_law_most", "_law_names_here", "_law_kind", "_law_ties", "_law_row", "_law_k", "_law_turns", "_law_tie_here", "_law_turn", "_law_a", "_law_b"]) (sc := defScope s_law_web) (by decide +kernel)) (fun _ _ _ _ _ => (pg_name (i := 9) sc_law_web.nd rfl (by first | exact Or.inl rfl | exact Or.inr rfl))) (fun _ _ _ _ _ => pts_nil) (fun _ _ _ _ _ => (C8.pe_c (ok_law_take T) hr (by decide) (by rfl) (pa_cons (pv 0) (pa_cons pe_int pa_nil)))))
      (pss_cons (ps_setLc (i := 5) (own := [("_law_a", 11), ("_law_b", 12), ("_law_turn", 10)]) (g := gTup K 2 (gCons (gTup K 2 (gCons (gName 11) (gCons (gName 12) gNil))) (gCons (gName 10) gNil))) (by rfl) sc_law_web.nd rfl rfl (sw_true rfl rfl rfl (by decide +kernel)) (pi_zip (by rfl) (f_zip T) (pa_cons (pv 5) (pa_cons (pv 8) pa_nil))) (blkOk_by (own := [("_law_a", 11), ("_law_b", 12), ("_law_turn", 10)]) (N := ["_law_pot_here", "_law_points", "_law_most", "_law_names_here", "_law_kind", "_law_ties", "_law_row", "_law_k", "_law_turns", "_law_tie_here", "_law_turn", "_law_a", "_law_b"]) (sc := defScope s_law_web) (by decide +kernel)) (fun _ _ _ _ _ => (pg_tup (n := 2) rfl (pgs_cons (pg_tup (n := 2) rfl (pgs_cons (pg_name (i := 11) sc_law_web.nd rfl (by first | exact Or.inl rfl | exact Or.inr rfl)) (pgs_cons (pg_name (i := 12) sc_law_web.nd rfl (by first | exact Or.inl rfl | exact Or.inr rfl)) pgs_nil))) (pgs_cons (pg_name (i := 10) sc_law_web.nd rfl (by first | exact Or.inl rfl | exact Or.inr rfl)) pgs_nil)))) (fun _ _ _ _ _ => pts_nil) (fun _ _ _ _ _ => (pe_ix (ixL (K := K)) (pe_lst (pa_cons (pe_tup (pa_cons (pv 11) (pa_cons (pv 12) pa_nil))) (pa_cons (pe_tup (pa_cons (pv 12) (pa_cons (pv 11) pa_nil))) pa_nil))) (pv 10) (fun _ _ => rfl))))
      (pss_one (ps_ret (pe_tup (pa_cons (pv 3) (pa_cons (C8.pe_c (ok_law_mixed T) hr (by decide) (by rfl) (pa_cons (pv 0) (pa_cons (pv 5) pa_nil))) pa_nil))))))))))), ?_⟩
    refine ⟨.ref p, rfl, .ref p, rfl, .int pts, rfl, p, pts, rfl, hp, by omega, by omega, fun d H1 d0 d1 k1 p1 => ⟨_, _, rfl, rfl, p, _, rfl, p1, by omega, by omega, fun a ns H2 hns hlen na k2 p2 ea => ?_⟩⟩
    have nap : a ≠ p := p1.ne na
    have fa : H a = none := k1.free nap na
    refine ⟨.ref p, rfl, p, 4, rfl, p2, by decide, by decide, fun kd H3 kd0 kd1 k3 p3 => ⟨Nat.zero_le _, fun b0 nb0 => ?_⟩⟩
    have k13 : Kp p H H3 := (k1.trans k2).trans k3
    have ea3 := k3 a _ nap ea
    have nb0p : b0 ≠ p := p3.ne nb0
    have fb0 : H b0 = none := k13.free nb0p nb0
    have nab0 : b0 ≠ a := (ne_of_none ea3 nb0).symm
    refine ⟨fun σ' H' => ∃ (b : Addr) (ats : Ats) (y6 y7 : Option V), σ' = [some (.ref p), some (.int pts), some (.int most), some (.ref a), some (.int kd), some (.ref b), y6, y7, none, none, none, none, none] ∧
      Kp p H H' ∧ Pot H' p ∧ H' a = some (.lst (ns.map V.str)) ∧ H b = none ∧ b ≠ a ∧ H' b = some (.lst ats.vals) ∧ TupsAt H' ats ∧ (∀ x ∈ ats, TieOk ns x.2) ∧ (ats.length : Int) ≤ most, ?_, ?_⟩
    · have ea4 : upd H3 b0 (.lst []) a = some (.lst (ns.map V.str)) := same_new nb0 _ _ ea3
      have p4 : Pot (upd H3 b0 (.lst [])) p := p3.same (same_new nb0)
      refine ⟨.ref a, rfl, a, _, rfl, .inl (SqL.of ea4), _, _, rfl, rfl, _, rfl, ite2 (fun e => ?_) (fun e => ?_)⟩
      · have hl2 : 2 ≤ ns.length := by
          have e1 : (1 : Int) < ((ns.map V.str).length : Int) := of_decide_eq_true e
          rw [List.length_map] at e1
          omega
        -- row
        refine ⟨.ref p, rfl, .ref a, rfl, p, a, _, rfl, p4, nap, ea4, (by rw [List.length_map]; omega), fun rw' ys H5 hperm nrw k5 p5 erw => ?_⟩
        obtain ⟨row, rfl, hrow⟩ := perm_of_map hperm ns rfl
        have nrwp : rw' ≠ p := p4.ne nrw
        have hrl : row.length = ns.length := hrow.length_eq
        have rnd : row.Nodup := hrow.nodup_iff.mpr hns.nd
        have kH5 : Kp p H H5 := (k13.new nb0).trans k5
        have ea5 := k5 a _ nap ea4
        have eb5 : H5 b0 = some (.lst []) := k5 b0 _ nb0p upd_same
        refine ⟨fun σ' H' => ∃ (b : Addr) (ats : Ats), σ' = [some (.ref p), some (.int pts), some (.int most), some (.ref a), some (.int kd), some (.ref b), some (.ref rw'), none, none, none, none, none, none] ∧
          Kp p H H' ∧ Pot H' p ∧ H' a = some (.lst (ns.map V.str)) ∧ H b = none ∧ b ≠ a ∧ H' b = some (.lst ats.vals) ∧ TupsAt H' ats ∧ (∀ x ∈ ats, TieOk ns x.2) ∧ (ats.length : Int) ≤ most, ?_, ?_⟩
        · refine ⟨.int kd, rfl, _, _, rfl, rfl, _, rfl, ite2 (fun e2 => ?_) (fun e2 => ?_)⟩
          · refine ⟨.int kd, rfl, rfl, .inr ⟨_, rfl, .ref rw', rfl, rw', _, rfl, .inl (SqL.of erw), _, _, rfl, ?_⟩⟩
            obtain ⟨lo, elo, lo0, lo1⟩ : ∃ lo : Int, (if decide (V.int kd = V.int 3) = true then (1 : Int) else 0) = lo ∧ 0 ≤ lo ∧ lo ≤ 1 := by
              refine ⟨_, rfl, ?_, ?_⟩ <;> split <;> omega
            have hrl2 : ((row.map V.str).length : Int) = row.length := by rw [List.length_map]
            refine ⟨⟨?_, ?_, ?_, ?_⟩, ?_⟩
            · rw [elo]
              omega
            · rw [elo]
              omega
            · rw [hrl2]
              omega
            · rw [hrl2]
              omega
            simp only [elo, hrl2]
            intro D nD
            have nDp : D ≠ p := p5.ne nD
            have fD : H D = none := kH5.free nDp nD
            refine lc_range (lo := lo) (n := ((row.length : Int) - lo).toNat) (fun i Hc => ∃ ats : Ats, Kp p H Hc ∧ Pot Hc p ∧ Hc a = some (.lst (ns.map V.str)) ∧ Hc rw' = some (.lst (row.map V.str)) ∧ Hc D = some (.lst ats.vals) ∧ TupsAt Hc ats ∧ (∀ x ∈ ats, TieOk ns x.2) ∧ ats.length = i)
              ⟨[], kH5.new nD, p5.same (same_new nD), same_new nD _ _ ea5, same_new nD _ _ erw, upd_same, TupsAt.nil _, fun x h => by simp at h, rfl⟩ ?_ ?_
            · rintro i Hc hi ⟨ats, kc, pc, eac, erc, eD, hT, hv, hlc⟩
              obtain ⟨x, y, g1, g2, hxy⟩ := ring_at (xs := row) (by omega) rnd (k := lo + i) (by omega) (by omega)
              refine ⟨rfl, .ref rw', rfl, .int (lo + i), rfl, _, _, rfl, rfl, rw', _, _, _, rfl, rfl, SqL.of erc, g1, .ref rw', rfl, .int (lo + i), rfl, rw', _, _, _, rfl, rfl, SqL.of erc, g2, (by show 2 ≤ sizeLine; decide), fun t nt => ⟨_, same_new nt _ _ eD, ?_, ?_⟩⟩
              · rw [Ats.vals_len]
                exact small1000 (by omega)
              · have nDt : D ≠ t := ne_of_none eD nt
                refine ⟨ats ++ [(t, x, y)], (kc.new nt).into fD, (pc.same (same_new nt)).into nDp, ?_, ?_, ?_, ?_, all_snoc hv (hxy.perm hrow), by simp [hlc]⟩
                · rw [upd_ne (ne_of_none ea5 nD)]
                  exact same_new nt _ _ eac
                · rw [upd_ne (ne_of_none erw nD)]
                  exact same_new nt _ _ erc
                · rw [upd_same, Ats.vals_snoc]
                · refine ((hT.same (same_new nt)).upd (same_new nt _ _ eD)).snoc ?_
                  rw [upd_ne nDt.symm]
                  exact upd_same
            · rintro Hc ⟨ats, kc, pc, eac, erc, eD, hT, hv, hlc⟩
              exact ⟨D, ats, rfl, kc, pc, eac, fD, (ne_of_none ea5 nD).symm, eD, hT, hv, by omega⟩
          · exact ⟨b0, [], rfl, kH5, p5, ea5, fb0, nab0, eb5, TupsAt.nil _, fun x h => by simp at h, by show (0 : Int) ≤ most; omega⟩
        · rintro σ' H6 ⟨b, ats, rfl, k6, p6, ea6, fb, nba, eb, hT, hv, hl⟩
          have nbp : b ≠ p := fun z => by
            subst z
            obtain ⟨_, _, _, _, e1⟩ := hp
            rw [fb] at e1
            cases e1
          have hal : ((ats.vals).length : Int) = ats.length := by rw [Ats.vals_len]
          refine ⟨.ref p, rfl, .int most, rfl, .ref b, rfl, b, _, rfl, .inl (SqL.of eb), _, _, rfl, rfl, _, _, rfl, rfl, p, _, rfl, p6, by omega, by omega, fun d H7 d0 d1 k7 p7 => ⟨d, rfl, by omega, by omega, ?_⟩⟩
          refine for_range (lo := 0) (n := d.toNat) (fun i σ H8 => ∃ (bts : Ats) (y7 : Option V), σ = [some (.ref p), some (.int pts), some (.int most), some (.ref a), some (.int kd), some (.ref b), some (.ref rw'), y7, none, none, none, none, none] ∧
            Kp p H H8 ∧ Pot H8 p ∧ H8 a = some (.lst (ns.map V.str)) ∧ H8 b = some (.lst bts.vals) ∧ TupsAt H8 bts ∧ (∀ x ∈ bts, TieOk ns x.2) ∧ bts.length = ats.length + i)
            ⟨ats, none, rfl, k6.trans k7, p7, k7 a _ nap ea6, k7 b _ nbp eb, hT.kp p6 k7, hv, rfl⟩ ?_ ?_
          · rintro i σ H8 hi ⟨bts, y7, rfl, k8, p8, ea8, eb8, hT8, hv8, hl8⟩
            refine ⟨.ref b, rfl, .inl ⟨rfl, _, SqL.of eb8⟩, .ref p, rfl, .ref a, rfl, p, a, ns, rfl, p8, nap, ea8, hns.nd, hl2, by omega, fun t x y H9 hxy nt k9 p9 et => ⟨b, _, _, rfl, rfl, k9 b _ nbp eb8, ?_, ?_⟩⟩
            · rw [Ats.vals_len]
              exact small1000 (by omega)
            · have nbt : b ≠ t := ne_of_none eb8 nt
              refine ⟨bts ++ [(t, x, y)], _, rfl, (k8.trans k9).into fb, p9.into nbp, ?_, ?_, ?_, all_snoc hv8 hxy, by simp [hl8]; omega⟩
              · rw [upd_ne nba.symm]
                exact k9 a _ nap ea8
              · rw [upd_same, Ats.vals_snoc]
              · refine ((hT8.kp p8 k9).upd (k9 b _ nbp eb8)).snoc ?_
                rw [upd_ne nbt.symm]
                exact et
          · rintro σ H8 ⟨bts, y7, rfl, k8, p8, ea8, eb8, hT8, hv8, hl8⟩
            exact ⟨b, bts, _, _, rfl, k8, p8, ea8, fb, nba, eb8, hT8, hv8, by omega⟩
      · exact ⟨b0, [], none, none, rfl, k13.new nb0, p4, ea4, fb0, nab0, upd_same, TupsAt.nil _, fun x h => by simp at h, by show (0 : Int) ≤ most; omega⟩
    · rintro σ' H4 ⟨b, ats, y6, y7, rfl, k4, p4, ea4, fb, nba, eb, hT, hv, hl⟩
      have nbp : b ≠ p := fun z => by
        subst z
        obtain ⟨_, _, _, _, e1⟩ := hp
        rw [fb] at e1
        cases e1
      -- turns
      refine ⟨.ref b, rfl, b, rfl, ⟨_, SqL.of eb⟩, fun D nD => ?_⟩
      have nDp : D ≠ p := p4.ne nD
      have fD : H D = none := k4.free nDp nD
      have nDa : D ≠ a := (ne_of_none ea4 nD).symm
      have nDb : D ≠ b := (ne_of_none eb nD).symm
      refine lc_list (K := K) (a := b) (xs := ats.vals) (fun i Hc => ∃ ts : List Int, Kp p H Hc ∧ Pot Hc p ∧ Hc a = some (.lst (ns.map V.str)) ∧ Hc b = some (.lst ats.vals) ∧ TupsAt Hc ats ∧ Hc D = some (.lst (ts.map V.int)) ∧ ts.length = i ∧ ∀ t ∈ ts, t = 0 ∨ t = 1)
        ⟨[], k4.new nD, p4.same (same_new nD), same_new nD _ _ ea4, same_new nD _ _ eb, hT.same (same_new nD), upd_same, rfl, fun x h => by simp at h⟩
        (fun i Hc _ ⟨_, _, _, _, z, _⟩ => SqL.of z) ?_ ?_
      · rintro i x Hc hi ⟨ts, kc, pc, eac, ebc, hTc, eD, hlc, hv2⟩
        have hil : i < ats.length := by
          have := (List.getElem?_eq_some_iff.mp hi).1
          rw [Ats.vals_len] at this
          exact this
        refine ⟨rfl, .ref p, rfl, p, 2, rfl, pc, by decide, by decide, fun e H9 e0 e1 k9 p9 => ⟨_, k9 D _ nDp eD, ?_, ?_⟩⟩
        · rw [List.length_map]
          exact small1000 (by omega)
        · refine ⟨ts ++ [e], (kc.trans k9).into fD, p9.into nDp, ?_, ?_, ?_, ?_, by simp [hlc], all_snoc hv2 (by omega)⟩
          · rw [upd_ne nDa.symm]
            exact k9 a _ nap eac
          · rw [upd_ne nDb.symm]
            exact k9 b _ nbp ebc
          · exact (hTc.kp pc k9).upd (k9 D _ nDp eD)
          · rw [upd_same, List.map_append]
            rfl
      · rintro Hc ⟨ts, kc, pc, eac, ebc, hTc, eD, hlc, hv2⟩
        rw [Ats.vals_len] at hlc
        -- ties, told either way about
        refine ⟨.ref b, rfl, .ref D, rfl, b, D, _, _, rfl, SqL.of ebc, SqL.of eD, fun E' nE => ?_⟩
        have nEp : E' ≠ p := pc.ne nE
        have fE : H E' = none := kc.free nEp nE
        have nEa : E' ≠ a := (ne_of_none eac nE).symm
        have nEb : E' ≠ b := (ne_of_none ebc nE).symm
        have nED : E' ≠ D := (ne_of_none eD nE).symm
        refine lc_it (walk_zip (K := K) (a := b) (b := D) (xs := ats.vals) (ys := ts.map V.int) (n := ats.length) (by rw [Ats.vals_len, List.length_map]; omega))
          (fun i Hc => ∃ bts : Ats, Kp p H Hc ∧ Pot Hc p ∧ Hc a = some (.lst (ns.map V.str)) ∧ Hc b = some (.lst ats.vals) ∧ TupsAt Hc ats ∧ Hc D = some (.lst (ts.map V.int)) ∧ Hc E' = some (.lst bts.vals) ∧ TupsAt Hc bts ∧ (∀ x ∈ bts, TieOk ns x.2) ∧ bts.length = i)
          ⟨[], kc.new nE, pc.same (same_new nE), same_new nE _ _ eac, same_new nE _ _ ebc, hTc.same (same_new nE), same_new nE _ _ eD, upd_same, TupsAt.nil _, fun x h => by simp at h, rfl⟩
          (fun i Hc _ ⟨_, _, _, _, z1, _, z2, _⟩ => ⟨SqL.of z1, SqL.of z2⟩) ?_ ?_
        · rintro i x Hd Hd' hi ⟨bts, kd', pd, ead, ebd, hTd, eDd, eEd, hTb, hvb, hlb⟩ ⟨T', x1, x2, rfl, nT, rfl, f1, f2⟩
          obtain ⟨⟨A', s1, s2⟩, g1, rfl⟩ := Ats.vals_at f1
          obtain ⟨tt, g2, rfl⟩ := ints_at f2
          have hA : Hd A' = some (.tup [.str s1, .str s2]) := hTd _ (List.mem_of_getElem? g1)
          have hok : TieOk ns (s1, s2) := hv _ (List.mem_of_getElem? g1)
          have htt : tt = 0 ∨ tt = 1 := hv2 _ (List.mem_of_getElem? g2)
          refine ⟨T', _, rfl, SqT.of upd_same, rfl, _, _, rfl, A', _, rfl, SqT.of (same_new nT _ _ hA), rfl, _, _, rfl, _, _, rfl, rfl, _, _, rfl, rfl, rfl, ?_⟩
          refine ⟨.str s1, rfl, .str s2, rfl, (by show 2 ≤ sizeLine; decide), fun t1 n1 => ⟨.str s2, rfl, .str s1, rfl, (by show 2 ≤ sizeLine; decide), fun t2 n2 => ⟨(by show 2 ≤ sizeLine; decide), fun l nl => ?_⟩⟩⟩
          have sA : Same Hd (upd Hd T' (.tup [.ref A', .int tt])) := same_new nT
          have sB := sA.next (o := .tup [.str s1, .str s2]) n1
          have sC := sB.next (o := .tup [.str s2, .str s1]) n2
          have sD := sC.next (o := .lst [.ref t1, .ref t2]) nl
          have et2 := (same_new (o := HO.lst [.ref t1, .ref t2]) nl) _ _ (upd_same (H := upd (upd Hd T' (.tup [.ref A', .int tt])) t1 (.tup [.str s1, .str s2])) (a := t2) (o := .tup [.str s2, .str s1]))
          have et1 := (same_new (o := HO.lst [.ref t1, .ref t2]) nl) _ _ ((same_new (o := HO.tup [.str s2, .str s1]) n2) _ _ (upd_same (H := upd Hd T' (.tup [.ref A', .int tt])) (a := t1) (o := .tup [.str s1, .str s2])))
          have fin : ∀ (t : Addr) (u v : Str), TieOk ns (u, v) → (upd (upd (upd (upd Hd T' (.tup [.ref A', .int tt])) t1 (.tup [.str s1, .str s2])) t2 (.tup [.str s2, .str s1])) l (.lst [.ref t1, .ref t2])) t = some (.tup [.str u, .str v]) →
              ∃ cts : Ats, Kp p H (upd (upd (upd (upd (upd Hd T' (.tup [.ref A', .int tt])) t1 (.tup [.str s1, .str s2])) t2 (.tup [.str s2, .str s1])) l (.lst [.ref t1, .ref t2])) E' (.lst (bts.vals ++ [V.ref t]))) ∧ Pot (upd (upd (upd (upd (upd Hd T' (.tup [.ref A', .int tt])) t1 (.tup [.str s1, .str s2])) t2 (.tup [.str s2, .str s1])) l (.lst [.ref t1, .ref t2])) E' (.lst (bts.vals ++ [V.ref t]))) p ∧
                (upd (upd (upd (upd (upd Hd T' (.tup [.ref A', .int tt])) t1 (.tup [.str s1, .str s2])) t2 (.tup [.str s2, .str s1])) l (.lst [.ref t1, .ref t2])) E' (.lst (bts.vals ++ [V.ref t]))) a = some (.lst (ns.map V.str)) ∧ (upd (upd (upd (upd (upd Hd T' (.tup [.ref A', .int tt])) t1 (.tup [.str s1, .str s2])) t2 (.tup [.str s2, .str s1])) l (.lst [.ref t1, .ref t2])) E' (.lst (bts.vals ++ [V.ref t]))) b = some (.lst ats.vals) ∧
                TupsAt (upd (upd (upd (upd (upd Hd T' (.tup [.ref A', .int tt])) t1 (.tup [.str s1, .str s2])) t2 (.tup [.str s2, .str s1])) l (.lst [.ref t1, .ref t2])) E' (.lst (bts.vals ++ [V.ref t]))) ats ∧ (upd (upd (upd (upd (upd Hd T' (.tup [.ref A', .int tt])) t1 (.tup [.str s1, .str s2])) t2 (.tup [.str s2, .str s1])) l (.lst [.ref t1, .ref t2])) E' (.lst (bts.vals ++ [V.ref t]))) D = some (.lst (ts.map V.int)) ∧
                (upd (upd (upd (upd (upd Hd T' (.tup [.ref A', .int tt])) t1 (.tup [.str s1, .str s2])) t2 (.tup [.str s2, .str s1])) l (.lst [.ref t1, .ref t2])) E' (.lst (bts.vals ++ [V.ref t]))) E' = some (.lst cts.vals) ∧ TupsAt (upd (upd (upd (upd (upd Hd T' (.tup [.ref A', .int tt])) t1 (.tup [.str s1, .str s2])) t2 (.tup [.str s2, .str s1])) l (.lst [.ref t1, .ref t2])) E' (.lst (bts.vals ++ [V.ref t]))) cts ∧
                (∀ x ∈ cts, TieOk ns x.2) ∧ cts.length = i + 1 := fun t u v huv het => by
            generalize hG : upd (upd (upd (upd Hd T' (.tup [.ref A', .int tt])) t1 (.tup [.str s1, .str s2])) t2 (.tup [.str s2, .str s1])) l (.lst [.ref t1, .ref t2]) = G at sD het
            have eEG := sD _ _ eEd
            refine ⟨bts ++ [(t, u, v)], (kd'.trans (Kp.same sD)).into fE, (pd.same sD).into nEp, ?_, ?_, (hTd.same sD).upd eEG, ?_, ?_, ((hTb.same sD).upd eEG).snoc ?_, all_snoc hvb huv, by simp [hlb]⟩
            · rw [upd_ne nEa.symm]
              exact sD _ _ ead
            · rw [upd_ne nEb.symm]
              exact sD _ _ ebd
            · rw [upd_ne nED.symm]
              exact sD _ _ eDd
            · rw [upd_same, Ats.vals_snoc]
            · rw [upd_ne (ne_of het eEG (by intro z; cases z))]
              exact het
          have hsz : bts.vals.length < sizeLine := by
            rw [Ats.vals_len]
            exact small1000 (by omega)
          rcases htt with rfl | rfl
          · exact ⟨.int 0, rfl, l, _, 0, _, rfl, rfl, SqL.of upd_same, rfl, _, sD _ _ eEd, hsz, fin t1 s1 s2 hok et1⟩
          · exact ⟨.int 1, rfl, l, _, 1, _, rfl, rfl, SqL.of upd_same, rfl, _, sD _ _ eEd, hsz, fin t2 s2 s1 ⟨hok.2.1, hok.1, hok.2.2.symm⟩ et2⟩
        · rintro Hd ⟨bts, kd', pd, ead, ebd, hTd, eDd, eEd, hTb, hvb, hlb⟩
          refine ⟨.ref a, rfl, .ref p, rfl, .ref E', rfl, p, E', _, rfl, pd, nEp, eEd, (by rw [Ats.vals_len]; omega), fun r ys H9 hperm nr k9 p9 er => ⟨(by show 2 ≤ sizeLine; decide), fun t nt => ?_⟩⟩
          obtain ⟨cts, rfl, hc⟩ := perm_of_map (f := fun x : Addr × Str × Str => V.ref x.1) hperm bts rfl
          have nrp : r ≠ p := pd.ne nr
          have fr : H r = none := kd'.free nrp nr
          have ntp : t ≠ p := p9.ne nt
          have ea9 := k9 a _ nap ead
          refine q t a r ns cts _ hns (by omega) (by omega) ?_ (fun x hx => hvb x (hc.mem_iff.mp hx)) ((kd'.trans k9).free ntp nt) fa fr (ne_of_none ead nr) ((kd'.trans k9).new nt) (p9.same (same_new nt)) upd_same (same_new nt _ _ ea9) (same_new nt _ _ er) (((hTb.kp pd k9).perm hc).same (same_new nt))
          rw [hc.length_eq]
          omega
end PW

namespace PW
open PySem PySem.Spec PyProof.Rows L2
/-! ### set(list of texts), its length -/
/-- the first k of val, each once -/
def onceS (val : Nat → Str) : Nat → List Str
  | 0 => []
  | k + 1 => if (onceS val k).any (· == val k) then onceS val k else onceS val k ++ [val k]
theorem onceS_len (val : Nat → Str) : ∀ k, (onceS val k).length ≤ k
  | 0 => Nat.le_refl _
  | k + 1 => by
    have := onceS_len val k
    unfold onceS
    split
    · omega
    · rw [List.length_append, List.length_singleton]
      omega
theorem onceS_any (val : Nat → Str) (k : Nat) (z : Str) : (onceS val (k + 1)).any (· == z) = ((onceS val k).any (· == z) || decide (z = val k)) := by
  rw [show onceS val (k + 1) = if (onceS val k).any (· == val k) then onceS val k else onceS val k ++ [val k] from rfl]
  by_cases h : (onceS val k).any (· == val k) = true
  · rw [if_pos h]
    by_cases hz : z = val k
    · rw [hz, h]
      rfl
    · rw [decide_eq_false hz, Bool.or_false]
  · rw [if_neg h, List.any_append, List.any_cons, List.any_nil, Bool.or_false]
    congr 1
    by_cases hz : z = val k
    · rw [decide_eq_true hz, hz]
      exact beq_self_eq_true _
    · rw [decide_eq_false hz]
      exact beq_eq_false_iff_ne.mpr fun q => hz q.symm
theorem onceS_size (val : Nat → Str) (k : Nat) : (onceS val (k + 1)).length = if (onceS val k).any (· == val k) then (onceS val k).length else (onceS val k).length + 1 := by
  rw [show onceS val (k + 1) = if (onceS val k).any (· == val k) then onceS val k else onceS val k ++ [val k] from rfl]
  split
  · rfl
  · rw [List.length_append, List.length_singleton]
theorem onceS_nodup {xs : List Str} (h : xs.Nodup) : ∀ k, k ≤ xs.length → onceS (fun i => xs.getD i Str.empty) k = xs.take k
  | 0, _ => by
    rw [List.take_zero]
    rfl
  | k + 1, hk => by
    have hk2 : k < xs.length := hk
    have e1 : xs.getD k Str.empty = xs[k] := by
      rw [List.getD_eq_getElem?_getD, List.getElem?_eq_getElem hk2]
      rfl
    have e2 : xs.take (k + 1) = xs.take k ++ [xs[k]] := by
      rw [List.take_add_one, List.getElem?_eq_getElem hk2]
      rfl
    have no : ((xs.take k).any (· == xs[k])) = false := by
      rw [List.any_eq_false]
      intro y hy ey
      have ey2 : y = xs[k] := eq_of_beq ey
      obtain ⟨j, hj, ej⟩ := List.getElem_of_mem hy
      rw [List.length_take] at hj
      rw [List.getElem_take] at ej
      exact List.pairwise_iff_getElem.mp h j k (by omega) hk2 (by omega) (ej.trans ey2)
    rw [show onceS (fun i => xs.getD i Str.empty) (k + 1) = if (onceS (fun i => xs.getD i Str.empty) k).any (· == xs.getD k Str.empty) then onceS (fun i => xs.getD i Str.empty) k else onceS (fun i => xs.getD i Str.empty) k ++ [xs.getD k Str.empty] from rfl]
    rw [onceS_nodup h k (Nat.le_of_lt hk2), e1, no, e2]
    rfl
section
variable {prog : Program} {w : World} {A : Around} {R : Result → Shared → Prop} {I : Addr} {fp wr : List Addr} {G : Array GenState → Array GenState → Prop} {n : Nat} {P : Nat → Value → Prop} {St : Nat → Shared → Prop}
abbrev SetHas (prog : Program) (w : World) (h : Heap) (S : Addr) (l : List Str) : Prop := h.SetOf (PySem.strKind prog w) S (fun z => l.any (· == z)) l.length
theorem set_loop_str (W : WalksS prog w A.in1 I fp wr G n P St) (S : Addr) (out : S ∉ fp) (val : Nat → Str) (isv : ∀ i v, P i v → ∃ t, v = .str (val i) t) (small : n + 1 < scanBound) :
    ∀ (m i : Nat) (s : Shared), n - i = m → i ≤ n → St i s → SetHas prog w s.heap S (onceS val i) →
      (∀ s', Moved (S :: wr) G s s' → SetHas prog w s'.heap S (onceS val n) → R (.ok (.ret .none)) s') →
      codeAny (model prog w) A (.builtin "set.update.loop" ⟨[.ref S, .ref I], []⟩) R s := by
  have outw : S ∉ wr := fun z => out (W.sub _ z)
  have more : ∀ b ∈ wr, b ∈ S :: wr := fun b z => List.mem_cons_of_mem _ z
  intro m
  induction m with
  | zero =>
    intro i s hm hi st hs fin
    have ei : i = n := by omega
    subst ei
    refine codeAny_builtin PyProof.Rows.F.entry_set_update_loop ?_
    rw [Around.under_plainId PyProof.Rows.F.plain_set_update_loop _]
    show wpAny _ A.in1 (pyNext (.ref I) >>= _) _ _ s
    refine wpAny_bind (W.done s _ _ st fun s' mv => ?_)
    show wpAny _ A.in1 (ret Value.none) _ _ s'
    refine wpAny_pure (fin s' (mv.mono more) ?_)
    obtain ⟨o, es, ep, t, ho, rest⟩ := hs
    exact ⟨o, es, ep, t, mv.heap S _ outw ho, rest⟩
  | succ m ih =>
    intro i s hm hi st hs fin
    have lt : i < n := by omega
    refine codeAny_builtin PyProof.Rows.F.entry_set_update_loop ?_
    rw [Around.under_plainId PyProof.Rows.F.plain_set_update_loop _]
    show wpAny _ A.in1 (pyNext (.ref I) >>= _) _ _ s
    refine wpAny_bind (W.item i s _ _ lt st fun v s' pv st' mv => ?_)
    obtain ⟨t, rfl⟩ := isv i v pv
    have hs1 : SetHas prog w s'.heap S (onceS val i) := by
      obtain ⟨o, es, ep, tb, ho, rest⟩ := hs
      exact ⟨o, es, ep, tb, mv.heap S _ outw ho, rest⟩
    show wpAny _ A.in1 (holding [Value.str (val i) t] (setAdd S (.str (val i) t)) >>= _) _ _ s'
    refine wpAny_bind (wpAny_holding ?_)
    unfold setAdd
    refine wpAny_holding (wpAny_bind ((PySem.strKind prog w).pyHash (k := val i) (PySem.strKind_is _ _ _ _) ?_))
    have room : (onceS val i).length + 1 < scanBound := Nat.lt_of_le_of_lt (Nat.add_le_add_right (onceS_len val i) 1) (by omega)
    refine wpAny_setAddHashed_of (knd := PySem.strKind prog w) (s := { s' with toks := s'.toks + 1 }) (PySem.strKind_is _ _ _ _) rfl hs1 room fun h' sb hs2 => ?_
    have hs3 : SetHas prog w h' S (onceS val (i + 1)) := PyProof.Rows.SetOf_congr hs2 (fun z => (onceS_any val i z).symm) (onceS_size val i).symm
    refine wpAny_pure ⟨plainId_quiet PyProof.Rows.F.plain_set_update_loop _, ih (i + 1) _ (by omega) lt (W.frame _ s' _ _ st' (Nat.le_succ _) fun b hb o e => ?_) hs3 fun s'' mv2 hs4 => ?_⟩
    · rw [sb.2 b fun z : b = S => out (z ▸ hb)]
      exact e
    · refine fin s'' (Moved.trans W.gtrans ((mv.mono more).then_heap (Nat.le_succ _) fun b o hb e => ?_) mv2) hs4
      rw [sb.2 b fun z : b = S => hb (z ▸ List.mem_cons_self)]
      exact e
end
end PW

namespace PySem
open PySem.Spec
section
variable {prog : Program} {w : World} {A : Around} {E : Value → Shared → Prop} {s : Shared}
def strsAre (items : Array Value) (xs : List Str) : Prop := ∀ (i : Nat) (v : Value), items[i]? = some v → ∃ t, v = .str (xs.getD i Str.empty) t
set_option maxHeartbeats 3200000 in
theorem pw_set_list {l : Addr} {items : Array Value} {xs : List Str} {Q : Value → Shared → Prop} (quiet : A.handled = none) (il : s.heap.IsList l items) (isv : strsAre items xs) (small : items.size + 1 < scanBound)
    (fin : ∀ (h' : Heap) (tk : Nat), PW.SetHas prog w h' s.heap.objs.size (PW.onceS (fun i => xs.getD i Str.empty) items.size) → (∀ b o, b < s.heap.objs.size → s.heap.get? b = some o → h'.get? b = some o) → Q (.ref s.heap.objs.size) { s with heap := h', toks := tk }) :
    wpAny (model prog w) A (call (.type "set") [.ref l]) Q E s := by
  obtain ⟨c, tl, hmro⟩ := F.called_set.mro
  have z1 := F.called_set.made
  have z2 := F.called_set.sub
  refine wpAny_call (codeAny_of_tree ?_)
  show wpAny _ _ (callAny (.type "set") _) _ _ _
  refine wpAny_pure ⟨Code.quiet_builtin _ (by decide +kernel), codeAny_builtin F.entry_type_call ?_⟩
  rw [Around.under_plain (weight_type_call_type "set" [.ref l] []) rfl]
  have z3 := F.called_set.notType
  have z4 := F.called_set.canCreate
  have z5 := F.typeCall_set_1 (.ref l)
  repeat (any_goals (first | assumption | wp_step))
  refine codeAny_mono (code_set_new_1 (.ref l) (E := E) (Q₁ := fun obj s₁ => ∃ led : Bool, obj = .ref s.heap.objs.size ∧
    s₁ = { s with heap := s.heap.push { cls := .type "set", dict := none, data := .set #[] 0 (.fresh 0 0 led) } }) fun led => ⟨led, rfl, rfl⟩) fun r s₁ hr => ?_
  cases r with
  | error e => exact hr
  | ok fl =>
    cases fl with
    | ret obj =>
      obtain ⟨led, rfl, rfl⟩ := hr
      have gS : (s.heap.push { cls := .type "set", dict := none, data := .set #[] 0 (.fresh 0 0 led) }).get? s.heap.objs.size = some { cls := .type "set", dict := none, data := .set #[] 0 (.fresh 0 0 led) } := by
        exact Heap.get?_push_size _ rfl
      have hT : Shared.TypeIs { s with heap := s.heap.push { cls := .type "set", dict := none, data := .set #[] 0 (.fresh 0 0 led) } } (.ref s.heap.objs.size) "set" := ⟨_, gS, rfl⟩
      have y1 := F.called_set.init.lookup
      have y2 := F.called_set.init.bind (.ref s.heap.objs.size)
      repeat (any_goals (first | assumption | wp_step))
      refine codeAny_mono (codeAny_call_builtin (R := wants (fun r s₂ => r = .none ∧ ∃ h' tk, s₂ = { s with heap := h', toks := tk } ∧ PW.SetHas prog w h' s.heap.objs.size (PW.onceS (fun i => xs.getD i Str.empty) items.size) ∧
          (∀ b o, b < s.heap.objs.size → s.heap.get? b = some o → h'.get? b = some o)) E) F.called_set.init.plain F.entry_set_init (check_set_init_1 hT ?_)) fun r₂ s₂ hr₂ => ?_
      · obtain ⟨ol, hol, hcl, nl, hdl⟩ := il
        obtain ⟨ocls, odict, odata, oslots⟩ := ol
        simp only at hcl hdl
        subst hcl
        subst hdl
        have hol1 : (s.heap.push { cls := .type "set", dict := none, data := .set #[] 0 (.fresh 0 0 led) }).get? l = some { cls := .type "list", dict := odict, data := .seq items nl, slots := oslots } := Heap.get?_push_of_some _ hol
        have y3 := F.sub_list_set
        have y4 := F.sub_list_frozenset
        have y5 : (Value.type "list" == Value.type "dict") = false := by decide
        have il1 : (s.heap.push { cls := .type "set", dict := none, data := .set #[] 0 (.fresh 0 0 led) }).IsList l items := ⟨_, hol1, rfl, nl, rfl⟩
        unfold Builtin.«set.__init__» noKeywords Builtin.Frozenset.updateFrom
        generalize hPI : pyIter = PI
        wp_walk
        subst hPI
        refine wpAny_pyIter_list il1 ?_
        refine wpAny_bind (wpAny_runValue ?_)
        have lS : l < s.heap.objs.size := Heap.lt_size hol
        have quiet3 : A.in1.in1.in1.handled = none := by simp [quiet]
        have nI : l ≠ (s.heap.push { cls := .type "set", dict := none, data := .set #[] 0 (.fresh 0 0 led) }).objs.size := by
          rw [Heap.size_push]
          exact Nat.ne_of_lt (Nat.lt_succ_of_lt lS)
        have outS : s.heap.objs.size ∉ [(s.heap.push { cls := .type "set", dict := none, data := .set #[] 0 (.fresh 0 0 led) }).objs.size, l] := by
          rw [Heap.size_push]
          simp only [List.mem_cons, List.not_mem_nil, or_false, not_or]
          exact ⟨Nat.ne_of_lt (Nat.lt_succ_self _), Nat.ne_of_gt lS⟩
        refine PW.set_loop_str ((Walks.list quiet3 _ l nI items).toS) s.heap.objs.size outS (fun i => xs.getD i Str.empty) isv small (items.size - 0) 0 _ (by omega) (Nat.zero_le _)
          ⟨⟨_, Heap.get?_push_size _ rfl, rfl, rfl⟩, (il1.push _)⟩ ?first ?last
        case first =>
          have gS2 : ((s.heap.push { cls := .type "set", dict := none, data := .set #[] 0 (.fresh 0 0 led) }).push { cls := .type "list_iterator", data := .fields #[.ref l, .int 0 0] }).get? s.heap.objs.size = some { cls := .type "set", dict := none, data := .set #[] 0 (.fresh 0 0 led) } := Heap.get?_push_of_some _ gS
          exact PyProof.Rows.SetOf_congr ((PyProof.Rows.setObjOf_fresh (knd := PySem.strKind prog w) led).setOf gS2 (by unfold scanBound; omega)) (fun _ => rfl) rfl
        case last =>
          intro s' mv hs'
          obtain ⟨h', g', d', tk', os'⟩ := s'
          have eg : g' = s.gens := mv.gens
          have ed : d' = s.drawn := mv.drawn
          have eo : os' = s.os := mv.os
          subst eg
          subst ed
          subst eo
          show wpAny _ _ _ _ _ _
          refine wpAny_pure ?_
          show wpAny _ _ (ret Value.none) _ _ _
          refine wpAny_pure ⟨rfl, h', tk', rfl, hs', fun b o hb e => ?_⟩
          refine mv.heap b o ?_ (Heap.get?_push_of_some _ (Heap.get?_push_of_some _ e))
          rw [Heap.size_push]
          simp only [List.mem_cons, List.not_mem_nil, or_false, not_or]
          exact ⟨Nat.ne_of_lt hb, Nat.ne_of_lt (Nat.lt_succ_of_lt hb)⟩
      · cases r₂ with
        | error e => exact hr₂
        | ok fl₂ =>
          cases fl₂ with
          | ret r =>
            obtain ⟨rfl, h', tk, rfl, hS', hk'⟩ := hr₂
            repeat (any_goals (first | assumption | wp_step))
            exact fin _ _ hS' hk'
          | _ => exact hr₂.elim
    | _ => exact hr.elim
end
end PySem
namespace PW
open PySem PySem.Spec PyProof.Rows L2
theorem strsAre_vals {xs : List Str} {us : List Value} (h : Vals (xs.map V.str) us) : strsAre us.toArray xs := fun i v e => by
  have e1 : us[i]? = some v := by simpa using e
  have hl := h.length
  rw [List.length_map] at hl
  have hi : i < xs.length := by
    have := (List.getElem?_eq_some_iff.mp e1).1
    omega
  have e2 : (xs.map V.str)[i]? = some (.str xs[i]) := by
    rw [List.getElem?_map, List.getElem?_eq_getElem hi]
    rfl
  obtain ⟨u, e3, r⟩ := h.get e2
  rw [e1] at e3
  have eu : v = u := Option.some.inj e3
  obtain ⟨t, rfl⟩ := r
  refine ⟨t, ?_⟩
  rw [eu, List.getD_eq_getElem?_getD, List.getElem?_eq_getElem hi]
  rfl
/-- how many unlike ones a list of texts has -/
def manyS (xs : List Str) : Nat := (onceS (fun i => xs.getD i Str.empty) xs.length).length
theorem manyS_nodup {xs : List Str} (h : xs.Nodup) : manyS xs = xs.length := by
  unfold manyS
  rw [onceS_nodup h xs.length (Nat.le_refl _), List.take_length]
def tLenSetS (K : PySem.W.Frag) (ta : TE) : TE := fun σ H Q => ta σ H fun x H1 => ∃ (l : Addr) (xs : List Str), x = .ref l ∧ SqL K H1 l (xs.map V.str) ∧ xs.length ≤ 1000 ∧ Q (.int (manyS xs : Nat)) H1
theorem pe_lenSetS {X : Cx} {K : PySem.W.Frag} {a : Expr} {ta : TE} {p p2 q pos : Pos} (hg : Gl X "len") (hm : X.mg "len" = none) (hg2 : Gl X "set") (hm2 : X.mg "set" = none) (ha : PE X a ta) (hc : X.calm = true := by rfl) (hK : X.K = K := by rfl)
    (na : starEach [a] X.env = (false, eval a X.env) :: starEach [] X.env := by rfl) : PE X (.Call (.Name "len" p) [.Call (.Name "set" p2) [a] [] q] [] pos) (tLenSetS K ta) := by
  subst hK
  refine ⟨fun pins s σ H Q I h => Call_ (ld_blt I hg hm boot_len ?_)⟩
  refine PyProof.Rows.callWith_builtin1 (PyProof.Rows.args_cons (Call_ (ld_blt I hg2 hm2 boot_set ?_)) rfl) rfl rfl
  refine PyProof.Rows.callWith_type1 (PyProof.Rows.args_cons (thn (ha.run pins s σ H _ I h) fun v s1 ⟨x, H1, I1, r1, q1⟩ => PyProof.Rows.args_nil ?_) na) na rfl
  obtain ⟨l, xs, rfl, sq, hl, q1⟩ := q1
  cases r1
  obtain ⟨its, r, pl, hz⟩ := I1.list sq
  have el : its.toArray.size = xs.length := by rw [List.size_toArray, ← r.length, List.length_map]
  refine pw_set_list (I1.ok.hd hc) pl.isList (strsAre_vals r) (by rw [el]; unfold scanBound; omega) fun h' tk hS hk => PyProof.Rows.args_nil ?_
  rw [el] at hS
  obtain ⟨o, es, ep, t, ho, hex, hd, _, _, _, hf, hn⟩ := hS
  have I2 : Inv X pins σ H1 { s1 with heap := h', toks := tk } := I1.kept fun b o e => hk b o (Heap.lt_size e) e
  have hml : manyS xs ≤ xs.length := onceS_len _ _
  exact call_len_set ho hex hd hf (by rw [hn]; show ((manyS xs : Nat) : Int) < 2 ^ 63; omega) ⟨.int (manyS xs : Nat), H1, I2.tok _, ⟨_, by rw [hn]; rfl⟩, q1⟩
end PW

namespace PW
open PySem PySem.Spec PyProof.Rows L2
/-! ### small facts -/
theorem _root_.L2.TyX.same {K : PySem.W.Frag} {H H' : Hp} {v : V} {t : Value} (h : TyX K H v t) (e : Same H H') : TyX K H' v t := by
  cases h with
  | base b =>
    cases b with
    | non => exact .base .non
    | bl x => exact .base (.bl x)
    | int x => exact .base (.int x)
    | str x => exact .base (.str x)
    | flt x => exact .base (.flt x)
    | lst z => exact .base (.lst (e _ _ z))
    | frz z => exact .base (.frz (e _ _ z))
    | tup z => exact .base (.tup (e _ _ z))
    | dK z => exact .base (.dK (e _ _ z))
    | dT z => exact .base (.dT (e _ _ z))
    | ins z a b c d f => exact .base (.ins (e _ _ z) a b c d f)
  | byt b => exact .byt b
  | set z => exact .set (e _ _ z)
  | kList a b => exact .kList a b
  | kTuple a b => exact .kTuple a b
  | kDict a b => exact .kDict a b
  | fTuple z => exact .fTuple (e _ _ z)
  | fDict z => exact .fDict (e _ _ z)
theorem _root_.L2.Same.seqT {K : PySem.W.Frag} {H H' : Hp} {a : Addr} {xs : List V} (e : Same H H') (h : SqT K H a xs) : SqT K H' a xs := by
  rcases h with (h | ⟨o, h⟩) | h
  · exact .inl (.inl (e _ _ h))
  · exact .inl (.inr ⟨o, e _ _ h⟩)
  · exact .inr h
theorem flat_strs (xs : List Str) : (xs.map V.str).all flatV = true := by
  rw [List.all_eq_true]
  intro v hv
  obtain ⟨x, _, rfl⟩ := List.mem_map.mp hv
  rfl
theorem inV_strs (x : Str) (xs : List Str) : inV (.str x) (xs.map V.str) = decide (x ∈ xs) := by
  unfold inV
  rw [List.any_map]
  induction xs with
  | nil => rfl
  | cons y r ih =>
    rw [List.any_cons, ih]
    show ((y == x) || decide (x ∈ r)) = decide (x ∈ y :: r)
    by_cases h : y = x
    · subst h
      simp
    · have h2 : (y == x) = false := beq_eq_false_iff_ne.mpr h
      rw [h2, Bool.false_or]
      have : (x ∈ y :: r) ↔ x ∈ r := by
        rw [List.mem_cons]
        exact ⟨fun z => z.resolve_left fun q => h q.symm, Or.inr⟩
      exact decide_eq_decide.mpr this.symm
theorem bT {p : Prop} [Decidable p] (h : p) : V.bl (decide p) = .bl true := by rw [decide_eq_true h]
theorem bF {p : Prop} [Decidable p] (h : ¬ p) : V.bl (decide p) = .bl false := by rw [decide_eq_false h]
/-! ### the web's object -/
def wf (a b : Addr) : List (Str × V) := putF "own_ties" (.ref b) (putF "own_points" (.ref a) [])
theorem wf_ne : ¬ (("own_points" : Str) = "own_ties") := by decide +kernel
theorem wf_points (a b : Addr) : (wf a b).lookup ("own_points" : Str) = some (.ref a) := by
  unfold wf
  rw [lookup_putF, if_neg wf_ne, lookup_putF, if_pos rfl]
theorem wf_ties (a b : Addr) : (wf a b).lookup ("own_ties" : Str) = some (.ref b) := by
  unfold wf
  rw [lookup_putF, if_pos rfl]
theorem wf_no (a b : Addr) {m : Str} (h1 : ¬ m = "own_ties") (h2 : ¬ m = "own_points") : (wf a b).lookup m = none := by
  unfold wf
  rw [lookup_putF, if_neg h1, lookup_putF, if_neg h2]
  rfl
theorem wf_mp (a b : Addr) : (wf a b).lookup ("points" : Str) = none := wf_no a b (by decide +kernel) (by decide +kernel)
theorem wf_mt (a b : Addr) : (wf a b).lookup ("ties" : Str) = none := wf_no a b (by decide +kernel) (by decide +kernel)
theorem wf_mm (a b : Addr) : (wf a b).lookup ("many" : Str) = none := wf_no a b (by decide +kernel) (by decide +kernel)
def WebAt (K : PySem.W.Frag) (H : Hp) (x : Addr) (ns : List Str) (ats : Ats) : Prop :=
  ∃ dx a b, H x = some (.ins (He.ga K "Web") dx (wf a b)) ∧ H a = some (.lst (ns.map V.str)) ∧ H b = some (.lst ats.vals) ∧ TupsAt H ats
theorem WebAt.same {K : PySem.W.Frag} {H H' : Hp} {x : Addr} {ns : List Str} {ats : Ats} (h : WebAt K H x ns ats) (e : Same H H') : WebAt K H' x ns ats := by
  obtain ⟨dx, a, b, h1, h2, h3, h4⟩ := h
  exact ⟨dx, a, b, e _ _ h1, e _ _ h2, e _ _ h3, h4.same e⟩
structure WebOk (ns : List Str) (ats : Ats) : Prop where
  names : NamesOk ns
  n1 : 1 ≤ ns.length
  n9 : ns.length ≤ 9
  t20 : ats.length ≤ 20
  ties : ∀ x ∈ ats, TieOk ns x.2
/-! ### promises -/
def spIsRow (K : PySem.W.Frag) : Sp := fun vs H Q _ => ∃ (v : V) (t : Value) (b : Bool), vs = [v] ∧ TyX K H v t ∧ PySem.W.kitAny K t [.type "list", .type "tuple"] = some b ∧ ∀ H', Same H H' → Q (.bl b) H'
def spIsName : Sp := fun vs H Q _ => ∃ x : Str, vs = [.str x] ∧ IsName x ∧ ∀ H', Same H H' → Q (.bl true) H'
def spAreNames (K : PySem.W.Frag) : Sp := fun vs H Q _ => ∃ (a : Addr) (ns : List Str), vs = [.ref a] ∧ H a = some (.lst (ns.map V.str)) ∧ NamesOk ns ∧ 1 ≤ ns.length ∧ ns.length ≤ 9 ∧ ∀ H', Same H H' → Q (.bl true) H'
def spIsPair (K : PySem.W.Frag) : Sp := fun vs H Q _ => ∃ (a t : Addr) (ns : List Str) (x y : Str), vs = [.ref a, .ref t] ∧ H a = some (.lst (ns.map V.str)) ∧ H t = some (.tup [.str x, .str y]) ∧ (∀ z ∈ ns, IsName z) ∧ TieOk ns (x, y) ∧ ∀ H', Same H H' → Q (.bl true) H'
def spWebInit (K : PySem.W.Frag) : Sp := fun vs H Q _ => ∃ (x dx a b : Addr) (ns : List Str) (ats : Ats), vs = [.ref x, .ref a, .ref b] ∧ H x = some (.ins (He.ga K "Web") dx []) ∧ H a = some (.lst (ns.map V.str)) ∧ H b = some (.lst ats.vals) ∧ TupsAt H ats ∧ WebOk ns ats ∧
  ∀ H', (∀ c o, H c = some o → c ≠ x → H' c = some o) → WebAt K H' x ns ats → Q .non H'
def spPoints (K : PySem.W.Frag) : Sp := fun vs H Q _ => ∃ (x : Addr) (ns : List Str) (ats : Ats), vs = [.ref x] ∧ WebAt K H x ns ats ∧ ∀ l, H l = none → Q (.ref l) (upd H l (.lst (ns.map V.str)))
def spTies (K : PySem.W.Frag) : Sp := fun vs H Q _ => ∃ (x : Addr) (ns : List Str) (ats : Ats), vs = [.ref x] ∧ WebAt K H x ns ats ∧ ∀ l, H l = none → Q (.ref l) (upd H l (.lst ats.vals))
def spMany (K : PySem.W.Frag) : Sp := fun vs H Q _ => ∃ (x : Addr) (ns : List Str) (ats : Ats), vs = [.ref x] ∧ WebAt K H x ns ats ∧ Q (.int (ats.length : Nat)) H
theorem small_eq : ("abcdefghijklmnopqrstuvwxyz" : Str).cps.toList = List.range' 97 26 := letters_eq
theorem code_in {c : Nat} (h : Code c) : decide (c ∈ ("abcdefghijklmnopqrstuvwxyz" : Str).cps.toList) = true := by
  rw [letters_eq]
  refine decide_eq_true (List.mem_range'.mpr ⟨c - 97, ?_, ?_⟩)
  · have := h.2
    have := h.1
    omega
  · have := h.1
    omega
/-- making a web -/
theorem make_web {K : PySem.W.Frag} {H : Hp} {a b : Addr} {ns : List Str} {ats : Ats} {Q : Addr → Hp → Prop} {E : XK} (ea : H a = some (.lst (ns.map V.str))) (eb : H b = some (.lst ats.vals)) (hT : TupsAt H ats) (ok : WebOk ns ats)
    (k : ∀ x H', H x = none → Same H H' → WebAt K H' x ns ats → Q x H') :
    ∀ x dx, H x = none → H dx = none → dx ≠ x → spWebInit K [.ref x, .ref a, .ref b] (upd (upd H dx (.own x)) x (.ins (He.ga K "Web") dx [])) (fun v H2 => v = .non ∧ Q x H2) E := fun x dx nx ndx ne => by
  have sM : Same H (upd (upd H dx (.own x)) x (.ins (He.ga K "Web") dx [])) := fun z o h => by
    rw [upd_ne (ne_of_none h nx), upd_ne (ne_of_none h ndx)]
    exact h
  exact ⟨x, dx, a, b, ns, ats, rfl, upd_same, sM _ _ ea, sM _ _ eb, hT.same sM, ok, fun H' k' hW => ⟨rfl, k x H' nx (Same.made nx ndx k') hW⟩⟩
theorem name_of {x : Str} (l : List Nat) (e : x = SX.S l) (h1 : 1 ≤ l.length) (h4 : l.length ≤ 4) (h : l.all (fun c => decide (97 ≤ c ∧ c ≤ 122)) = true) : IsName x :=
  ⟨l, e, h1, h4, fun c hc => (of_decide_eq_true (List.all_eq_true.mp h c hc) : 97 ≤ c ∧ c ≤ 122)⟩
theorem names_lit {ns : List Str} (h : ∀ x ∈ ns, IsName x) (nd : ns.Nodup) : NamesOk ns := ⟨nd, h⟩
end PW

namespace PW
open PySem PySem.Spec PyProof.Rows L2
theorem ok_is_row {P : Program} {w : World} {K : PySem.W.Frag} {mg : Str → Option Value} {base : Heap} (T : Top K mg) :
    C8.Cal P w K mg base 1 "is_row" (spIsRow K) [] := by
  refine cal_of (fd_is_row T) (g_is_row T) sc_is_row bi_is_row (fun vs H Q E h => ?_) (fun cdv A outer s H vs Q E hr h => ?_)
  · obtain ⟨v, t, b, rfl, _⟩ := h
    rfl
  · obtain ⟨v, t, b, rfl, ht, hk, q⟩ := h
    refine ⟨_, (pss_one (ps_ret (pe_callB (isiKT (K := K)) (by rfl) (f_isinstance T) (by decide +kernel) (pa_cons (pv 0) (pa_cons (pe_tup (pa_cons (pe_bltn (v := .ty "list") (by rfl) (f_list T) (by decide +kernel) rfl) (pa_cons (pe_bltn (v := .ty "tuple") (by rfl) (f_tuple T) (by decide +kernel) rfl) pa_nil))) pa_nil))))), ?_⟩
    refine ⟨v, rfl, (by show 2 ≤ sizeLine; decide), fun p np => ⟨v, p, _, t, _, b, rfl, upd_same, .cons (.ty _) (.cons (.ty _) .nil), ht.same (same_new np), hk, q _ (same_new np)⟩⟩
theorem ok_is_name {P : Program} {w : World} {K : PySem.W.Frag} {mg : Str → Option Value} {base : Heap} (T : Top K mg) :
    C8.Cal P w K mg base 1 "is_name" spIsName [] := by
  refine cal_of (fd_is_name T) (g_is_name T) sc_is_name bi_is_name (fun vs H Q E h => ?_) (fun cdv A outer s H vs Q E hr h => ?_)
  · obtain ⟨x, rfl, _⟩ := h
    rfl
  · obtain ⟨x, rfl, hx, q⟩ := h
    refine ⟨_, (pss_cons (ps_if (PW.pt (pw_or (pt_not (pt_val (pe_callB (isiK1 (K := K)) (by rfl) (f_isinstance T) (by decide +kernel) (pa_cons (pv 0) (pa_cons (pe_bltn (v := .ty "str") (by rfl) (f_str T) (by decide +kernel) rfl) pa_nil))))) (pw_or1 (pt_not (pt_chain op_le op_le pe_int (pe_callB call_len_str (by rfl) (f_len T) PySem.boot_len (pa_cons (pv 0) pa_nil)) (C8.pe_gc (by rfl) (c_MOST_LETTERS T))))))) (pss_one (ps_ret pe_bl)) pss_nil)
      (pss_one (ps_ret (pe_callB (allK (K := K) rfl) (by rfl) (f_all T) (by decide +kernel) (pa_cons (pe_lc (own := [("sign", 1)]) (g := gName 1) (by rfl) sc_is_name.nd (pi_str (pv 0)) (blkOk_by (own := [("sign", 1)]) (N := ["thing", "sign"]) (sc := defScope s_is_name) (by decide +kernel)) (fun _ _ _ _ _ => (pg_name (i := 1) sc_is_name.nd rfl (by first | exact Or.inl rfl | exact Or.inr rfl))) (fun _ _ _ _ _ => pts_nil) (fun _ _ _ _ _ => (pe_cmpR op_in_sign (pv 1) (C8.pe_gc (by rfl) (c_SMALL T)) (by with_unfolding_all rfl)))) pa_nil))))), ?_⟩
    obtain ⟨l, rfl, h1, h4, hc⟩ := hx
    have hlen : (SX.S l).length = l.length := SX.S_len l
    refine ⟨_, rfl, _, _, _, _, true, rfl, .ty _, .base (.str _), kit_ty (by decide +kernel), true, rfl, ?_⟩
    refine ⟨_, rfl, _, rfl, (by rw [hlen]; exact small_size (by omega)), 1, _, rfl, rfl, true, ?_, _, _, rfl, rfl, true, ?_, ?_⟩
    · exact bT (by rw [hlen]; omega)
    · exact bT (by rw [hlen]; omega)
    refine ⟨_, rfl, _, rfl, fun D nD => ?_⟩
    refine lc_it (walk_str (z := SX.S l)) (fun i Hc => Same H Hc ∧ Hc D = some (.lst ((List.replicate i true).map V.bl))) ⟨same_new nD, upd_same⟩ (fun _ _ _ _ => trivial) ?_ ?_
    · rintro i x Hc Hc' hi ⟨sm, eD⟩ ⟨rfl, c, ec, rfl⟩
      have hmem : c ∈ l := by
        have : l.toArray[i]? = some c := ec
        rw [List.getElem?_toArray] at this
        exact List.mem_of_getElem? this
      have hi2 : i < l.length := by simpa using hi
      refine ⟨rfl, _, rfl, c, _, rfl, rfl, _, eD, ?_, sm.into nD, ?_⟩
      · rw [List.length_map, List.length_replicate]
        exact small1000 (by omega)
      · rw [upd_same, code_in (hc c hmem), List.replicate_succ', List.map_append]
        rfl
    · rintro Hc ⟨sm, eD⟩
      refine ⟨D, _, rfl, SqL.of eD, ?_⟩
      rw [show (List.replicate (SX.S l).cps.size true).all id = true by rw [List.all_replicate]; simp]
      exact q _ sm
theorem ok_are_names {P : Program} {w : World} {K : PySem.W.Frag} {mg : Str → Option Value} {base : Heap} (T : Top K mg) :
    C8.Cal P w K mg base 2 "are_names" (spAreNames K) [] := by
  refine cal_of (fd_are_names T) (g_are_names T) sc_are_names bi_are_names (fun vs H Q E h => ?_) (fun cdv A outer s H vs Q E hr h => ?_)
  · obtain ⟨a, ns, rfl, _⟩ := h
    rfl
  · obtain ⟨a, ns, rfl, ha, hn, h1, h9, q⟩ := h
    refine ⟨_, (pss_cons (ps_if (PW.pt (pw_or (pt_not (pt_val (C8.pe_c (ok_is_row T) hr (by decide) (by rfl) (pa_cons (pv 0) pa_nil)))) (pw_or (pt_not (pt_chain op_le op_le pe_int (pe_callB (lenK (K := K)) (by rfl) (f_len T) PySem.boot_len (pa_cons (pv 0) pa_nil)) (C8.pe_gc (by rfl) (c_MOST_POINTS T)))) (pw_or1 (pt_not (pt_val (pe_callB (allK (K := K) rfl) (by rfl) (f_all T) (by decide +kernel) (pa_cons (pe_lc (own := [("one", 1)]) (g := gName 1) (by rfl) sc_are_names.nd (pi_list (pv 0)) (blkOk_by (own := [("one", 1)]) (N := ["thing", "one"]) (sc := defScope s_are_names) (by decide +kernel)) (fun _ _ _ _ _ => (pg_name (i := 1) sc_are_names.nd rfl (by first | exact Or.inl rfl | exact Or.inr rfl))) (fun _ _ _ _ _ => pts_nil) (fun _ _ _ _ _ => (C8.pe_c (ok_is_name T) hr (by decide) (by rfl) (pa_cons (pv 1) pa_nil)))) pa_nil)))))))) (pss_one (ps_ret pe_bl)) pss_nil)
      (pss_one (ps_ret (pe_cmpR op_eq (pe_lenSetS (K := K) (by rfl) (f_len T) (by rfl) (f_set T) (pv 0)) (pe_callB (lenK (K := K)) (by rfl) (f_len T) PySem.boot_len (pa_cons (pv 0) pa_nil)) (nomark _))))), ?_⟩
    have hlm : (ns.map V.str).length = ns.length := List.length_map ..
    refine ⟨_, rfl, _, _, true, rfl, .base (.lst ha), rfl, fun H1 s1 => ⟨true, rfl, ?_⟩⟩
    refine ⟨_, rfl, a, _, rfl, .inl (SqL.of (s1 _ _ ha)), 1, _, rfl, rfl, true, ?_, _, _, rfl, rfl, true, ?_, ?_⟩
    · exact bT (by rw [hlm]; omega)
    · exact bT (by rw [hlm]; omega)
    refine ⟨_, rfl, a, rfl, ⟨_, SqL.of (s1 _ _ ha)⟩, fun D nD => ?_⟩
    have fD := s1.free nD
    refine lc_list (K := K) (a := a) (xs := ns.map V.str) (fun i Hc => Same H Hc ∧ Hc D = some (.lst ((List.replicate i true).map V.bl))) ⟨s1.next nD, upd_same⟩ (fun i Hc _ z => SqL.of (z.1 _ _ ha)) ?_ ?_
    · rintro i x Hc hi ⟨sm, eD⟩
      obtain ⟨z, hz, rfl⟩ := strs_at hi
      have hil := (List.getElem?_eq_some_iff.mp hz).1
      refine ⟨rfl, _, rfl, z, rfl, hn.ok z (List.mem_of_getElem? hz), fun H2 s2 => ⟨_, s2 _ _ eD, ?_, (sm.trans s2).into fD, ?_⟩⟩
      · rw [List.length_map, List.length_replicate]
        exact small1000 (by omega)
      · rw [upd_same, List.replicate_succ', List.map_append]
        rfl
    · rintro Hc ⟨sm, eD⟩
      refine ⟨D, _, rfl, SqL.of eD, true, ?_, ?_⟩
      · rw [List.all_replicate]
        simp
      · refine ⟨_, rfl, a, ns, rfl, SqL.of (sm _ _ ha), by omega, _, rfl, a, _, rfl, .inl (SqL.of (sm _ _ ha)), rfl, ?_⟩
        rw [manyS_nodup hn.nd, hlm, decide_eq_true rfl]
        exact q _ sm
theorem ok_is_pair {P : Program} {w : World} {K : PySem.W.Frag} {mg : Str → Option Value} {base : Heap} (T : Top K mg) :
    C8.Cal P w K mg base 2 "is_pair" (spIsPair K) [] := by
  refine cal_of (fd_is_pair T) (g_is_pair T) sc_is_pair bi_is_pair (fun vs H Q E h => ?_) (fun cdv A outer s H vs Q E hr h => ?_)
  · obtain ⟨a, t, ns, x, y, rfl, _⟩ := h
    rfl
  · obtain ⟨a, t, ns, x, y, rfl, ha, ht, hn, hxy, q⟩ := h
    refine ⟨_, (pss_cons (ps_if (PW.pt (pw_or (pt_not (pt_val (C8.pe_c (ok_is_row T) hr (by decide) (by rfl) (pa_cons (pv 1) pa_nil)))) (pw_or (pt_cmpR op_ne (pe_callB (lenK (K := K)) (by rfl) (f_len T) PySem.boot_len (pa_cons (pv 1) pa_nil)) pe_int (nomark _)) (pw_or1 (pt_not (pt_val (pe_callB (allK (K := K) rfl) (by rfl) (f_all T) (by decide +kernel) (pa_cons (pe_lc (own := [("one", 2)]) (g := gName 2) (by rfl) sc_is_pair.nd (pi_tup (pv 1)) (blkOk_by (own := [("one", 2)]) (N := ["points", "thing", "one"]) (sc := defScope s_is_pair) (by decide +kernel)) (fun _ _ _ _ _ => (pg_name (i := 2) sc_is_pair.nd rfl (by first | exact Or.inl rfl | exact Or.inr rfl))) (fun _ _ _ _ _ => pts_nil) (fun _ _ _ _ _ => (C8.pe_c (ok_is_name T) hr (by decide) (by rfl) (pa_cons (pv 2) pa_nil)))) pa_nil)))))))) (pss_one (ps_ret pe_bl)) pss_nil)
      (pss_one (ps_ret (pe_and (pe_cmpR (inSeq (K := K)) (pe_ix (ixT (K := K)) (pv 1) pe_int (fun _ _ => rfl)) (pv 0) (by with_unfolding_all rfl)) (pe_and (pe_cmpR (inSeq (K := K)) (pe_ix (ixT (K := K)) (pv 1) pe_int (fun _ _ => rfl)) (pv 0) (by with_unfolding_all rfl)) (pe_one (pe_cmpR op_ne (pe_ix (ixT (K := K)) (pv 1) pe_int (fun _ _ => rfl)) (pe_ix (ixT (K := K)) (pv 1) pe_int (fun _ _ => rfl)) (nomark _)))))))), ?_⟩
    refine ⟨_, rfl, _, _, true, rfl, .base (.tup ht), rfl, fun H1 s1 => ⟨true, rfl, ?_⟩⟩
    refine ⟨_, rfl, t, _, rfl, .inr (SqT.of (s1 _ _ ht)), rfl, false, rfl, ?_⟩
    refine ⟨_, rfl, t, rfl, ⟨_, SqT.of (s1 _ _ ht)⟩, fun D nD => ?_⟩
    have fD := s1.free nD
    refine lc_tup (K := K) (a := t) (xs := [.str x, .str y]) (fun i Hc => Same H Hc ∧ i ≤ 2 ∧ Hc D = some (.lst ((List.replicate i true).map V.bl))) ⟨s1.next nD, by omega, upd_same⟩ (fun i Hc _ z => SqT.of (z.1 _ _ ht)) ?_ ?_
    · rintro i v Hc hi ⟨sm, hi2, eD⟩
      obtain ⟨z, hz, rfl, hi3⟩ : ∃ z, IsName z ∧ v = .str z ∧ i < 2 := by
        match i, hi with
        | 0, hi => exact ⟨x, hn x hxy.1, (Option.some.inj hi).symm, by omega⟩
        | 1, hi => exact ⟨y, hn y hxy.2.1, (Option.some.inj hi).symm, by omega⟩
        | i + 2, hi => simp at hi
      refine ⟨rfl, _, rfl, z, rfl, hz, fun H2 s2 => ⟨_, s2 _ _ eD, ?_, (sm.trans s2).into fD, by omega, ?_⟩⟩
      · rw [List.length_map, List.length_replicate]
        exact small1000 (by omega)
      · rw [upd_same, List.replicate_succ', List.map_append]
        rfl
    · rintro Hc ⟨sm, _, eD⟩
      refine ⟨D, _, rfl, SqL.of eD, true, rfl, ?_⟩
      refine ⟨_, rfl, t, _, 0, _, rfl, rfl, SqT.of (sm _ _ ht), rfl, _, rfl, a, _, rfl, .inl (SqL.of (sm _ _ ha)), rfl, flat_strs ns, true, ?_, ?_⟩
      · show V.bl (inV (.str x) (ns.map V.str)) = _
        rw [inV_strs, decide_eq_true hxy.1]
      refine ⟨_, rfl, t, _, 1, _, rfl, rfl, SqT.of (sm _ _ ht), rfl, _, rfl, a, _, rfl, .inl (SqL.of (sm _ _ ha)), rfl, flat_strs ns, true, ?_, ?_⟩
      · show V.bl (inV (.str y) (ns.map V.str)) = _
        rw [inV_strs, decide_eq_true hxy.2.1]
      refine ⟨_, rfl, t, _, 0, _, rfl, rfl, SqT.of (sm _ _ ht), rfl, _, rfl, t, _, 1, _, rfl, rfl, SqT.of (sm _ _ ht), rfl, rfl, ?_⟩
      have hne : ¬ (V.str x = V.str y) := fun e => hxy.2.2 (V.str.inj e)
      rw [decide_eq_false hne]
      exact q _ sm
theorem ok_Web_init {P : Program} {w : World} {K : PySem.W.Frag} {mg : Str → Option Value} {base : Heap} (T : Top K mg) :
    C8.Mak P w K mg base 3 "Web" (He.ga K "Web") (spWebInit K) [] := by
  refine mak_of (mk_Web T) (g_Web T) (fd_Web_init T) sc_Web_init bi_Web_init (fun vs H Q E h => ?_) (fun cdv A outer s H vs Q E hr h => ?_)
  · obtain ⟨x, dx, a, b, ns, ats, rfl, _⟩ := h
    rfl
  · obtain ⟨x, dx, a, b, ns, ats, rfl, hx, ha, hb, hT, ok, q⟩ := h
    refine ⟨_, (pss_cons (ps_if (pt_not (pt_val (C8.pe_c (ok_are_names T) hr (by decide) (by rfl) (pa_cons (pv 1) pa_nil)))) (pss_one ps_never) pss_nil)
      (pss_cons (ps_if (PW.pt (pw_or (pt_not (pt_val (C8.pe_c (ok_is_row T) hr (by decide) (by rfl) (pa_cons (pv 2) pa_nil)))) (pw_or (pt_cmpR op_gt (pe_callB (lenK (K := K)) (by rfl) (f_len T) PySem.boot_len (pa_cons (pv 2) pa_nil)) (C8.pe_gc (by rfl) (c_MOST_TIES T)) (nomark _)) (pw_or1 (pt_not (pt_val (pe_callB (allK (K := K) rfl) (by rfl) (f_all T) (by decide +kernel) (pa_cons (pe_lc (own := [("tie", 3)]) (g := gName 3) (by rfl) sc_Web_init.nd (pi_list (pv 2)) (blkOk_by (own := [("tie", 3)]) (N := ["self", "points", "ties", "tie"]) (sc := defScope s_Web_init) (by decide +kernel)) (fun _ _ _ _ _ => (pg_name (i := 3) sc_Web_init.nd rfl (by first | exact Or.inl rfl | exact Or.inr rfl))) (fun _ _ _ _ _ => pts_nil) (fun _ _ _ _ _ => (C8.pe_c (ok_is_pair T) hr (by decide) (by rfl) (pa_cons (pv 1) (pa_cons (pv 3) pa_nil))))) pa_nil)))))))) (pss_one ps_never) pss_nil)
      (pss_cons (ps_fld (pv 0) (pe_callTy (listK (K := K)) (by rfl) (f_list T) (by decide +kernel) (pa_cons (pv 1) pa_nil)) rfl)
      (pss_one (ps_fld (pv 0) (pe_lc (own := [("tie", 3)]) (g := gName 3) (by rfl) sc_Web_init.nd (pi_list (pv 2)) (blkOk_by (own := [("tie", 3)]) (N := ["self", "points", "ties", "tie"]) (sc := defScope s_Web_init) (by decide +kernel)) (fun _ _ _ _ _ => (pg_name (i := 3) sc_Web_init.nd rfl (by first | exact Or.inl rfl | exact Or.inr rfl))) (fun _ _ _ _ _ => pts_nil) (fun _ _ _ _ _ => (pe_callTy (tupK (K := K)) (by rfl) (f_tuple T) (by decide +kernel) (pa_cons (pv 3) pa_nil)))) rfl))))), ?_⟩
    refine ⟨_, rfl, a, ns, rfl, ha, ok.names, ok.n1, ok.n9, fun H1 s1 => ⟨true, rfl, ?_⟩⟩
    refine ⟨_, rfl, _, _, true, rfl, .base (.lst (s1 _ _ hb)), rfl, fun H2 s2' => ⟨true, rfl, ?_⟩⟩
    have s2 := s1.trans s2'
    refine ⟨_, rfl, b, _, rfl, .inl (SqL.of (s2 _ _ hb)), _, _, rfl, rfl, false, ?_, ?_⟩
    · refine bF ?_
      rw [Ats.vals_len]
      have := ok.t20
      omega
    refine ⟨_, rfl, b, rfl, ⟨_, SqL.of (s2 _ _ hb)⟩, fun D nD => ?_⟩
    have fD := s2.free nD
    refine lc_list (K := K) (a := b) (xs := ats.vals) (fun i Hc => Same H Hc ∧ Hc D = some (.lst ((List.replicate i true).map V.bl))) ⟨s2.next nD, upd_same⟩ (fun i Hc _ z => SqL.of (z.1 _ _ hb)) ?_ ?_
    · rintro i v Hc hi ⟨sm, eD⟩
      obtain ⟨⟨t, u, w'⟩, hz, rfl⟩ := Ats.vals_at hi
      have hil := (List.getElem?_eq_some_iff.mp hz).1
      have hm := List.mem_of_getElem? hz
      have := ok.t20
      refine ⟨rfl, _, rfl, _, rfl, a, t, ns, u, w', rfl, sm _ _ ha, sm _ _ (hT _ hm), ok.names.ok, ok.ties _ hm, fun H3 s3 => ⟨_, s3 _ _ eD, ?_, (sm.trans s3).into fD, ?_⟩⟩
      · rw [List.length_map, List.length_replicate]
        exact small1000 (by omega)
      · rw [upd_same, List.replicate_succ', List.map_append]
        rfl
    · rintro H3 ⟨s3, eD⟩
      refine ⟨D, _, rfl, SqL.of eD, true, ?_, ?_⟩
      · rw [List.all_replicate]
        simp
      -- the fields
      refine ⟨_, rfl, a, _, rfl, .inl (SqL.of (s3 _ _ ha)), fun l nl => ?_⟩
      have s4 := s3.next (o := .lst (ns.map V.str)) nl
      have nxl : x ≠ l := ne_of_none hx (s3.free nl)
      refine ⟨_, rfl, x, _, dx, [], rfl, s4 _ _ hx, cl_Web T, na_Web_own_points T, (by show 0 < 1000; decide), ?_⟩
      have kx : ∀ c o, H c = some o → c ≠ x → upd (upd H3 l (.lst (ns.map V.str))) x (.ins (He.ga K "Web") dx (putF "own_points" (.ref l) [])) c = some o := fun c o h n => by
        rw [upd_ne n]
        exact s4 _ _ h
      have nbx : b ≠ x := ne_of hb hx (by intro z; cases z)
      refine ⟨_, rfl, b, rfl, ⟨_, SqL.of (kx _ _ hb nbx)⟩, fun B nB => ?_⟩
      have nBx : B ≠ x := fun e => by
        rw [e, upd_same] at nB
        cases nB
      have nBl : B ≠ l := fun e => by
        rw [e, upd_ne nxl.symm, upd_same] at nB
        cases nB
      have fB : H B = none := by
        cases e : H B with
        | none => rfl
        | some o =>
          rw [kx _ _ e nBx] at nB
          cases nB
      refine lc_list (K := K) (a := b) (xs := ats.vals) (fun i Hc => (∀ c o, H c = some o → c ≠ x → Hc c = some o) ∧ Hc x = some (.ins (He.ga K "Web") dx (putF "own_points" (.ref l) [])) ∧ Hc l = some (.lst (ns.map V.str)) ∧ Hc B = some (.lst (ats.vals.take i)))
        ⟨fun c o h n => by rw [upd_ne (ne_of_none h fB)]; exact kx c o h n, by rw [upd_ne nBx.symm]; exact upd_same, by rw [upd_ne nBl.symm, upd_ne nxl.symm]; exact upd_same, upd_same⟩ (fun i Hc _ z => SqL.of (z.1 _ _ hb nbx)) ?_ ?_
      · rintro i v Hc hi ⟨kc, ex, el, eB⟩
        obtain ⟨⟨t, u, w'⟩, hz, rfl⟩ := Ats.vals_at hi
        have hil := (List.getElem?_eq_some_iff.mp hz).1
        have hm := List.mem_of_getElem? hz
        have ht := hT _ hm
        have := ok.t20
        refine ⟨rfl, _, rfl, t, _, rfl, .inr ⟨SqT.of (kc _ _ ht (ne_of ht hx (by intro z; cases z))), _, eB, ?_, ?_⟩⟩
        · rw [List.length_take, Ats.vals_len]
          exact small1000 (by omega)
        · refine ⟨fun c o h n => by rw [upd_ne (ne_of_none h fB)]; exact kc c o h n, by rw [upd_ne nBx.symm]; exact ex, by rw [upd_ne nBl.symm]; exact el, ?_⟩
          rw [upd_same, take_snoc hi]
      · rintro Hc ⟨kc, ex, el, eB⟩
        rw [List.take_length] at eB
        refine ⟨_, rfl, x, _, dx, _, rfl, ex, cl_Web T, na_Web_own_ties T, (by show 1 < 1000; decide), ?_⟩
        refine q _ (fun c o h n => by rw [upd_ne n]; exact kc c o h n) ⟨dx, l, B, upd_same, ?_, ?_, fun z hz => ?_⟩
        · rw [upd_ne nxl.symm]
          exact el
        · rw [upd_ne nBx]
          exact eB
        · have ht := hT z hz
          have nz := ne_of ht hx (by intro q; cases q)
          rw [upd_ne nz]
          exact kc _ _ ht nz
theorem ok_Web_points {P : Program} {w : World} {K : PySem.W.Frag} {mg : Str → Option Value} {base : Heap} (T : Top K mg) :
    C8.Met P w K mg base 1 (He.ga K "Web") "points" (spPoints K) [] := by
  refine met_of (cl_Web T) (me_Web_points T) (fd_Web_points T) sc_Web_points bi_Web_points (fun vs H Q E h => ?_) (fun cdv A outer s H vs Q E hr h => ?_)
  · obtain ⟨x, ns, ats, rfl, _⟩ := h
    rfl
  · obtain ⟨x, ns, ats, rfl, hW, q⟩ := h
    refine ⟨_, (pss_one (ps_ret (pe_callTy (listK (K := K)) (by rfl) (f_list T) (by decide +kernel) (pa_cons (pe_fld (pv 0) rfl) pa_nil)))), ?_⟩
    obtain ⟨dx, a, b, h1, h2, h3, h4⟩ := hW
    exact ⟨_, rfl, x, _, dx, _, _, rfl, h1, cl_Web T, na_Web_own_points T, wf_points a b, a, _, rfl, .inl (SqL.of h2), q⟩
theorem ok_Web_ties {P : Program} {w : World} {K : PySem.W.Frag} {mg : Str → Option Value} {base : Heap} (T : Top K mg) :
    C8.Met P w K mg base 1 (He.ga K "Web") "ties" (spTies K) [] := by
  refine met_of (cl_Web T) (me_Web_ties T) (fd_Web_ties T) sc_Web_ties bi_Web_ties (fun vs H Q E h => ?_) (fun cdv A outer s H vs Q E hr h => ?_)
  · obtain ⟨x, ns, ats, rfl, _⟩ := h
    rfl
  · obtain ⟨x, ns, ats, rfl, hW, q⟩ := h
    refine ⟨_, (pss_one (ps_ret (pe_callTy (listK (K := K)) (by rfl) (f_list T) (by decide +kernel) (pa_cons (pe_fld (pv 0) rfl) pa_nil)))), ?_⟩
    obtain ⟨dx, a, b, h1, h2, h3, h4⟩ := hW
    exact ⟨_, rfl, x, _, dx, _, _, rfl, h1, cl_Web T, na_Web_own_ties T, wf_ties a b, b, _, rfl, .inl (SqL.of h3), q⟩
theorem ok_Web_many {P : Program} {w : World} {K : PySem.W.Frag} {mg : Str → Option Value} {base : Heap} (T : Top K mg) :
    C8.Met P w K mg base 1 (He.ga K "Web") "many" (spMany K) [] := by
  refine met_of (cl_Web T) (me_Web_many T) (fd_Web_many T) sc_Web_many bi_Web_many (fun vs H Q E h => ?_) (fun cdv A outer s H vs Q E hr h => ?_)
  · obtain ⟨x, ns, ats, rfl, _⟩ := h
    rfl
  · obtain ⟨x, ns, ats, rfl, hW, q⟩ := h
    refine ⟨_, (pss_one (ps_ret (pe_callB (lenK (K := K)) (by rfl) (f_len T) PySem.boot_len (pa_cons (pe_fld (pv 0) rfl) pa_nil)))), ?_⟩
    obtain ⟨dx, a, b, h1, h2, h3, h4⟩ := hW
    refine ⟨_, rfl, x, _, dx, _, _, rfl, h1, cl_Web T, na_Web_own_ties T, wf_ties a b, b, _, rfl, .inl (SqL.of h3), ?_⟩
    rw [Ats.vals_len]
    exact q
end PW

namespace PW
open PySem PySem.Spec PyProof.Rows L2
/-! ### reaching, plainly -/
inductive Rch (E : Str → Str → Prop) (s : Str) : Str → Prop
  | refl : Rch E s s
  | step {x y : Str} : Rch E s x → E x y → Rch E s y
theorem Rch.trans {E : Str → Str → Prop} {a b c : Str} (h : Rch E a b) (g : Rch E b c) : Rch E a c := by
  induction g with
  | refl => exact h
  | step _ e ih => exact .step ih e
theorem Rch.head {E : Str → Str → Prop} {a b c : Str} (e : E a b) (g : Rch E b c) : Rch E a c := (Rch.step .refl e).trans g
theorem Rch.symm {E : Str → Str → Prop} (sy : ∀ x y, E x y → E y x) {a b : Str} (h : Rch E a b) : Rch E b a := by
  induction h with
  | refl => exact .refl
  | step _ e ih => exact Rch.head (sy _ _ e) ih
theorem Rch.mem {E : Str → Str → Prop} {ns : List Str} {a b : Str} (h : Rch E a b) (ha : a ∈ ns) (he : ∀ x y, E x y → y ∈ ns) : b ∈ ns := by
  cases h with
  | refl => exact ha
  | step _ e => exact he _ _ e
theorem Rch.closed {E : Str → Str → Prop} {S : List Str} {a b : Str} (h : Rch E a b) (ha : a ∈ S) (hc : ∀ x y, x ∈ S → E x y → y ∈ S) : b ∈ S := by
  induction h with
  | refl => exact ha
  | step _ e ih => exact hc _ _ ih e
noncomputable def rchB (E : Str → Str → Prop) (s x : Str) : Bool := @decide (Rch E s x) (Classical.propDecidable _)
theorem rchB_iff {E : Str → Str → Prop} {s x : Str} : rchB E s x = true ↔ Rch E s x := by
  unfold rchB
  exact @decide_eq_true_iff _ (Classical.propDecidable _)
noncomputable def hangL (ns : List Str) (E : Str → Str → Prop) (s : Str) : List Str := ns.filter fun x => rchB E s x
theorem filter_hang {ns S : List Str} {E : Str → Str → Prop} {s : Str} (h : ∀ x ∈ ns, x ∈ S ↔ Rch E s x) : (ns.filter fun x => decide (x ∈ S)) = hangL ns E s := by
  unfold hangL
  refine List.filter_congr fun x hx => ?_
  rw [Bool.eq_iff_iff, decide_eq_true_iff, rchB_iff]
  exact h x hx
theorem mem_hangL {ns : List Str} {E : Str → Str → Prop} {s x : Str} : x ∈ hangL ns E s ↔ x ∈ ns ∧ Rch E s x := by
  unfold hangL
  rw [List.mem_filter, rchB_iff]
theorem hangL_congr {ns : List Str} {E E' : Str → Str → Prop} {s t : Str} (h : ∀ x, Rch E s x ↔ Rch E' t x) : hangL ns E s = hangL ns E' t := by
  unfold hangL
  refine List.filter_congr fun x _ => ?_
  rw [Bool.eq_iff_iff, rchB_iff, rchB_iff]
  exact h x
theorem hangL_sublist (ns : List Str) (E : Str → Str → Prop) (s : Str) : (hangL ns E s).Sublist ns := List.filter_sublist
theorem hangL_nodup {ns : List Str} {E : Str → Str → Prop} {s : Str} (h : ns.Nodup) : (hangL ns E s).Nodup := h.sublist (hangL_sublist ns E s)
theorem nodup_len : ∀ {ms ns : List Str}, ms.Nodup → (∀ x ∈ ms, x ∈ ns) → ms.length ≤ ns.length
  | [], _, _, _ => Nat.zero_le _
  | x :: r, ns, nd, h => by
    have hx : x ∈ ns := h x List.mem_cons_self
    obtain ⟨nx, nr⟩ := List.nodup_cons.mp nd
    have h2 : ∀ y ∈ r, y ∈ ns.erase x := fun y hy => by
      have ne : y ≠ x := fun e => nx (e ▸ hy)
      exact (List.mem_erase_of_ne ne).mpr (h y (List.mem_cons_of_mem _ hy))
    have h3 := nodup_len nr h2
    rw [List.length_erase_of_mem hx] at h3
    have h4 : 0 < ns.length := List.length_pos_of_mem hx
    rw [List.length_cons]
    omega
/-! ### ties as steps, whichever way -/
def Edg (ts : List (Str × Str)) (ok : Nat → Prop) (x y : Str) : Prop := ∃ k t, ok k ∧ ts[k]? = some t ∧ ((x = t.1 ∧ y = t.2) ∨ (x = t.2 ∧ y = t.1))
theorem Edg.symm {ts : List (Str × Str)} {ok : Nat → Prop} (x y : Str) (h : Edg ts ok x y) : Edg ts ok y x := by
  obtain ⟨k, t, h1, h2, h3⟩ := h
  exact ⟨k, t, h1, h2, h3.symm.imp And.symm And.symm⟩
theorem Edg.mem {ts : List (Str × Str)} {ok : Nat → Prop} {ns : List Str} (hv : ∀ t ∈ ts, TieOk ns t) (x y : Str) (h : Edg ts ok x y) : y ∈ ns := by
  obtain ⟨k, t, h1, h2, h3⟩ := h
  have := hv t (List.mem_of_getElem? h2)
  rcases h3 with ⟨rfl, rfl⟩ | ⟨rfl, rfl⟩
  · exact this.2.1
  · exact this.1
theorem Edg.congr {ts : List (Str × Str)} {ok ok' : Nat → Prop} (h : ∀ k, k < ts.length → (ok k ↔ ok' k)) : Edg ts ok = Edg ts ok' := by
  funext x y
  refine propext ⟨fun ⟨k, t, h1, h2, h3⟩ => ⟨k, t, (h k (List.getElem?_eq_some_iff.mp h2).1).mp h1, h2, h3⟩, fun ⟨k, t, h1, h2, h3⟩ => ⟨k, t, (h k (List.getElem?_eq_some_iff.mp h2).1).mpr h1, h2, h3⟩⟩
/-- the search: ms met, the first k of them looked at -/
structure Bfs (ns : List Str) (E : Str → Str → Prop) (s : Str) (ms : List Str) (k : Nat) : Prop where
  nd : ms.Nodup
  inn : ∀ x ∈ ms, x ∈ ns
  rch : ∀ x ∈ ms, Rch E s x
  st : s ∈ ms
  done : ∀ i x, i < k → ms[i]? = some x → ∀ y, E x y → y ∈ ms
theorem Bfs.init {ns : List Str} {E : Str → Str → Prop} {s : Str} (h : s ∈ ns) : Bfs ns E s [s] 0 :=
  ⟨List.nodup_cons.mpr ⟨by simp, List.nodup_nil⟩, fun x hx => by rw [List.mem_singleton.mp hx]; exact h, fun x hx => by rw [List.mem_singleton.mp hx]; exact .refl, List.mem_singleton.mpr rfl, fun i x hi => absurd hi (Nat.not_lt_zero _)⟩
theorem Bfs.add {ns : List Str} {E : Str → Str → Prop} {s : Str} {ms : List Str} {k : Nat} (B : Bfs ns E s ms k) {x y : Str} (hx : x ∈ ms) (he : E x y) (hy : y ∉ ms) (hn : y ∈ ns) (hk : k ≤ ms.length) : Bfs ns E s (ms ++ [y]) k where
  nd := by
    rw [List.nodup_append]
    refine ⟨B.nd, List.nodup_cons.mpr ⟨by simp, List.nodup_nil⟩, fun a ha b hb e => ?_⟩
    rw [List.mem_singleton.mp hb] at e
    exact hy (e ▸ ha)
  inn := fun z hz => by
    rcases List.mem_append.mp hz with hz | hz
    · exact B.inn z hz
    · rw [List.mem_singleton.mp hz]
      exact hn
  rch := fun z hz => by
    rcases List.mem_append.mp hz with hz | hz
    · exact B.rch z hz
    · rw [List.mem_singleton.mp hz]
      exact .step (B.rch x hx) he
  st := List.mem_append_left _ B.st
  done := fun i z hi hz w hw => by
    rw [List.getElem?_append_left (by omega)] at hz
    exact List.mem_append_left _ (B.done i z hi hz w hw)
theorem Bfs.len {ns : List Str} {E : Str → Str → Prop} {s : Str} {ms : List Str} {k : Nat} (B : Bfs ns E s ms k) : ms.length ≤ ns.length := nodup_len B.nd B.inn
theorem Bfs.next {ns : List Str} {E : Str → Str → Prop} {s : Str} {ms : List Str} {k : Nat} (B : Bfs ns E s ms k) {x : Str} (hx : ms[k]? = some x) (h : ∀ y, E x y → y ∈ ms) : Bfs ns E s ms (k + 1) :=
  ⟨B.nd, B.inn, B.rch, B.st, fun i z hi hz => by
    by_cases e : i = k
    · subst e
      rw [hx] at hz
      cases hz
      exact h
    · exact B.done i z (by omega) hz⟩
theorem Bfs.all {ns : List Str} {E : Str → Str → Prop} {s : Str} {ms : List Str} (B : Bfs ns E s ms ms.length) (x : Str) : x ∈ ms ↔ Rch E s x :=
  ⟨B.rch x, fun h => h.closed B.st fun a b ha hb => by
    obtain ⟨i, hi, e⟩ := List.getElem_of_mem ha
    exact B.done i a hi (by rw [← e]; exact List.getElem?_eq_getElem hi) b hb⟩
/-! ### the law's own rounds -/
/-- one look at a tie -/
def look (ts : List (Str × Str)) (ok : Nat → Bool) (fs : List Str) (k : Nat) : List Str := match ts[k]? with
  | some t => if ok k = true ∧ decide (t.1 ∈ fs) ≠ decide (t.2 ∈ fs) then fs ++ [t.1, t.2] else fs
  | none => fs
/-- a round over the first k ties -/
def roundS (ts : List (Str × Str)) (ok : Nat → Bool) (fs : List Str) : Nat → List Str
  | 0 => fs
  | k + 1 => look ts ok (roundS ts ok fs k) k
def roundsS (ts : List (Str × Str)) (ok : Nat → Bool) (s : Str) : Nat → List Str
  | 0 => [s]
  | i + 1 => roundS ts ok (roundsS ts ok s i) ts.length
theorem look_sub (ts : List (Str × Str)) (ok : Nat → Bool) (fs : List Str) (k : Nat) : ∀ x ∈ fs, x ∈ look ts ok fs k := fun x hx => by
  unfold look
  split
  · split
    · exact List.mem_append_left _ hx
    · exact hx
  · exact hx
theorem roundS_sub (ts : List (Str × Str)) (ok : Nat → Bool) (fs : List Str) : ∀ k, ∀ x ∈ fs, x ∈ roundS ts ok fs k
  | 0, x, hx => hx
  | k + 1, x, hx => look_sub ts ok _ k x (roundS_sub ts ok fs k x hx)
theorem look_rch {ts : List (Str × Str)} {ok : Nat → Bool} {s : Str} {fs : List Str} {k : Nat} (h : ∀ x ∈ fs, Rch (Edg ts fun j => ok j = true) s x) : ∀ x ∈ look ts ok fs k, Rch (Edg ts fun j => ok j = true) s x := fun x hx => by
  unfold look at hx
  split at hx
  · rename_i t e
    split at hx
    · rename_i hc
      rcases List.mem_append.mp hx with hx | hx
      · exact h x hx
      · have e1 : Edg ts (fun j => ok j = true) t.1 t.2 := ⟨k, t, hc.1, e, .inl ⟨rfl, rfl⟩⟩
        by_cases h1 : t.1 ∈ fs
        · rcases List.mem_cons.mp hx with rfl | hx
          · exact h _ h1
          · rw [List.mem_singleton.mp hx]
            exact .step (h _ h1) e1
        · have h2 : t.2 ∈ fs := by
            have := hc.2
            rw [decide_eq_false h1] at this
            by_cases z : t.2 ∈ fs
            · exact z
            · rw [decide_eq_false z] at this
              exact absurd rfl this
          rcases List.mem_cons.mp hx with rfl | hx
          · exact .step (h _ h2) (Edg.symm _ _ e1)
          · rw [List.mem_singleton.mp hx]
            exact h _ h2
    · exact h x hx
  · exact h x hx
theorem roundS_rch {ts : List (Str × Str)} {ok : Nat → Bool} {s : Str} {fs : List Str} (h : ∀ x ∈ fs, Rch (Edg ts fun j => ok j = true) s x) : ∀ k, ∀ x ∈ roundS ts ok fs k, Rch (Edg ts fun j => ok j = true) s x
  | 0 => h
  | k + 1 => look_rch (roundS_rch h k)
theorem roundsS_rch {ts : List (Str × Str)} {ok : Nat → Bool} {s : Str} : ∀ i, ∀ x ∈ roundsS ts ok s i, Rch (Edg ts fun j => ok j = true) s x
  | 0 => fun x hx => by
    rw [List.mem_singleton.mp hx]
    exact .refl
  | i + 1 => roundS_rch (roundsS_rch i) _
/-- how many of the points are there -/
def cnt (ns fs : List Str) : Nat := (ns.filter fun x => decide (x ∈ fs)).length
theorem cnt_le (ns fs : List Str) : cnt ns fs ≤ ns.length := List.length_filter_le ..
theorem cnt_mono : ∀ {ns fs gs : List Str}, (∀ x ∈ fs, x ∈ gs) → cnt ns fs ≤ cnt ns gs
  | [], _, _, _ => Nat.le_refl _
  | x :: ns, fs, gs, h => by
    have ih := cnt_mono (ns := ns) h
    unfold cnt at ih ⊢
    rw [List.filter_cons, List.filter_cons]
    by_cases h1 : x ∈ fs
    · rw [decide_eq_true h1, decide_eq_true (h x h1)]
      exact Nat.succ_le_succ ih
    · rw [decide_eq_false h1]
      by_cases h2 : x ∈ gs
      · rw [decide_eq_true h2]
        exact Nat.le_succ_of_le ih
      · rw [decide_eq_false h2]
        exact ih
theorem cnt_lt : ∀ {ns fs gs : List Str} {y : Str}, (∀ x ∈ fs, x ∈ gs) → y ∈ ns → y ∉ fs → y ∈ gs → cnt ns fs < cnt ns gs
  | [], _, _, _, _, hy, _, _ => by simp at hy
  | x :: ns, fs, gs, y, h, hy, h1, h2 => by
    by_cases e : y = x
    · subst e
      have := cnt_mono (ns := ns) h
      unfold cnt at this ⊢
      rw [List.filter_cons, List.filter_cons, decide_eq_false h1, decide_eq_true h2]
      exact Nat.lt_succ_of_le this
    · have hy2 : y ∈ ns := (List.mem_cons.mp hy).resolve_left e
      have ih := cnt_lt h hy2 h1 h2
      unfold cnt at ih ⊢
      rw [List.filter_cons, List.filter_cons]
      by_cases h3 : x ∈ fs
      · rw [decide_eq_true h3, decide_eq_true (h x h3)]
        exact Nat.succ_lt_succ ih
      · rw [decide_eq_false h3]
        by_cases h4 : x ∈ gs
        · rw [decide_eq_true h4]
          exact Nat.lt_succ_of_lt ih
        · rw [decide_eq_false h4]
          exact ih
/-- closed by the ties -/
def Shutd (ts : List (Str × Str)) (ok : Nat → Bool) (fs : List Str) (n : Nat) : Prop := ∀ k t, k < n → ts[k]? = some t → ok k = true → (t.1 ∈ fs ↔ t.2 ∈ fs)
theorem roundS_same {ts : List (Str × Str)} {ok : Nat → Bool} {fs : List Str} : ∀ {n : Nat}, Shutd ts ok fs n → roundS ts ok fs n = fs
  | 0, _ => rfl
  | n + 1, h => by
    have ih := roundS_same (n := n) fun k t hk => h k t (Nat.lt_succ_of_lt hk)
    show look ts ok (roundS ts ok fs n) n = fs
    rw [ih]
    unfold look
    split
    · rename_i t e
      rw [if_neg]
      rintro ⟨h1, h2⟩
      exact h2 (decide_eq_decide.mpr (h n t (Nat.lt_succ_self _) e h1))
    · rfl
theorem roundS_more {ns : List Str} {ts : List (Str × Str)} {ok : Nat → Bool} {fs : List Str} (hv : ∀ t ∈ ts, TieOk ns t) : ∀ {n : Nat}, Shutd ts ok fs n ∨ cnt ns fs < cnt ns (roundS ts ok fs n)
  | 0 => .inl fun k t hk => absurd hk (Nat.not_lt_zero _)
  | n + 1 => by
    rcases roundS_more (n := n) hv with h | h
    · have e := roundS_same h
      by_cases hs : Shutd ts ok fs (n + 1)
      · exact .inl hs
      · refine .inr ?_
        show cnt ns fs < cnt ns (look ts ok (roundS ts ok fs n) n)
        rw [e]
        have hx : ∃ t, ts[n]? = some t ∧ ok n = true ∧ ¬ (t.1 ∈ fs ↔ t.2 ∈ fs) := by
          refine Classical.byContradiction fun q => hs fun k t hk ht ho => ?_
          by_cases ek : k = n
          · subst ek
            exact Classical.byContradiction fun z => q ⟨t, ht, ho, z⟩
          · exact h k t (by omega) ht ho
        obtain ⟨t, ht, ho, hne⟩ := hx
        have hok := hv t (List.mem_of_getElem? ht)
        have el : look ts ok fs n = fs ++ [t.1, t.2] := by
          unfold look
          rw [ht]
          show (if ok n = true ∧ decide (t.1 ∈ fs) ≠ decide (t.2 ∈ fs) then fs ++ [t.1, t.2] else fs) = _
          rw [if_pos ⟨ho, fun z => hne (decide_eq_decide.mp z)⟩]
        rw [el]
        by_cases h1 : t.1 ∈ fs
        · have h2 : t.2 ∉ fs := fun z => hne ⟨fun _ => z, fun _ => h1⟩
          exact cnt_lt (fun x hx => List.mem_append_left _ hx) hok.2.1 h2 (by simp)
        · exact cnt_lt (fun x hx => List.mem_append_left _ hx) hok.1 h1 (by simp)
    · exact .inr (Nat.lt_of_lt_of_le h (cnt_mono (look_sub ts ok _ n)))
theorem roundsS_shut {ns : List Str} {ts : List (Str × Str)} {ok : Nat → Bool} {s : Str} (hs : s ∈ ns) (hv : ∀ t ∈ ts, TieOk ns t) : ∀ i, Shutd ts ok (roundsS ts ok s i) ts.length ∨ i < cnt ns (roundsS ts ok s i)
  | 0 => .inr (List.length_pos_of_mem (a := s) (List.mem_filter.mpr ⟨hs, decide_eq_true (List.mem_singleton.mpr rfl)⟩))
  | i + 1 => by
    rcases roundsS_shut (i := i) hs hv with h | h
    · refine .inl ?_
      show Shutd ts ok (roundS ts ok (roundsS ts ok s i) ts.length) ts.length
      rw [roundS_same h]
      exact h
    · rcases roundS_more (n := ts.length) (ok := ok) (fs := roundsS ts ok s i) hv with g | g
      · refine .inl ?_
        show Shutd ts ok (roundS ts ok (roundsS ts ok s i) ts.length) ts.length
        rw [roundS_same g]
        exact g
      · exact .inr (Nat.lt_of_le_of_lt h g)
theorem roundsS_all {ns : List Str} {ts : List (Str × Str)} {ok : Nat → Bool} {s : Str} (hs : s ∈ ns) (hv : ∀ t ∈ ts, TieOk ns t) (x : Str) : x ∈ roundsS ts ok s ns.length ↔ Rch (Edg ts fun j => ok j = true) s x := by
  refine ⟨roundsS_rch _ x, fun h => ?_⟩
  have hsh : Shutd ts ok (roundsS ts ok s ns.length) ts.length := by
    rcases roundsS_shut hs hv ns.length with h | h
    · exact h
    · exact absurd (cnt_le ns _) (Nat.not_le_of_lt h)
  have hst : ∀ i, s ∈ roundsS ts ok s i := fun i => by
    induction i with
    | zero => exact List.mem_singleton.mpr rfl
    | succ i ih => exact roundS_sub ts ok _ _ s ih
  refine h.closed (hst _) fun a b ha ⟨k, t, hk, ht, hd⟩ => ?_
  have hi := hsh k t (List.getElem?_eq_some_iff.mp ht).1 ht hk
  rcases hd with ⟨rfl, rfl⟩ | ⟨rfl, rfl⟩
  · exact hi.mp ha
  · exact hi.mpr ha
end PW

namespace PW
open PySem PySem.Spec PyProof.Rows L2
/-! ### plain data: texts, ints, None, lists and tuples of such -/
inductive Plain : Nat → PyData → Prop
  | str {n : Nat} {x : Str} : PyData.strOk x = true → Plain n (.str x)
  | int {n : Nat} (i : Int) : Plain n (.int i)
  | non {n : Nat} : Plain n .none
  | list {n : Nat} {ds : List PyData} : (∀ d, d ∈ ds → Plain n d) → Plain (n + 1) (.list ds)
  | tuple {n : Nat} {ds : List PyData} : (∀ d, d ∈ ds → Plain n d) → Plain (n + 1) (.tuple ds)
theorem lay_all {ds : List PyData} (h : ∀ d, d ∈ ds → d.canLay0 = true) : PyData.canLayAll0 ds = true := by
  induction ds with
  | nil => rfl
  | cons x r ih =>
    show (x.canLay0 && PyData.canLayAll0 r) = true
    rw [h x List.mem_cons_self, ih fun d hd => h d (List.mem_cons_of_mem _ hd)]
    rfl
theorem depth_all {n : Nat} {ds : List PyData} (h : ∀ d, d ∈ ds → d.depth ≤ n) : PyData.depthAll ds ≤ n := by
  induction ds with
  | nil => exact Nat.zero_le _
  | cons x r ih =>
    show max x.depth (PyData.depthAll r) ≤ n
    exact Nat.max_le.mpr ⟨h x List.mem_cons_self, ih fun d hd => h d (List.mem_cons_of_mem _ hd)⟩
theorem Plain.lay {n : Nat} {d : PyData} (h : Plain n d) : d.canLay0 = true := by
  induction h with
  | str e => exact e
  | int i => rfl
  | non => rfl
  | list _ ih => exact lay_all ih
  | tuple _ ih => exact lay_all ih
theorem Plain.depth_le {n : Nat} {d : PyData} (h : Plain n d) : d.depth ≤ n := by
  induction h with
  | str e => exact Nat.zero_le _
  | int i => exact Nat.zero_le _
  | non => exact Nat.zero_le _
  | list _ ih => exact Nat.succ_le_succ (depth_all ih)
  | tuple _ ih => exact Nat.succ_le_succ (depth_all ih)
theorem Plain.shaped {n : Nat} {d : PyData} (h : Plain n d) (hn : n ≤ 64 := by decide) : SeqAt.shaped d = true := by
  unfold SeqAt.shaped
  rw [h.lay, decide_eq_true (Nat.le_trans h.depth_le hn)]
  rfl
theorem eqvAll_iff {ds es : List PyData} (h : ∀ d, d ∈ ds → ∀ e, e ∈ es → (PyData.eqv d e = true ↔ d = e)) : PyData.eqvAll ds es = true ↔ ds = es := by
  induction ds generalizing es with
  | nil =>
    cases es with
    | nil => exact ⟨fun _ => rfl, fun _ => rfl⟩
    | cons y r => exact ⟨fun z => by simp [PyData.eqvAll] at z, fun z => by cases z⟩
  | cons x r ih =>
    cases es with
    | nil => exact ⟨fun z => by simp [PyData.eqvAll] at z, fun z => by cases z⟩
    | cons y q =>
      rw [PyData.eqvAll, Bool.and_eq_true, h x List.mem_cons_self y List.mem_cons_self, ih fun d hd e he => h d (List.mem_cons_of_mem _ hd) e (List.mem_cons_of_mem _ he)]
      exact ⟨fun ⟨a, b⟩ => by rw [a, b], fun z => ⟨(List.cons.inj z).1, (List.cons.inj z).2⟩⟩
theorem Plain.eqv_iff {n : Nat} {d : PyData} (h : Plain n d) : ∀ {m : Nat} {e : PyData}, Plain m e → (PyData.eqv d e = true ↔ d = e) := by
  induction h with
  | @str n x hx =>
    intro m e g
    cases g with
    | @str _ y _ =>
      rw [PyData.eqv, beq_iff_eq]
      exact ⟨fun z => by rw [z], fun z => PyData.str.inj z⟩
    | int i => exact ⟨fun z => by simp [PyData.eqv] at z, fun z => by cases z⟩
    | non => exact ⟨fun z => by simp [PyData.eqv] at z, fun z => by cases z⟩
    | list _ => exact ⟨fun z => by simp [PyData.eqv] at z, fun z => by cases z⟩
    | tuple _ => exact ⟨fun z => by simp [PyData.eqv] at z, fun z => by cases z⟩
  | @int n i =>
    intro m e g
    cases g with
    | str _ => exact ⟨fun z => by simp [PyData.eqv] at z, fun z => by cases z⟩
    | int j =>
      rw [PyData.eqv, beq_iff_eq]
      exact ⟨fun z => by rw [z], fun z => PyData.int.inj z⟩
    | non => exact ⟨fun z => by simp [PyData.eqv] at z, fun z => by cases z⟩
    | list _ => exact ⟨fun z => by simp [PyData.eqv] at z, fun z => by cases z⟩
    | tuple _ => exact ⟨fun z => by simp [PyData.eqv] at z, fun z => by cases z⟩
  | non =>
    intro m e g
    cases g with
    | str _ => exact ⟨fun z => by simp [PyData.eqv] at z, fun z => by cases z⟩
    | int j => exact ⟨fun z => by simp [PyData.eqv] at z, fun z => by cases z⟩
    | non => exact ⟨fun _ => rfl, fun _ => rfl⟩
    | list _ => exact ⟨fun z => by simp [PyData.eqv] at z, fun z => by cases z⟩
    | tuple _ => exact ⟨fun z => by simp [PyData.eqv] at z, fun z => by cases z⟩
  | @list n ds hd ih =>
    intro m e g
    cases g with
    | str _ => exact ⟨fun z => by simp [PyData.eqv] at z, fun z => by cases z⟩
    | int j => exact ⟨fun z => by simp [PyData.eqv] at z, fun z => by cases z⟩
    | non => exact ⟨fun z => by simp [PyData.eqv] at z, fun z => by cases z⟩
    | @list m es he =>
      rw [PyData.eqv, eqvAll_iff fun d hd e he' => ih d hd (he e he')]
      exact ⟨fun z => by rw [z], fun z => PyData.list.inj z⟩
    | tuple _ => exact ⟨fun z => by simp [PyData.eqv] at z, fun z => by cases z⟩
  | @tuple n ds hd ih =>
    intro m e g
    cases g with
    | str _ => exact ⟨fun z => by simp [PyData.eqv] at z, fun z => by cases z⟩
    | int j => exact ⟨fun z => by simp [PyData.eqv] at z, fun z => by cases z⟩
    | non => exact ⟨fun z => by simp [PyData.eqv] at z, fun z => by cases z⟩
    | list _ => exact ⟨fun z => by simp [PyData.eqv] at z, fun z => by cases z⟩
    | @tuple m es he =>
      rw [PyData.eqv, eqvAll_iff fun d hd e he' => ih d hd (he e he')]
      exact ⟨fun z => by rw [z], fun z => PyData.tuple.inj z⟩
theorem Plain.eqv_self {n : Nat} {d : PyData} (h : Plain n d) : PyData.eqv d d = true := (h.eqv_iff h).mpr rfl
theorem Plain.eqv_ne {n m : Nat} {d e : PyData} (h : Plain n d) (g : Plain m e) (ne : d ≠ e) : PyData.eqv d e = false := by
  cases z : PyData.eqv d e with
  | false => rfl
  | true => exact absurd ((h.eqv_iff g).mp z) ne
/-! ### what stands in the heap, as data -/
theorem dp_map {α : Type} {K : PySem.W.Frag} {H : Hp} {f : α → V} {g : α → PyData} : ∀ {xs : List α}, (∀ x, x ∈ xs → Dp K H (f x) (g x)) → DpAll K H (xs.map f) (xs.map g)
  | [], _ => .nil
  | x :: r, h => .cons (h x List.mem_cons_self) (dp_map fun y hy => h y (List.mem_cons_of_mem _ hy))
def dS (xs : List Str) : PyData := .list (xs.map PyData.str)
def dSS (xs : List (List Str)) : PyData := .list (xs.map dS)
theorem dp_strs {K : PySem.W.Frag} {H : Hp} {a : Addr} {xs : List Str} (h : SqL K H a (xs.map V.str)) : Dp K H (.ref a) (dS xs) := .lst h (dp_map fun x _ => .str x)
theorem strOk_name {x : Str} (h : IsName x) : PyData.strOk x = true := by
  obtain ⟨l, rfl, _, _, hc⟩ := h
  unfold PyData.strOk
  have : (SX.S l).cps = l.toArray := rfl
  simp only [this]
  rw [Array.all_eq_true_iff_forall_mem]
  intro c hcm
  have := hc c (by simpa using hcm)
  unfold Code at this
  simp
  omega
theorem plain_dS {xs : List Str} (h : ∀ x ∈ xs, IsName x) : Plain 1 (dS xs) := .list fun d hd => by
  obtain ⟨x, hx, rfl⟩ := List.mem_map.mp hd
  exact .str (strOk_name (h x hx))
theorem plain_dSS {xs : List (List Str)} (h : ∀ l ∈ xs, ∀ x ∈ l, IsName x) : Plain 2 (dSS xs) := .list fun d hd => by
  obtain ⟨x, hx, rfl⟩ := List.mem_map.mp hd
  exact plain_dS (h x hx)
theorem map_inj {α β : Type} {f : α → β} (hf : ∀ a b, f a = f b → a = b) : ∀ {xs ys : List α}, xs.map f = ys.map f → xs = ys
  | [], [], _ => rfl
  | [], _ :: _, h => by cases h
  | _ :: _, [], h => by cases h
  | x :: xs, y :: ys, h => by
    rw [List.map_cons, List.map_cons] at h
    obtain ⟨h1, h2⟩ := List.cons.inj h
    rw [hf _ _ h1, map_inj hf h2]
theorem dS_inj {xs ys : List Str} (h : dS xs = dS ys) : xs = ys := map_inj (fun _ _ z => PyData.str.inj z) (PyData.list.inj h)
theorem dSS_inj {xs ys : List (List Str)} (h : dSS xs = dSS ys) : xs = ys := map_inj (fun _ _ z => dS_inj z) (PyData.list.inj h)
/-- lists of texts at addresses -/
abbrev Als := List (Addr × List Str)
def Als.vals (l : Als) : List V := l.map fun c => V.ref c.1
def Als.lists (l : Als) : List (List Str) := l.map fun c => c.2
def LstsAt (H : Hp) (l : Als) : Prop := ∀ c ∈ l, H c.1 = some (.lst (c.2.map V.str))
theorem LstsAt.same {H H' : Hp} {l : Als} (h : LstsAt H l) (e : Same H H') : LstsAt H' l := fun c hc => e _ _ (h c hc)
theorem dp_als {K : PySem.W.Frag} {H : Hp} {a : Addr} {l : Als} (h : SqL K H a l.vals) (g : LstsAt H l) : Dp K H (.ref a) (dSS l.lists) := by
  unfold dSS Als.lists
  rw [List.map_map]
  exact .lst h (dp_map fun c hc => dp_strs (SqL.of (g c hc)))
theorem Als.vals_len (l : Als) : l.vals.length = l.length := by
  unfold Als.vals
  rw [List.length_map]
theorem Als.vals_snoc (l : Als) (x : Addr × List Str) : Als.vals (l ++ [x]) = l.vals ++ [V.ref x.1] := by
  unfold Als.vals
  rw [List.map_append]
  rfl
theorem Als.lists_snoc (l : Als) (x : Addr × List Str) : Als.lists (l ++ [x]) = l.lists ++ [x.2] := by
  unfold Als.lists
  rw [List.map_append]
  rfl
theorem Als.vals_at {l : Als} {i : Nat} {v : V} (h : l.vals[i]? = some v) : ∃ x, l[i]? = some x ∧ v = V.ref x.1 := by
  unfold Als.vals at h
  rw [List.getElem?_map] at h
  cases e : l[i]? with
  | none =>
    rw [e] at h
    cases h
  | some x =>
    rw [e] at h
    exact ⟨x, rfl, (Option.some.inj h).symm⟩
def dI (xs : List Int) : PyData := .list (xs.map PyData.int)
theorem dp_ints {K : PySem.W.Frag} {H : Hp} {a : Addr} {xs : List Int} (h : SqL K H a (xs.map V.int)) : Dp K H (.ref a) (dI xs) := .lst h (dp_map fun x _ => .int x)
theorem plain_dI (xs : List Int) : Plain 1 (dI xs) := .list fun d hd => by
  obtain ⟨x, _, rfl⟩ := List.mem_map.mp hd
  exact .int x
theorem dI_inj {xs ys : List Int} (h : dI xs = dI ys) : xs = ys := map_inj (fun _ _ z => PyData.int.inj z) (PyData.list.inj h)
end PW

namespace PW
open PySem PySem.Spec PyProof.Rows L2
def spInOrder (K : PySem.W.Frag) : Sp := fun vs H Q _ => ∃ (x a : Addr) (ns : List Str) (ats : Ats) (xs : List Str), vs = [.ref x, .ref a] ∧ WebAt K H x ns ats ∧ ns.length ≤ 1000 ∧ (SqL K H a (xs.map V.str) ∨ SqT K H a (xs.map V.str)) ∧
  ∀ r H', H r = none → Same H H' → H' r = some (.lst ((ns.filter fun z => decide (z ∈ xs)).map V.str)) → Q (.ref r) H'
def spFarEnd (K : PySem.W.Frag) : Sp := fun vs H Q _ => ∃ (t : Addr) (u v z : Str), vs = [.ref t, .str z] ∧ SqT K H t [.str u, .str v] ∧ Q (.str (if u = z then v else u)) H
def spHanging (K : PySem.W.Frag) : Sp := fun vs H Q _ => ∃ (x l : Addr) (s : Str) (ns : List Str) (ats : Ats) (left : List Int), vs = [.ref x, .str s, .ref l] ∧ WebAt K H x ns ats ∧ WebOk ns ats ∧ s ∈ ns ∧ SqL K H l (left.map V.int) ∧ (∀ i ∈ left, 0 ≤ i ∧ i < (ats.length : Int)) ∧ left.length ≤ 1000 ∧
  ∀ r H', H r = none → Same H H' → H' r = some (.lst ((hangL ns (Edg ats.ties fun k => (k : Int) ∈ left) s).map V.str)) → Q (.ref r) H'
theorem same_filter {ns xs : List Str} (i : Nat) {z : Str} (h : ns[i]? = some z) : ((ns.take (i + 1)).filter fun z => decide (z ∈ xs)) = if z ∈ xs then ((ns.take i).filter fun z => decide (z ∈ xs)) ++ [z] else ((ns.take i).filter fun z => decide (z ∈ xs)) := by
  rw [take_snoc h, List.filter_append, List.filter_cons, List.filter_nil]
  by_cases hz : z ∈ xs
  · rw [decide_eq_true hz, if_pos hz]
    rfl
  · rw [decide_eq_false hz, if_neg hz]
    simp
def upTo (n : Nat) : List Int := (List.range n).map fun (i : Nat) => (0 : Int) + (i : Int)
theorem rgV_upTo (n : Nat) : rgV 0 (n : Int) = (upTo n).map V.int := by
  unfold rgV upTo
  rw [List.map_map, show ((n : Int) - 0).toNat = n by omega]
  rfl
theorem mem_upTo {n : Nat} {i : Int} : i ∈ upTo n ↔ 0 ≤ i ∧ i < (n : Int) := by
  unfold upTo
  rw [List.mem_map]
  constructor
  · rintro ⟨k, hk, rfl⟩
    have := List.mem_range.mp hk
    omega
  · rintro ⟨h0, h1⟩
    exact ⟨i.toNat, List.mem_range.mpr (by omega), by omega⟩
theorem upTo_len (n : Nat) : (upTo n).length = n := by
  unfold upTo
  rw [List.length_map, List.length_range]
theorem Ats.ties_len (l : Ats) : l.ties.length = l.length := by
  unfold Ats.ties
  rw [List.length_map]
theorem edg_upTo (ats : Ats) : Edg ats.ties (fun k => (k : Int) ∈ upTo ats.length) = Edg ats.ties fun _ => True := Edg.congr fun k hk => by
  rw [Ats.ties_len] at hk
  exact ⟨fun _ => trivial, fun _ => mem_upTo.mpr ⟨by omega, by omega⟩⟩
/-- the clusters as they are made one by one -/
noncomputable def clusFrom (ns : List Str) (E : Str → Str → Prop) (acc : List (List Str)) : List Str → List (List Str)
  | [] => acc
  | p :: r => clusFrom ns E (if acc.any (fun c => decide (p ∈ c)) = true then acc else acc ++ [hangL ns E p]) r
noncomputable def clusL (ns : List Str) (E : Str → Str → Prop) : List (List Str) := clusFrom ns E [] ns
def spClusters (K : PySem.W.Frag) : Sp := fun vs H Q _ => ∃ (x : Addr) (ns : List Str) (ats : Ats), vs = [.ref x] ∧ WebAt K H x ns ats ∧ WebOk ns ats ∧
  ∀ r (cs : Als) H', Same H H' → H r = none → (∀ c ∈ cs, H c.1 = none ∧ c.1 ≠ r) → H' r = some (.lst cs.vals) → LstsAt H' cs → cs.lists = clusL ns (Edg ats.ties fun _ => True) → Q (.ref r) H'
theorem clusFrom_take (ns : List Str) (E : Str → Str → Prop) : ∀ (ps : List Str) (acc : List (List Str)) (i : Nat) (p : Str), ps[i]? = some p →
    clusFrom ns E acc (ps.take (i + 1)) = (if (clusFrom ns E acc (ps.take i)).any (fun c => decide (p ∈ c)) = true then clusFrom ns E acc (ps.take i) else clusFrom ns E acc (ps.take i) ++ [hangL ns E p])
  | [], acc, i, p, h => by simp at h
  | q :: r, acc, 0, p, h => by
    have e : q = p := Option.some.inj h
    subst e
    rfl
  | q :: r, acc, i + 1, p, h => clusFrom_take ns E r _ i p h
theorem clusFrom_len (ns : List Str) (E : Str → Str → Prop) : ∀ (ps : List Str) (acc : List (List Str)), (clusFrom ns E acc ps).length ≤ acc.length + ps.length
  | [], acc => Nat.le_refl _
  | q :: r, acc => by
    refine Nat.le_trans (clusFrom_len ns E r _) ?_
    rw [List.length_cons]
    split
    · omega
    · rw [List.length_append, List.length_singleton]
      omega
end PW

namespace PW
open PySem PySem.Spec PyProof.Rows L2
theorem look_len (ts : List (Str × Str)) (ok : Nat → Bool) (fs : List Str) (k : Nat) : (look ts ok fs k).length ≤ fs.length + 2 := by
  unfold look
  split
  · split
    · rw [List.length_append]
      simp
    · omega
  · omega
theorem roundS_len (ts : List (Str × Str)) (ok : Nat → Bool) (fs : List Str) : ∀ k, (roundS ts ok fs k).length ≤ fs.length + 2 * k
  | 0 => Nat.le_refl _
  | k + 1 => by
    have h1 := roundS_len ts ok fs k
    have h2 := look_len ts ok (roundS ts ok fs k) k
    show (look ts ok (roundS ts ok fs k) k).length ≤ _
    omega
theorem roundsS_len (ts : List (Str × Str)) (ok : Nat → Bool) (s : Str) (hl : ts.length ≤ 20) : ∀ i, (roundsS ts ok s i).length ≤ 1 + 40 * i
  | 0 => Nat.le_refl _
  | i + 1 => by
    have h1 := roundsS_len ts ok s hl i
    have h2 := roundS_len ts ok (roundsS ts ok s i) ts.length
    show (roundS ts ok (roundsS ts ok s i) ts.length).length ≤ _
    omega
def goneB (g : V) (k : Nat) : Bool := !decide (V.int (k : Int) = g)
def spLawHang (K : PySem.W.Frag) : Sp := fun vs H Q _ => ∃ (w a b : Addr) (s : Str) (g : V) (ns : List Str) (ats : Ats), vs = [.ref w, .str s, g] ∧ H w = some (.tup [.ref a, .ref b]) ∧ H a = some (.lst (ns.map V.str)) ∧ H b = some (.lst ats.vals) ∧ TupsAt H ats ∧ WebOk ns ats ∧ s ∈ ns ∧
  (g = .non ∨ ∃ n, g = .int n) ∧ ∀ r H', H r = none → Same H H' → H' r = some (.lst ((hangL ns (Edg ats.ties fun k => goneB g k = true) s).map V.str)) → Q (.ref r) H'
end PW

namespace PW
open PySem PySem.Spec PyProof.Rows L2
theorem ok_law_hang {P : Program} {w : World} {K : PySem.W.Frag} {mg : Str → Option Value} {base : Heap} (T : Top K mg) :
    C8.Cal P w K mg base 1 "_law_hang" (spLawHang K) [] := by
  refine cal_of (fd_law_hang T) (g_law_hang T) sc_law_hang bi_law_hang (fun vs H Q E h => ?_) (fun cdv A outer s H vs Q E hr h => ?_)
  · obtain ⟨w₀, a, b, s₀, g, ns, ats, rfl, _⟩ := h
    rfl
  · obtain ⟨w₀, a, b, s₀, g, ns, ats, rfl, hw, ha, hb, hT, ok, hs, hg, q⟩ := h
    refine ⟨_, (pss_cons (ps_set (i := 3) sc_law_hang.nd rfl (by first | exact Or.inl rfl | exact Or.inr rfl) (pe_lst (pa_cons (pv 1) pa_nil)))
      (pss_cons (ps_for PassesOwn.never rfl (pi_list (pe_ix (ixT (K := K)) (pv 0) pe_int (fun _ _ => rfl))) (pg_name (i := 4) sc_law_hang.nd rfl (by first | exact Or.inl rfl | exact Or.inr rfl)) (pss_one (ps_for PassesOwn.never rfl (pi_enum (by rfl) (f_enumerate T) (pa_cons (pe_ix (ixT (K := K)) (pv 0) pe_int (fun _ _ => rfl)) pa_nil)) (pg_tup (n := 2) rfl (pgs_cons (pg_name (i := 5) sc_law_hang.nd rfl (by first | exact Or.inl rfl | exact Or.inr rfl)) (pgs_cons (pg_tup (n := 2) rfl (pgs_cons (pg_name (i := 6) sc_law_hang.nd rfl (by first | exact Or.inl rfl | exact Or.inr rfl)) (pgs_cons (pg_name (i := 7) sc_law_hang.nd rfl (by first | exact Or.inl rfl | exact Or.inr rfl)) pgs_nil))) pgs_nil))) (pss_one (ps_if (PW.pt (pw_and (pt_cmpR op_ne (pv 5) (pv 2) (nomark _)) (pw_and1 (pt_cmpR op_ne (pe_cmpR (inSeq (K := K)) (pv 6) (pv 3) (by with_unfolding_all rfl)) (pe_cmpR (inSeq (K := K)) (pv 7) (pv 3) (by with_unfolding_all rfl)) (nomark _))))) (pss_one (ps_set (i := 3) sc_law_hang.nd rfl (by first | exact Or.inl rfl | exact Or.inr rfl) (pe_op op_cat (pv 3) (pe_lst (pa_cons (pv 6) (pa_cons (pv 7) pa_nil)))))) pss_nil)))))
      (pss_one (ps_ret (pe_lc (own := [("_law_name", 8)]) (g := gName 8) (by rfl) sc_law_hang.nd (pi_list (pe_ix (ixT (K := K)) (pv 0) pe_int (fun _ _ => rfl))) (blkOk_by (own := [("_law_name", 8)]) (N := ["_law_web_here", "_law_start", "_law_gone", "_law_found", "_law_turn", "_law_k", "_law_a", "_law_b", "_law_name"]) (sc := defScope s_law_hang) (by decide +kernel)) (fun _ _ _ _ _ => (pg_name (i := 8) sc_law_hang.nd rfl (by first | exact Or.inl rfl | exact Or.inr rfl))) (fun _ _ _ _ _ => (pts_one (pt_cmpR (inSeq (K := K)) (pv 8) (pv 3) (by with_unfolding_all rfl)))) (fun _ _ _ _ _ => (pv 8))))))), ?_⟩
    have hv : ∀ t ∈ ats.ties, TieOk ns t := fun t ht => by
      obtain ⟨y, hy, rfl⟩ := List.mem_map.mp ht
      exact ok.ties y hy
    have h20 := ok.t20
    have hn9 := ok.n9
    have htl := Ats.ties_len ats
    refine ⟨_, rfl, (by show 1 ≤ sizeLine; decide), fun f0 nf0 => ?_⟩
    refine ⟨_, rfl, w₀, _, 0, _, rfl, rfl, SqT.of (same_new nf0 _ _ hw), rfl, a, rfl, ⟨_, SqL.of (same_new nf0 _ _ ha)⟩, ?_⟩
    refine for_list (K := K) (a := a) (xs := ns.map V.str) (fun i σ Hc => ∃ (fo : Addr) (y4 y5 y6 y7 : Option V), σ = [some (.ref w₀), some (.str s₀), some g, some (.ref fo), y4, y5, y6, y7, none] ∧ Same H Hc ∧ Hc fo = some (.lst ((roundsS ats.ties (goneB g) s₀ i).map V.str)))
      ⟨f0, none, none, none, none, rfl, same_new nf0, upd_same⟩ (fun i σ Hc _ ⟨_, _, _, _, _, _, z, _⟩ => SqL.of (z _ _ ha)) ?_ ?_
    · rintro i v σ Hc hi ⟨fo, y4, y5, y6, y7, rfl, sm, ef⟩
      have hil := (List.getElem?_eq_some_iff.mp hi).1
      rw [List.length_map] at hil
      have hrl := roundsS_len ats.ties (goneB g) s₀ (by omega) i
      refine ⟨_, rfl, w₀, _, 1, _, rfl, rfl, SqT.of (sm _ _ hw), rfl, b, _, rfl, SqL.of (sm _ _ hb), ?_⟩
      refine for_it (walk_enum (K := K) (a := b) (xs := ats.vals)) (fun k σ Hd => ∃ (fo : Addr) (y5 y6 y7 : Option V), σ = [some (.ref w₀), some (.str s₀), some g, some (.ref fo), some v, y5, y6, y7, none] ∧ Same H Hd ∧ Hd fo = some (.lst ((roundS ats.ties (goneB g) (roundsS ats.ties (goneB g) s₀ i) k).map V.str)))
        ⟨fo, _, _, _, rfl, sm, ef⟩ (fun k σ Hd _ ⟨_, _, _, _, _, z, _⟩ => SqL.of (z _ _ hb)) ?_ ?_
      · rintro k v' σ Hd Hd' hk ⟨fo, y5, y6, y7, rfl, smd, efd⟩ ⟨T', x1, x2, rfl, nT, rfl, e1, e2⟩
        cases e1
        obtain ⟨⟨A', u, w'⟩, hA, rfl⟩ := Ats.vals_at e2
        have hm := List.mem_of_getElem? hA
        have hTA : Hd A' = some (.tup [.str u, .str w']) := smd _ _ (hT _ hm)
        have gts : ats.ties[k]? = some (u, w') := by
          unfold Ats.ties
          rw [List.getElem?_map, hA]
          rfl
        have s1 : Same Hd (upd Hd T' (.tup [.int (k : Nat), .ref A'])) := same_new nT
        have smd1 := smd.trans s1
        have efd1 := s1 _ _ efd
        have hrk := roundS_len ats.ties (goneB g) (roundsS ats.ties (goneB g) s₀ i) k
        have hkl : k < ats.length := by
          rw [Ats.vals_len] at hk
          exact hk
        have elook : roundS ats.ties (goneB g) (roundsS ats.ties (goneB g) s₀ i) (k + 1) = look ats.ties (goneB g) (roundS ats.ties (goneB g) (roundsS ats.ties (goneB g) s₀ i) k) k := rfl
        generalize hfs : roundS ats.ties (goneB g) (roundsS ats.ties (goneB g) s₀ i) k = fs at elook efd1 hrk
        have elook2 : look ats.ties (goneB g) fs k = if goneB g k = true ∧ decide (u ∈ fs) ≠ decide (w' ∈ fs) then fs ++ [u, w'] else fs := by
          unfold look
          rw [gts]
        rw [elook2] at elook
        refine ⟨T', _, rfl, SqT.of upd_same, rfl, _, _, rfl, _, _, rfl, A', _, rfl, SqT.of (s1 _ _ hTA), rfl, _, _, rfl, _, _, rfl, rfl, rfl, ?_⟩
        refine ⟨_, rfl, _, rfl, ?_, _, rfl, ?_⟩
        · rcases hg with rfl | ⟨n, rfl⟩ <;> rfl
        show if goneB g k = true then _ else _
        refine ite2 (fun c1 => ?_) (fun c1 => ?_)
        · refine ⟨_, rfl, _, rfl, fo, _, rfl, .inl (SqL.of efd1), rfl, flat_strs fs, _, rfl, _, rfl, fo, _, rfl, .inl (SqL.of efd1), rfl, flat_strs fs, rfl, _, rfl, ?_⟩
          show if (!decide (V.bl (inV (.str u) (fs.map V.str)) = V.bl (inV (.str w') (fs.map V.str)))) = true then _ else _
          rw [inV_strs, inV_strs]
          refine ite2 (fun c2 => ?_) (fun c2 => ?_)
          · have c3 : decide (u ∈ fs) ≠ decide (w' ∈ fs) := fun z => by
              rw [z, decide_eq_true rfl] at c2
              cases c2
            rw [if_pos ⟨c1, c3⟩] at elook
            refine ⟨_, rfl, _, rfl, _, rfl, (by show 2 ≤ sizeLine; decide), fun L nL => ⟨fo, L, _, _, rfl, rfl, same_new nL _ _ efd1, upd_same, ?_, fun p np => ?_⟩⟩
            · rw [List.length_map]
              exact small_size (by show fs.length + 2 ≤ 1000; omega)
            · refine ⟨p, _, _, _, rfl, (smd1.next nL).next np, ?_⟩
              rw [upd_same, elook, List.map_append]
              rfl
          · have c3 : ¬ (goneB g k = true ∧ decide (u ∈ fs) ≠ decide (w' ∈ fs)) := fun z => c2 (by
              rw [decide_eq_false (fun e => z.2 (V.bl.inj e))]
              rfl)
            rw [if_neg c3] at elook
            refine ⟨fo, _, _, _, rfl, smd1, ?_⟩
            rw [elook]
            exact efd1
        · rw [if_neg fun z => c1 z.1] at elook
          refine ⟨fo, _, _, _, rfl, smd1, ?_⟩
          rw [elook]
          exact efd1
      · rintro σ Hd ⟨fo, y5, y6, y7, rfl, smd, efd⟩
        refine ⟨fo, _, _, _, _, rfl, smd, ?_⟩
        rw [efd, Ats.vals_len, ← htl]
        rfl
    · rintro σ Hc ⟨fo, y4, y5, y6, y7, rfl, sm, ef⟩
      rw [List.length_map] at ef
      generalize hfs : roundsS ats.ties (goneB g) s₀ ns.length = fs at ef
      refine ⟨_, rfl, w₀, _, 0, _, rfl, rfl, SqT.of (sm _ _ hw), rfl, a, rfl, ⟨_, SqL.of (sm _ _ ha)⟩, fun D nD => ?_⟩
      have fD := sm.free nD
      have nfD : fo ≠ D := ne_of_none ef nD
      refine lc_list (K := K) (a := a) (xs := ns.map V.str) (fun i Hc => Same H Hc ∧ Hc fo = some (.lst (fs.map V.str)) ∧ Hc D = some (.lst (((ns.take i).filter fun z => decide (z ∈ fs)).map V.str)))
        ⟨sm.next nD, by rw [upd_ne nfD]; exact ef, upd_same⟩ (fun i Hc _ z => SqL.of (z.1 _ _ ha)) ?_ ?_
      · rintro i v Hc hi ⟨sm, ef, eD⟩
        obtain ⟨z, hz, rfl⟩ := strs_at hi
        have hil := (List.getElem?_eq_some_iff.mp hz).1
        refine ⟨rfl, _, rfl, _, rfl, fo, _, rfl, .inl (SqL.of ef), rfl, flat_strs fs, _, rfl, ?_⟩
        show if inV (.str z) (fs.map V.str) = true then _ else _
        rw [inV_strs]
        have e := same_filter (xs := fs) i hz
        refine ite2 (fun hin => ?_) (fun hin => ?_)
        · rw [if_pos (of_decide_eq_true hin)] at e
          refine ⟨_, rfl, _, eD, ?_, sm.into fD, ?_, ?_⟩
          · rw [List.length_map]
            refine small1000 (Nat.le_trans (List.length_filter_le ..) ?_)
            rw [List.length_take]
            omega
          · rw [upd_ne nfD]
            exact ef
          · rw [upd_same, e, List.map_append]
            rfl
        · rw [if_neg fun z => hin (decide_eq_true z)] at e
          refine ⟨sm, ef, ?_⟩
          rw [e]
          exact eD
      · rintro Hc ⟨sm, ef, eD⟩
        rw [List.length_map, List.take_length, ← hfs, filter_hang fun x _ => roundsS_all hs hv x] at eD
        exact q D Hc fD sm eD
end PW

namespace PW
open PySem PySem.Spec PyProof.Rows L2
theorem ok_in_order {P : Program} {w : World} {K : PySem.W.Frag} {mg : Str → Option Value} {base : Heap} (T : Top K mg) :
    C8.Cal P w K mg base 2 "in_order" (spInOrder K) [] := by
  refine cal_of (fd_in_order T) (g_in_order T) sc_in_order bi_in_order (fun vs H Q E h => ?_) (fun cdv A outer s H vs Q E hr h => ?_)
  · obtain ⟨x, a, ns, ats, xs, rfl, _⟩ := h
    rfl
  · obtain ⟨x, a, ns, ats, xs, rfl, hW, hlen, hS, q⟩ := h
    refine ⟨_, (pss_one (ps_ret (pe_lc (own := [("point", 2)]) (g := gName 2) (by rfl) sc_in_order.nd (pi_list (C8.pe_mt0 (ok_Web_points T) hr (by decide) (pv 0))) (blkOk_by (own := [("point", 2)]) (N := ["web", "points", "point"]) (sc := defScope s_in_order) (by decide +kernel)) (fun _ _ _ _ _ => (pg_name (i := 2) sc_in_order.nd rfl (by first | exact Or.inl rfl | exact Or.inr rfl))) (fun _ _ _ _ _ => (pts_one (pt_cmpR (inSeq (K := K)) (pv 2) (pv 1) (by with_unfolding_all rfl)))) (fun _ _ _ _ _ => (pv 2))))), ?_⟩
    obtain ⟨dx, wa, wb, h1, h2, h3, h4⟩ := id hW
    refine ⟨_, rfl, x, dx, _, rfl, h1, wf_mp _ _, x, ns, ats, rfl, hW, fun l nl => ⟨l, rfl, ⟨_, SqL.of upd_same⟩, fun D nD => ?_⟩⟩
    have fl : H l = none := nl
    have s1 : Same H (upd H l (.lst (ns.map V.str))) := same_new nl
    have fD := s1.free nD
    have nDl : l ≠ D := fun e => by
      rw [← e, upd_same] at nD
      cases nD
    refine lc_list (K := K) (a := l) (xs := ns.map V.str) (fun i Hc => Same H Hc ∧ Hc l = some (.lst (ns.map V.str)) ∧ Hc D = some (.lst (((ns.take i).filter fun z => decide (z ∈ xs)).map V.str)))
      ⟨s1.next nD, by rw [upd_ne nDl]; exact upd_same, upd_same⟩ (fun i Hc _ z => SqL.of z.2.1) ?_ ?_
    · rintro i v Hc hi ⟨sm, el, eD⟩
      obtain ⟨z, hz, rfl⟩ := strs_at hi
      have hil := (List.getElem?_eq_some_iff.mp hz).1
      have hS' : SqL K Hc a (xs.map V.str) ∨ SqT K Hc a (xs.map V.str) := hS.imp sm.seq sm.seqT
      refine ⟨rfl, _, rfl, _, rfl, a, _, rfl, hS', rfl, flat_strs xs, _, rfl, ?_⟩
      show if inV (.str z) (xs.map V.str) = true then _ else _
      rw [inV_strs]
      have e := same_filter (xs := xs) i hz
      refine ite2 (fun hin => ?_) (fun hin => ?_)
      · rw [if_pos (of_decide_eq_true hin)] at e
        refine ⟨_, rfl, _, eD, ?_, sm.into fD, ?_, ?_⟩
        · rw [List.length_map]
          refine small1000 (Nat.le_trans (List.length_filter_le ..) ?_)
          rw [List.length_take]
          omega
        · rw [upd_ne nDl]
          exact el
        · rw [upd_same, e, List.map_append]
          rfl
      · rw [if_neg fun z => hin (decide_eq_true z)] at e
        refine ⟨sm, el, ?_⟩
        rw [e]
        exact eD
    · rintro Hc ⟨sm, el, eD⟩
      rw [List.length_map, List.take_length] at eD
      exact q D Hc fD sm eD
theorem ok_far_end {P : Program} {w : World} {K : PySem.W.Frag} {mg : Str → Option Value} {base : Heap} (T : Top K mg) :
    C8.Cal P w K mg base 1 "far_end" (spFarEnd K) [] := by
  refine cal_of (fd_far_end T) (g_far_end T) sc_far_end bi_far_end (fun vs H Q E h => ?_) (fun cdv A outer s H vs Q E hr h => ?_)
  · obtain ⟨t, u, v, z, rfl, _⟩ := h
    rfl
  · obtain ⟨t, u, v, z, rfl, ht, q⟩ := h
    refine ⟨_, (pss_cons (ps_if (pt_cmpR op_eq (pe_ix (ixT (K := K)) (pv 0) pe_int (fun _ _ => rfl)) (pv 1) (nomark _)) (pss_one (ps_ret (pe_ix (ixT (K := K)) (pv 0) pe_int (fun _ _ => rfl)))) pss_nil)
      (pss_one (ps_ret (pe_ix (ixT (K := K)) (pv 0) pe_int (fun _ _ => rfl))))), ?_⟩
    refine ⟨_, rfl, t, _, 0, _, rfl, rfl, ht, rfl, _, rfl, rfl, _, rfl, ite2 (fun e => ?_) (fun e => ?_)⟩
    · have e1 : u = z := V.str.inj (of_decide_eq_true e)
      rw [if_pos e1] at q
      exact ⟨_, rfl, t, _, 1, _, rfl, rfl, ht, rfl, q⟩
    · have e1 : ¬ u = z := fun h => e (decide_eq_true (by rw [h]))
      rw [if_neg e1] at q
      exact ⟨_, rfl, t, _, 0, _, rfl, rfl, ht, rfl, q⟩
theorem ok_hanging {P : Program} {w : World} {K : PySem.W.Frag} {mg : Str → Option Value} {base : Heap} (T : Top K mg) :
    C8.Cal P w K mg base 3 "hanging" (spHanging K) [] := by
  refine cal_of (fd_hanging T) (g_hanging T) sc_hanging bi_hanging (fun vs H Q E h => ?_) (fun cdv A outer s H vs Q E hr h => ?_)
  · obtain ⟨x, l, s₀, ns, ats, left, rfl, _⟩ := h
    rfl
  · obtain ⟨x, l, s₀, ns, ats, left, rfl, hW, ok, hs, hl, hin, hll, q⟩ := h
    refine ⟨_, (pss_cons (ps_set (i := 3) sc_hanging.nd rfl (by first | exact Or.inl rfl | exact Or.inr rfl) (C8.pe_mt0 (ok_Web_ties T) hr (by decide) (pv 0)))
      (pss_cons (ps_set (i := 4) sc_hanging.nd rfl (by first | exact Or.inl rfl | exact Or.inr rfl) (pe_lst (pa_cons (pv 1) pa_nil)))
      (pss_cons (ps_set (i := 5) sc_hanging.nd rfl (by first | exact Or.inl rfl | exact Or.inr rfl) pe_int)
      (pss_cons (ps_while PassesOwn.never (pt_cmpR op_lt (pv 5) (pe_callB (lenK (K := K)) (by rfl) (f_len T) PySem.boot_len (pa_cons (pv 4) pa_nil)) (nomark _)) (pss_cons (ps_set (i := 6) sc_hanging.nd rfl (by first | exact Or.inl rfl | exact Or.inr rfl) (pe_ix (ixL (K := K)) (pv 4) (pv 5) (fun _ _ => rfl)))
      (pss_cons (ps_for PassesOwn.never rfl (pi_list (pv 2)) (pg_name (i := 7) sc_hanging.nd rfl (by first | exact Or.inl rfl | exact Or.inr rfl)) (pss_one (ps_if (PW.pt (pw_and (pt_cmpR (inSeq (K := K)) (pv 6) (pe_ix (ixL (K := K)) (pv 3) (pv 7) (fun _ _ => rfl)) (by with_unfolding_all rfl)) (pw_and1 (pt_cmpR (notInSeq (K := K)) (C8.pe_c (ok_far_end T) hr (by decide) (by rfl) (pa_cons (pe_ix (ixL (K := K)) (pv 3) (pv 7) (fun _ _ => rfl)) (pa_cons (pv 6) pa_nil))) (pv 4) (by with_unfolding_all rfl))))) (pss_one (ps_expr (pe_bm PySem.F.plainAttrs_list PySem.F.slot_list_append PySem.F.type_list_append mt_append (pv 4) (pa_cons (C8.pe_c (ok_far_end T) hr (by decide) (by rfl) (pa_cons (pe_ix (ixL (K := K)) (pv 3) (pv 7) (fun _ _ => rfl)) (pa_cons (pv 6) pa_nil))) pa_nil)))) pss_nil)))
      (pss_one (ps_aug (i := 5) sc_hanging.nd rfl (by first | exact Or.inl rfl | exact Or.inr rfl) pe_int ip_add)))))
      (pss_one (ps_ret (C8.pe_c (ok_in_order T) hr (by decide) (by rfl) (pa_cons (pv 0) (pa_cons (pv 4) pa_nil))))))))), ?_⟩
    obtain ⟨dx, wa, wb, h1, h2, h3, h4⟩ := id hW
    have hv : ∀ t ∈ ats.ties, TieOk ns t := fun t ht => by
      obtain ⟨y, hy, rfl⟩ := List.mem_map.mp ht
      exact ok.ties y hy
    have h20 := ok.t20
    have hn9 := ok.n9
    refine ⟨_, rfl, x, dx, _, rfl, h1, wf_mt _ _, x, ns, ats, rfl, hW, fun tl ntl => ⟨_, rfl, (by show 1 ≤ sizeLine; decide), fun mt nmt => ?_⟩⟩
    have s1 : Same H (upd H tl (.lst ats.vals)) := same_new ntl
    have fmt := s1.free nmt
    have nmtl : tl ≠ mt := fun e => by
      rw [← e, upd_same] at nmt
      cases nmt
    refine ⟨fun m σ Hc => ∃ (ms : List Str) (k : Nat) (y6 y7 : Option V), σ = [some (.ref x), some (.str s₀), some (.ref l), some (.ref tl), some (.ref mt), some (.int k), y6, y7] ∧ m = ns.length - k ∧ k ≤ ms.length ∧
      Bfs ns (Edg ats.ties fun k => (k : Int) ∈ left) s₀ ms k ∧ Same H Hc ∧ Hc tl = some (.lst ats.vals) ∧ Hc mt = some (.lst (ms.map V.str)),
      ⟨_, [s₀], 0, none, none, rfl, rfl, Nat.zero_le _, Bfs.init hs, s1.next nmt, by rw [upd_ne nmtl]; exact upd_same, upd_same⟩, ?_⟩
    rintro m σ Hc ⟨ms, k, y6, y7, rfl, rfl, hk, B, sm, etl, emt⟩
    have hml := B.len
    refine ⟨_, rfl, _, rfl, mt, _, rfl, .inl (SqL.of emt), _, _, rfl, rfl, _, rfl, ite2 (fun e => ?_) (fun e => ?_)⟩
    · have hkl : k < ms.length := by
        have e1 : (k : Int) < ((ms.map V.str).length : Int) := of_decide_eq_true e
        rw [List.length_map] at e1
        omega
      have gk : ms[k]? = some ms[k] := List.getElem?_eq_getElem hkl
      have gk2 : (ms.map V.str)[k]? = some (.str ms[k]) := by
        rw [List.getElem?_map, gk]
        rfl
      obtain ⟨here, hh⟩ : ∃ z, ms[k] = z := ⟨_, rfl⟩
      rw [hh] at gk gk2
      refine ⟨fun σ' H' => ∃ (ms' : List Str) (y6 y7 : Option V), σ' = [some (.ref x), some (.str s₀), some (.ref l), some (.ref tl), some (.ref mt), some (.int ((k + 1 : Nat) : Int)), y6, y7] ∧ k + 1 ≤ ms'.length ∧
        Bfs ns (Edg ats.ties fun k => (k : Int) ∈ left) s₀ ms' (k + 1) ∧ Same H H' ∧ H' tl = some (.lst ats.vals) ∧ H' mt = some (.lst (ms'.map V.str)), ?_, ?_⟩
      · rintro σ' H' ⟨ms', y6, y7, rfl, hk', B', sm', etl', emt'⟩
        exact ⟨ns.length - (k + 1), by omega, ms', k + 1, y6, y7, rfl, rfl, hk', B', sm', etl', emt'⟩
      -- here = met[at]
      refine ⟨_, rfl, _, rfl, mt, _, _, _, rfl, rfl, SqL.of emt, atI_of rfl gk2, ?_⟩
      -- for number in left
      refine ⟨_, rfl, l, rfl, ⟨_, sm.seq hl⟩, for_list (K := K) (a := l) (xs := left.map V.int) (fun j σ H' => ∃ (ms' : List Str) (y7 : Option V), σ = [some (.ref x), some (.str s₀), some (.ref l), some (.ref tl), some (.ref mt), some (.int k), some (.str here), y7] ∧
        k < ms'.length ∧ ms'[k]? = some here ∧ Bfs ns (Edg ats.ties fun k => (k : Int) ∈ left) s₀ ms' k ∧ (∀ i t, i < j → (left[i]?).bind (fun n => ats.ties[n.toNat]?) = some t → (here = t.1 → t.2 ∈ ms') ∧ (here = t.2 → t.1 ∈ ms')) ∧ Same H H' ∧ H' tl = some (.lst ats.vals) ∧ H' mt = some (.lst (ms'.map V.str)))
        ⟨ms, _, rfl, hkl, gk, B, fun i t hi => absurd hi (Nat.not_lt_zero _), sm, etl, emt⟩ (fun i σ H' _ ⟨_, _, _, _, _, _, _, z, _⟩ => z.seq hl) ?_ ?_⟩
      · rintro j v σ H' hj ⟨ms', y7, rfl, hk', gk', B', hd, sm', etl', emt'⟩
        obtain ⟨n, hn, rfl⟩ := ints_at hj
        have hb := hin n (List.mem_of_getElem? hn)
        have hnt : n.toNat < ats.length := by omega
        obtain ⟨⟨t, u, w'⟩, ht⟩ : ∃ y, ats[n.toNat]? = some y := ⟨_, List.getElem?_eq_getElem hnt⟩
        have hmt := List.mem_of_getElem? ht
        have hT := sm' _ _ (h4 _ hmt)
        have gt : ats.vals[n.toNat]? = some (.ref t) := by
          unfold Ats.vals
          rw [List.getElem?_map, ht]
          rfl
        have gts : ats.ties[n.toNat]? = some (u, w') := by
          unfold Ats.ties
          rw [List.getElem?_map, ht]
          rfl
        have hok : TieOk ns (u, w') := ok.ties _ hmt
        have en : n = ((n.toNat : Nat) : Int) := by omega
        have hml' := B'.len
        have hnew : ∀ (ms'' : List Str), (∀ z ∈ ms', z ∈ ms'') → ((here = u → w' ∈ ms'') ∧ (here = w' → u ∈ ms'')) → ∀ i t, i < j + 1 → (left[i]?).bind (fun n => ats.ties[n.toNat]?) = some t → (here = t.1 → t.2 ∈ ms'') ∧ (here = t.2 → t.1 ∈ ms'') := fun ms'' hsub h2 i t hi he => by
          by_cases ei : i = j
          · subst ei
            rw [hn] at he
            have : (u, w') = t := Option.some.inj (gts.symm.trans he)
            subst this
            exact h2
          · have := hd i t (by omega) he
            exact ⟨fun z => hsub _ (this.1 z), fun z => hsub _ (this.2 z)⟩
        -- here in ties[number]
        refine ⟨_, rfl, _, rfl, _, rfl, tl, _, _, _, rfl, rfl, SqL.of etl', atI_of en gt, t, _, rfl, .inr (SqT.of hT), rfl, rfl, _, rfl, ?_⟩
        have ein : inV (.str here) [V.str u, V.str w'] = decide (here ∈ [u, w']) := inV_strs here [u, w']
        show if inV (.str here) [V.str u, V.str w'] = true then _ else _
        rw [ein]
        refine ite2 (fun e1 => ?_) (fun e1 => ?_)
        · have e2 : here = u ∨ here = w' := by
            have := of_decide_eq_true e1
            rcases List.mem_cons.mp this with h | h
            · exact .inl h
            · exact .inr (List.mem_singleton.mp h)
          refine ⟨_, rfl, _, rfl, tl, _, _, _, rfl, rfl, SqL.of etl', atI_of en gt, _, rfl, t, u, w', here, rfl, SqT.of hT, _, rfl, mt, _, rfl, .inl (SqL.of emt'), rfl, flat_strs ms', _, rfl, ?_⟩
          show if (!inV (.str (if u = here then w' else u)) (ms'.map V.str)) = true then _ else _
          rw [inV_strs]
          obtain ⟨far, hf⟩ : ∃ z, (if u = here then w' else u) = z := ⟨_, rfl⟩
          have hfar : Edg ats.ties (fun k => (k : Int) ∈ left) here far ∧ far ∈ ns ∧ (∀ S : List Str, far ∈ S → (here = u → w' ∈ S) ∧ (here = w' → u ∈ S)) := by
            rw [← hf]
            have hmem : ((n.toNat : Nat) : Int) ∈ left := en ▸ List.mem_of_getElem? hn
            by_cases hu : u = here
            · rw [if_pos hu]
              exact ⟨⟨n.toNat, _, hmem, gts, .inl ⟨hu.symm, rfl⟩⟩, hok.2.1, fun S hS => ⟨fun _ => hS, fun z => absurd (hu.trans z) hok.2.2⟩⟩
            · rw [if_neg hu]
              have hw : here = w' := e2.resolve_left fun z => hu z.symm
              exact ⟨⟨n.toNat, _, hmem, gts, .inr ⟨hw, rfl⟩⟩, hok.1, fun S hS => ⟨fun z => absurd z.symm hu, fun _ => hS⟩⟩
          rw [hf]
          refine ite2 (fun e3 => ?_) (fun e3 => ?_)
          · have hnf : far ∉ ms' := by
              intro z
              rw [decide_eq_true z] at e3
              cases e3
            refine ⟨_, rfl, .inl ⟨rfl, _, SqL.of emt'⟩, _, rfl, _, rfl, tl, _, _, _, rfl, rfl, SqL.of etl', atI_of en gt, _, rfl, t, u, w', here, rfl, SqT.of hT, mt, _, _, rfl, rfl, emt', ?_, ?_⟩
            · rw [List.length_map]
              exact small1000 (by omega)
            · rw [hf]
              refine ⟨ms' ++ [far], _, rfl, by rw [List.length_append]; omega, by rw [List.getElem?_append_left hk']; exact gk', B'.add (List.mem_of_getElem? gk') hfar.1 hnf hfar.2.1 (Nat.le_of_lt hk'), hnew _ (fun z hz => List.mem_append_left _ hz) (hfar.2.2 _ (by simp)), sm'.into fmt, ?_, ?_⟩
              · rw [upd_ne nmtl]
                exact etl'
              · rw [upd_same, List.map_append]
                rfl
          · have hyf : far ∈ ms' := by
              refine Classical.byContradiction fun z => e3 ?_
              rw [decide_eq_false z]
              rfl
            exact ⟨ms', _, rfl, hk', gk', B', hnew _ (fun z hz => hz) (hfar.2.2 _ hyf), sm', etl', emt'⟩
        · refine ⟨ms', _, rfl, hk', gk', B', hnew _ (fun z hz => hz) ⟨fun z => ?_, fun z => ?_⟩, sm', etl', emt'⟩
          · exact absurd (decide_eq_true (show here ∈ [u, w'] by rw [z]; simp)) e1
          · exact absurd (decide_eq_true (show here ∈ [u, w'] by rw [z]; simp)) e1
      · rintro σ H' ⟨ms', y7, rfl, hk', gk', B', hd, sm', etl', emt'⟩
        -- at += 1
        refine ⟨_, rfl, _, _, rfl, rfl, ms', _, _, rfl, hk', B'.next gk' fun y hy => ?_, sm', etl', emt'⟩
        obtain ⟨i, t, hi, ht, hd2⟩ := hy
        obtain ⟨j, hj, ej⟩ := List.getElem_of_mem hi
        have hlj : (left[j]?).bind (fun n => ats.ties[n.toNat]?) = some t := by
          rw [List.getElem?_eq_getElem hj, ej]
          exact ht
        have := hd j t (by rw [List.length_map]; exact hj) hlj
        rcases hd2 with ⟨h5, rfl⟩ | ⟨h5, rfl⟩
        · exact this.1 h5
        · exact this.2 h5
    · have hke : k = ms.length := by
        have e1 : ¬ (k : Int) < ((ms.map V.str).length : Int) := fun z => e (decide_eq_true z)
        rw [List.length_map] at e1
        omega
      subst hke
      refine ⟨_, rfl, _, rfl, x, mt, ns, ats, ms, rfl, hW.same sm, by omega, .inl (SqL.of emt), fun r H' nr s' er => ?_⟩
      rw [filter_hang fun z _ => B.all z] at er
      exact q r H' (sm.free nr) (sm.trans s') er
end PW

namespace PW
open PySem PySem.Spec PyProof.Rows L2
/-! ### ties that bar, plainly -/
noncomputable def lotOf (ns : List Str) (ts : List (Str × Str)) (k : Nat) (b : Str) : List Str := hangL ns (Edg ts fun j => j ≠ k) b
noncomputable def barUp (ns : List Str) (ts : List (Str × Str)) : Nat → List (Nat × List Str)
  | 0 => []
  | k + 1 => barUp ns ts k ++ (match ts[k]? with
    | some t => if t.1 ∈ lotOf ns ts k t.2 then [] else [(k, lotOf ns ts k t.2)]
    | none => [])
noncomputable def barL (ns : List Str) (ts : List (Str × Str)) : List (Nat × List Str) := barUp ns ts ts.length
theorem barUp_succ {ns : List Str} {ts : List (Str × Str)} {k : Nat} {t : Str × Str} (h : ts[k]? = some t) : barUp ns ts (k + 1) = barUp ns ts k ++ (if t.1 ∈ lotOf ns ts k t.2 then [] else [(k, lotOf ns ts k t.2)]) := by
  show barUp ns ts k ++ _ = _
  rw [h]
theorem barUp_len (ns : List Str) (ts : List (Str × Str)) : ∀ k, (barUp ns ts k).length ≤ k
  | 0 => Nat.le_refl _
  | k + 1 => by
    have ih := barUp_len ns ts k
    show (barUp ns ts k ++ _).length ≤ k + 1
    rw [List.length_append]
    split
    · split
      · rw [List.length_nil]
        omega
      · rw [List.length_singleton]
        omega
    · rw [List.length_nil]
      omega
theorem barUp_mem {ns : List Str} {ts : List (Str × Str)} : ∀ {n : Nat} {p : Nat × List Str}, p ∈ barUp ns ts n → ∃ t, ts[p.1]? = some t ∧ p.2 = lotOf ns ts p.1 t.2 ∧ t.1 ∉ p.2
  | 0, p, h => by simp [barUp] at h
  | n + 1, p, h => by
    rcases List.mem_append.mp h with h | h
    · exact barUp_mem h
    · split at h
      · rename_i t e
        split at h
        · simp at h
        · rename_i hn
          rw [List.mem_singleton.mp h]
          exact ⟨t, e, rfl, hn⟩
      · simp at h
theorem lotOf_names {ns : List Str} {ts : List (Str × Str)} {k : Nat} {b : Str} (h : ∀ x ∈ ns, IsName x) : ∀ x ∈ lotOf ns ts k b, IsName x := fun x hx => h x (mem_hangL.mp hx).1
theorem barUp_names {ns : List Str} {ts : List (Str × Str)} {n : Nat} (h : ∀ x ∈ ns, IsName x) : ∀ p ∈ barUp ns ts n, ∀ x ∈ p.2, IsName x := fun p hp => by
  obtain ⟨t, _, e, _⟩ := barUp_mem hp
  rw [e]
  exact lotOf_names h
/-! ### as they stand in the heap -/
abbrev Abs := List (Addr × Nat × Addr × List Str)
def Abs.vals (l : Abs) : List V := l.map fun x => V.ref x.1
def Abs.told (l : Abs) : List (Nat × List Str) := l.map fun x => (x.2.1, x.2.2.2)
def BarsAt (H : Hp) (l : Abs) : Prop := ∀ x ∈ l, H x.1 = some (.tup [.int (x.2.1 : Nat), .ref x.2.2.1]) ∧ H x.2.2.1 = some (.lst (x.2.2.2.map V.str))
theorem BarsAt.same {H H' : Hp} {l : Abs} (h : BarsAt H l) (e : Same H H') : BarsAt H' l := fun x hx => ⟨e _ _ (h x hx).1, e _ _ (h x hx).2⟩
theorem Abs.vals_len (l : Abs) : l.vals.length = l.length := by
  unfold Abs.vals
  rw [List.length_map]
theorem Abs.vals_snoc (l : Abs) (x : Addr × Nat × Addr × List Str) : Abs.vals (l ++ [x]) = l.vals ++ [V.ref x.1] := by
  unfold Abs.vals
  rw [List.map_append]
  rfl
theorem Abs.told_snoc (l : Abs) (x : Addr × Nat × Addr × List Str) : Abs.told (l ++ [x]) = l.told ++ [(x.2.1, x.2.2.2)] := by
  unfold Abs.told
  rw [List.map_append]
  rfl
theorem Abs.told_len (l : Abs) : l.told.length = l.length := by
  unfold Abs.told
  rw [List.length_map]
theorem Abs.vals_at {l : Abs} {i : Nat} {v : V} (h : l.vals[i]? = some v) : ∃ x, l[i]? = some x ∧ v = V.ref x.1 := by
  unfold Abs.vals at h
  rw [List.getElem?_map] at h
  cases e : l[i]? with
  | none =>
    rw [e] at h
    cases h
  | some x =>
    rw [e] at h
    exact ⟨x, rfl, (Option.some.inj h).symm⟩
def dBar (p : Nat × List Str) : PyData := .tuple [.int (p.1 : Nat), dS p.2]
def dBars (l : List (Nat × List Str)) : PyData := .list (l.map dBar)
theorem plain_dBar {p : Nat × List Str} (h : ∀ x ∈ p.2, IsName x) : Plain 2 (dBar p) := .tuple fun d hd => by
  rcases List.mem_cons.mp hd with rfl | hd
  · exact .int _
  · rw [List.mem_singleton.mp hd]
    exact plain_dS h
theorem plain_dBars {l : List (Nat × List Str)} (h : ∀ p ∈ l, ∀ x ∈ p.2, IsName x) : Plain 3 (dBars l) := .list fun d hd => by
  obtain ⟨p, hp, rfl⟩ := List.mem_map.mp hd
  exact plain_dBar (h p hp)
theorem dp_bars {K : PySem.W.Frag} {H : Hp} {a : Addr} {l : Abs} (h : SqL K H a l.vals) (g : BarsAt H l) : Dp K H (.ref a) (dBars l.told) := by
  unfold dBars Abs.told
  rw [List.map_map]
  refine .lst h (dp_map fun x hx => ?_)
  exact .tup (SqT.of (g x hx).1) (.cons (.int _) (.cons (dp_strs (SqL.of (g x hx).2)) .nil))
structure BarsNew (H : Hp) (r : Addr) (l : Abs) : Prop where
  tup : ∀ x ∈ l, H x.1 = none
  lot : ∀ x ∈ l, H x.2.2.1 = none ∧ x.2.2.1 ≠ r
  nd : (l.map fun x => x.2.2.1).Nodup
def spBars (K : PySem.W.Frag) : Sp := fun vs H Q _ => ∃ (x : Addr) (ns : List Str) (ats : Ats), vs = [.ref x] ∧ WebAt K H x ns ats ∧ WebOk ns ats ∧
  ∀ r (bs : Abs) H', Same H H' → H r = none → BarsNew H r bs → H' r = some (.lst bs.vals) → BarsAt H' bs → bs.told = barL ns ats.ties → Q (.ref r) H'
/-! ### all numbers but one -/
def oth (n k : Nat) : List Int := ((List.range n).filter fun j => decide (j ≠ k)).map fun (j : Nat) => (j : Int)
theorem oth_succ (n k : Nat) : oth (n + 1) k = oth n k ++ (if n = k then [] else [(n : Int)]) := by
  unfold oth
  rw [List.range_succ, List.filter_append, List.map_append, List.filter_cons, List.filter_nil]
  by_cases h : n = k
  · rw [if_pos h, decide_eq_false (fun z => z h)]
    rfl
  · rw [if_neg h, decide_eq_true h]
    rfl
theorem mem_oth {n k : Nat} {i : Int} : i ∈ oth n k ↔ 0 ≤ i ∧ i < (n : Int) ∧ i ≠ (k : Int) := by
  unfold oth
  rw [List.mem_map]
  constructor
  · rintro ⟨j, hj, rfl⟩
    obtain ⟨h1, h2⟩ := List.mem_filter.mp hj
    have h3 := List.mem_range.mp h1
    have h4 : j ≠ k := of_decide_eq_true h2
    omega
  · rintro ⟨h0, h1, h2⟩
    exact ⟨i.toNat, List.mem_filter.mpr ⟨List.mem_range.mpr (by omega), decide_eq_true (by omega)⟩, by omega⟩
theorem oth_len (n k : Nat) : (oth n k).length ≤ n := by
  unfold oth
  rw [List.length_map]
  exact Nat.le_trans (List.length_filter_le ..) (by rw [List.length_range]; exact Nat.le_refl _)
theorem edg_oth (ats : Ats) (k : Nat) : Edg ats.ties (fun j => (j : Int) ∈ oth ats.length k) = Edg ats.ties fun j => j ≠ k := Edg.congr fun j hj => by
  rw [Ats.ties_len] at hj
  rw [mem_oth]
  omega
theorem edg_gone (ats : Ats) (k : Nat) : Edg ats.ties (fun j => goneB (.int (k : Nat)) j = true) = Edg ats.ties fun j => j ≠ k := Edg.congr fun j hj => by
  unfold goneB
  by_cases h : j = k
  · subst h
    rw [decide_eq_true rfl]
    simp
  · rw [decide_eq_false (fun z => h (by have := V.int.inj z; omega))]
    exact ⟨fun _ => h, fun _ => rfl⟩
theorem Ats.ties_at {l : Ats} {i : Nat} {x : Addr × Str × Str} (h : l[i]? = some x) : l.ties[i]? = some x.2 := by
  unfold Ats.ties
  rw [List.getElem?_map, h]
  rfl
end PW

namespace PW
open PySem PySem.Spec PyProof.Rows L2
theorem ok_bars {P : Program} {w : World} {K : PySem.W.Frag} {mg : Str → Option Value} {base : Heap} (T : Top K mg) :
    C8.Cal P w K mg base 4 "bars" (spBars K) [] := by
  refine cal_of (fd_bars T) (g_bars T) sc_bars bi_bars (fun vs H Q E h => ?_) (fun cdv A outer s H vs Q E hr h => ?_)
  · obtain ⟨x, ns, ats, rfl, _⟩ := h
    rfl
  · obtain ⟨x, ns, ats, rfl, hW, ok, q⟩ := h
    refine ⟨_, (pss_cons (ps_set (i := 1) sc_bars.nd rfl (by first | exact Or.inl rfl | exact Or.inr rfl) (pe_lst pa_nil))
      (pss_cons (ps_for PassesOwn.never rfl (pi_enum (by rfl) (f_enumerate T) (pa_cons (C8.pe_mt0 (ok_Web_ties T) hr (by decide) (pv 0)) pa_nil)) (pg_tup (n := 2) rfl (pgs_cons (pg_name (i := 2) sc_bars.nd rfl (by first | exact Or.inl rfl | exact Or.inr rfl)) (pgs_cons (pg_tup (n := 2) rfl (pgs_cons (pg_name (i := 3) sc_bars.nd rfl (by first | exact Or.inl rfl | exact Or.inr rfl)) (pgs_cons (pg_name (i := 4) sc_bars.nd rfl (by first | exact Or.inl rfl | exact Or.inr rfl)) pgs_nil))) pgs_nil))) (pss_cons (ps_setLc (i := 5) (own := [("k", 7)]) (g := gName 7) (by rfl) sc_bars.nd rfl rfl (sw_true rfl rfl rfl (by decide +kernel)) (pi_range1 (by rfl) (f_range T) (pa_cons (C8.pe_mt0 (ok_Web_many T) hr (by decide) (pv 0)) pa_nil)) (blkOk_by (own := [("k", 7)]) (N := ["web", "found", "number", "a", "b", "others", "lot", "k"]) (sc := defScope s_bars) (by decide +kernel)) (fun _ _ _ _ _ => (pg_name (i := 7) sc_bars.nd rfl (by first | exact Or.inl rfl | exact Or.inr rfl))) (fun _ _ _ _ _ => (pts_one (pt_cmpR op_ne (pv 7) (pv 2) (nomark _)))) (fun _ _ _ _ _ => (pv 7)))
      (pss_cons (ps_set (i := 6) sc_bars.nd rfl (by first | exact Or.inl rfl | exact Or.inr rfl) (C8.pe_c (ok_hanging T) hr (by decide) (by rfl) (pa_cons (pv 0) (pa_cons (pv 4) (pa_cons (pv 5) pa_nil)))))
      (pss_one (ps_if (pt_cmpR (notInSeq (K := K)) (pv 3) (pv 6) (by with_unfolding_all rfl)) (pss_one (ps_expr (pe_bm PySem.F.plainAttrs_list PySem.F.slot_list_append PySem.F.type_list_append mt_append (pv 1) (pa_cons (pe_tup (pa_cons (pv 2) (pa_cons (pv 6) pa_nil))) pa_nil)))) pss_nil)))))
      (pss_one (ps_ret (pv 1))))), ?_⟩
    obtain ⟨dx, wa, wb, h1, h2, h3, h4⟩ := id hW
    have h20 := ok.t20
    have hn9 := ok.n9
    refine ⟨Nat.zero_le _, fun f nf => ?_⟩
    have s1 : Same H (upd H f (.lst [])) := same_new nf
    refine ⟨_, rfl, x, dx, _, rfl, s1 _ _ h1, wf_mt _ _, x, ns, ats, rfl, hW.same s1, fun tl ntl => ⟨tl, _, rfl, SqL.of upd_same, ?_⟩⟩
    have s2 := s1.next (o := .lst ats.vals) ntl
    have nft : f ≠ tl := fun e => by
      rw [← e, upd_same] at ntl
      cases ntl
    refine for_it (walk_enum (K := K) (a := tl) (xs := ats.vals)) (fun k σ Hc => ∃ (bs : Abs) (y2 y3 y4 y5 y6 : Option V), σ = [some (.ref x), some (.ref f), y2, y3, y4, y5, y6, none] ∧ Same H Hc ∧ Hc tl = some (.lst ats.vals) ∧ Hc f = some (.lst bs.vals) ∧ BarsAt Hc bs ∧ BarsNew H f bs ∧ bs.told = barUp ns ats.ties k)
      ⟨[], none, none, none, none, none, rfl, s2, upd_same, by rw [upd_ne nft]; exact upd_same, fun x hx => by simp at hx, ⟨fun x hx => by simp at hx, fun x hx => by simp at hx, List.nodup_nil⟩, rfl⟩ (fun k σ Hc _ ⟨_, _, _, _, _, _, _, _, z, _⟩ => SqL.of z) ?_ ?_
    · rintro k v σ Hc Hc' hk ⟨bs, y2, y3, y4, y5, y6, rfl, sm, etl, ef, hB, hN, hbs⟩ ⟨T', x1, x2, rfl, nT, rfl, e1, e2⟩
      cases e1
      obtain ⟨⟨A', u, w'⟩, hA, rfl⟩ := Ats.vals_at e2
      have hm := List.mem_of_getElem? hA
      have hok := ok.ties _ hm
      have gts := Ats.ties_at hA
      have hkl : k < ats.length := by
        rw [Ats.vals_len] at hk
        exact hk
      have hstep := barUp_succ (ns := ns) gts
      have sT : Same Hc (upd Hc T' (.tup [.int (k : Nat), .ref A'])) := same_new nT
      have smT := sm.trans sT
      have hbl : bs.length ≤ k := by
        rw [← Abs.told_len, hbs]
        exact barUp_len _ _ _
      refine ⟨T', _, rfl, SqT.of upd_same, rfl, _, _, rfl, _, _, rfl, A', _, rfl, SqT.of (smT _ _ (h4 _ hm)), rfl, _, _, rfl, _, _, rfl, rfl, rfl, ?_⟩
      -- others
      refine ⟨_, rfl, x, dx, _, rfl, smT _ _ h1, wf_mm _ _, x, ns, ats, rfl, hW.same smT, (ats.length : Nat), rfl, by omega, by omega, fun D nD => ?_⟩
      refine lc_range (lo := 0) (n := ((ats.length : Nat) : Int).toNat) (fun j Hd => Same (upd Hc T' (.tup [.int (k : Nat), .ref A'])) Hd ∧ Hd D = some (.lst ((oth j k).map V.int))) ⟨same_new nD, upd_same⟩ ?_ ?_
      · rintro j Hd hj ⟨smd, eD⟩
        refine ⟨rfl, _, rfl, _, rfl, rfl, _, rfl, ?_⟩
        have e0 : (0 : Int) + (j : Int) = (j : Int) := by omega
        have hos := oth_succ j k
        refine ite2 (fun c => ?_) (fun c => ?_)
        · have hne : j ≠ k := fun z => by
            subst z
            rw [e0, decide_eq_true rfl] at c
            cases c
          rw [if_neg hne] at hos
          refine ⟨_, rfl, _, eD, ?_, smd.into nD, ?_⟩
          · rw [List.length_map]
            have := oth_len j k
            exact small1000 (by omega)
          · rw [upd_same, hos, List.map_append, e0]
            rfl
        · have he : j = k := by
            refine Classical.byContradiction fun z => c ?_
            rw [decide_eq_false (fun q => z (by have := V.int.inj q; omega))]
            rfl
          rw [if_pos he, List.append_nil] at hos
          refine ⟨smd, ?_⟩
          rw [hos]
          exact eD
      rintro Hd ⟨smd, eD⟩
      rw [show ((ats.length : Nat) : Int).toNat = ats.length by omega] at eD
      have smD := smT.trans smd
      -- lot
      refine ⟨_, rfl, _, rfl, _, rfl, x, D, w', ns, ats, oth ats.length k, rfl, hW.same smD, ok, hok.2.1, SqL.of eD, fun i hi => ⟨(mem_oth.mp hi).1, (mem_oth.mp hi).2.1⟩, by have := oth_len ats.length k; omega, fun l H' nl s' el => ?_⟩
      rw [edg_oth] at el
      have el2 : H' l = some (.lst ((lotOf ns ats.ties k w').map V.str)) := el
      have sH' := smD.trans s'
      have sCH' := (sT.trans smd).trans s'
      have fl : H l = none := smD.free nl
      refine ⟨_, rfl, _, rfl, l, _, rfl, .inl (SqL.of el2), rfl, flat_strs _, _, rfl, ?_⟩
      show if (!inV (.str u) ((lotOf ns ats.ties k w').map V.str)) = true then _ else _
      rw [inV_strs]
      refine ite2 (fun c => ?_) (fun c => ?_)
      · have hno : u ∉ lotOf ns ats.ties k w' := fun z => by
          rw [decide_eq_true z] at c
          cases c
        rw [if_neg hno] at hstep
        refine ⟨_, rfl, .inl ⟨rfl, _, SqL.of (sCH' _ _ ef)⟩, _, rfl, _, rfl, (by show 2 ≤ sizeLine; decide), fun t nt => ⟨f, _, _, rfl, rfl, same_new nt _ _ (sCH' _ _ ef), ?_, ?_⟩⟩
        · rw [Abs.vals_len]
          exact small1000 (by omega)
        · have nfl : f ≠ l := ne_of_none ((sT.trans smd) _ _ ef) nl
          have ntf : t ≠ f := (ne_of_none (sCH' _ _ ef) nt).symm
          have sF := sCH'.next (o := .tup [.int (k : Nat), .ref l]) nt
          refine ⟨bs ++ [(t, k, l, lotOf ns ats.ties k w')], _, _, _, _, _, rfl, (sH'.next nt).into nf, ?_, ?_, ?_, ?_, ?_⟩
          · rw [upd_ne nft.symm]
            exact sF _ _ etl
          · rw [upd_same, Abs.vals_snoc]
          · intro y hy
            rcases List.mem_append.mp hy with hy | hy
            · have hb := hB y hy
              refine ⟨?_, ?_⟩
              · rw [upd_ne (ne_of hb.1 ef (by intro z; cases z))]
                exact sF _ _ hb.1
              · rw [upd_ne (hN.lot y hy).2]
                exact sF _ _ hb.2
            · rw [List.mem_singleton.mp hy]
              refine ⟨?_, ?_⟩
              · rw [upd_ne ntf]
                exact upd_same
              · rw [upd_ne nfl.symm, upd_ne (ne_of_none el2 nt)]
                exact el2
          · refine ⟨?_, ?_, ?_⟩
            · intro y hy
              rcases List.mem_append.mp hy with hy | hy
              · exact hN.tup y hy
              · rw [List.mem_singleton.mp hy]
                exact sH'.free nt
            · intro y hy
              rcases List.mem_append.mp hy with hy | hy
              · exact hN.lot y hy
              · rw [List.mem_singleton.mp hy]
                exact ⟨fl, nfl.symm⟩
            · rw [List.map_append, List.nodup_append]
              refine ⟨hN.nd, List.nodup_cons.mpr ⟨by simp, List.nodup_nil⟩, fun z hz z' hz' e => ?_⟩
              obtain ⟨y, hy, rfl⟩ := List.mem_map.mp hz
              have e2 : z' = l := List.mem_singleton.mp hz'
              rw [e2] at e
              exact ne_of_none ((sT.trans smd) _ _ (hB y hy).2) nl e
          · rw [Abs.told_snoc, hbs, hstep]
      · have hyes : u ∈ lotOf ns ats.ties k w' := Classical.byContradiction fun z => c (by
          rw [decide_eq_false z]
          rfl)
        rw [if_pos hyes, List.append_nil] at hstep
        exact ⟨bs, _, _, _, _, _, rfl, sH', sCH' _ _ etl, sCH' _ _ ef, hB.same sCH', hN, hbs.trans hstep.symm⟩
    · rintro σ Hc ⟨bs, y2, y3, y4, y5, y6, rfl, sm, etl, ef, hB, hN, hbs⟩
      refine ⟨_, rfl, q f bs Hc sm nf hN ef hB ?_⟩
      rw [hbs, Ats.vals_len, ← Ats.ties_len]
      rfl
end PW

namespace PW
open PySem PySem.Spec PyProof.Rows L2
/-! ### lots -/
def crossB (lot : List Str) (t : Str × Str) : Bool := decide (t.1 ∈ lot) != decide (t.2 ∈ lot)
def crossUp (ts : List (Str × Str)) (lot : List Str) : Nat → List Int
  | 0 => []
  | k + 1 => crossUp ts lot k ++ (match ts[k]? with
    | some t => if crossB lot t = true then [(k : Int)] else []
    | none => [])
theorem crossUp_succ {ts : List (Str × Str)} {lot : List Str} {k : Nat} {t : Str × Str} (h : ts[k]? = some t) : crossUp ts lot (k + 1) = crossUp ts lot k ++ (if crossB lot t = true then [(k : Int)] else []) := by
  show crossUp ts lot k ++ _ = _
  rw [h]
theorem crossUp_len (ts : List (Str × Str)) (lot : List Str) : ∀ k, (crossUp ts lot k).length ≤ k
  | 0 => Nat.le_refl _
  | k + 1 => by
    have ih := crossUp_len ts lot k
    show (crossUp ts lot k ++ _).length ≤ k + 1
    rw [List.length_append]
    split
    · split
      · rw [List.length_singleton]
        omega
      · rw [List.length_nil]
        omega
    · rw [List.length_nil]
      omega
def orderL (ns xs : List Str) : List Str := ns.filter fun z => decide (z ∈ xs)
structure LotOk (ns xs : List Str) : Prop where
  nd : xs.Nodup
  inn : ∀ x ∈ xs, x ∈ ns
  pos : 0 < xs.length
  lt : xs.length < ns.length
def spTiesCrossing (K : PySem.W.Frag) : Sp := fun vs H Q _ => ∃ (x a : Addr) (ns : List Str) (ats : Ats) (xs : List Str), vs = [.ref x, .ref a] ∧ WebAt K H x ns ats ∧ ats.length ≤ 1000 ∧ SqL K H a (xs.map V.str) ∧
  ∀ r H', H r = none → Same H H' → H' r = some (.lst ((crossUp ats.ties xs ats.length).map V.int)) → Q (.ref r) H'
def spLotOf (K : PySem.W.Frag) : Sp := fun vs H Q _ => ∃ (x a : Addr) (ns : List Str) (ats : Ats) (xs : List Str), vs = [.ref x, .ref a] ∧ WebAt K H x ns ats ∧ WebOk ns ats ∧ H a = some (.lst (xs.map V.str)) ∧ LotOk ns xs ∧
  ∀ r H', H r = none → Same H H' → H' r = some (.lst ((orderL ns xs).map V.str)) → Q (.ref r) H'
def spCrossing (K : PySem.W.Frag) : Sp := fun vs H Q _ => ∃ (x a : Addr) (ns : List Str) (ats : Ats) (xs : List Str), vs = [.ref x, .ref a] ∧ WebAt K H x ns ats ∧ WebOk ns ats ∧ H a = some (.lst (xs.map V.str)) ∧ LotOk ns xs ∧
  ∀ r H', H r = none → Same H H' → H' r = some (.lst ((crossUp ats.ties (orderL ns xs) ats.length).map V.int)) → Q (.ref r) H'
theorem flat_bls (x y : Bool) : scal (.bl x) (.bl y) = true := rfl
theorem mem_orderL {ns xs : List Str} (h : ∀ x ∈ xs, x ∈ ns) (z : Str) : z ∈ orderL ns xs ↔ z ∈ xs := by
  unfold orderL
  rw [List.mem_filter, decide_eq_true_iff]
  exact ⟨fun q => q.2, fun q => ⟨h z q, q⟩⟩
end PW

namespace PW
open PySem PySem.Spec PyProof.Rows L2
theorem ok_ties_crossing {P : Program} {w : World} {K : PySem.W.Frag} {mg : Str → Option Value} {base : Heap} (T : Top K mg) :
    C8.Cal P w K mg base 2 "ties_crossing" (spTiesCrossing K) [] := by
  refine cal_of (fd_ties_crossing T) (g_ties_crossing T) sc_ties_crossing bi_ties_crossing (fun vs H Q E h => ?_) (fun cdv A outer s H vs Q E hr h => ?_)
  · obtain ⟨x, a, ns, ats, xs, rfl, _⟩ := h
    rfl
  · obtain ⟨x, a, ns, ats, xs, rfl, hW, hlen, hS, q⟩ := h
    refine ⟨_, (pss_one (ps_ret (pe_lc (own := [("k", 2), ("a", 3), ("b", 4)]) (g := gTup K 2 (gCons (gName 2) (gCons (gTup K 2 (gCons (gName 3) (gCons (gName 4) gNil))) gNil))) (by rfl) sc_ties_crossing.nd (pi_enum (by rfl) (f_enumerate T) (pa_cons (C8.pe_mt0 (ok_Web_ties T) hr (by decide) (pv 0)) pa_nil)) (blkOk_by (own := [("k", 2), ("a", 3), ("b", 4)]) (N := ["web", "points", "k", "a", "b"]) (sc := defScope s_ties_crossing) (by decide +kernel)) (fun _ _ _ _ _ => (pg_tup (n := 2) rfl (pgs_cons (pg_name (i := 2) sc_ties_crossing.nd rfl (by first | exact Or.inl rfl | exact Or.inr rfl)) (pgs_cons (pg_tup (n := 2) rfl (pgs_cons (pg_name (i := 3) sc_ties_crossing.nd rfl (by first | exact Or.inl rfl | exact Or.inr rfl)) (pgs_cons (pg_name (i := 4) sc_ties_crossing.nd rfl (by first | exact Or.inl rfl | exact Or.inr rfl)) pgs_nil))) pgs_nil)))) (fun _ _ _ _ _ => (pts_one (pt_cmpR op_ne (pe_cmpR (inSeq (K := K)) (pv 3) (pv 1) (by with_unfolding_all rfl)) (pe_cmpR (inSeq (K := K)) (pv 4) (pv 1) (by with_unfolding_all rfl)) (nomark _)))) (fun _ _ _ _ _ => (pv 2))))), ?_⟩
    obtain ⟨dx, wa, wb, h1, h2, h3, h4⟩ := id hW
    refine ⟨_, rfl, x, dx, _, rfl, h1, wf_mt _ _, x, ns, ats, rfl, hW, fun tl ntl => ⟨tl, _, rfl, SqL.of upd_same, fun D nD => ?_⟩⟩
    have s1 : Same H (upd H tl (.lst ats.vals)) := same_new ntl
    have fD := s1.free nD
    have nDt : tl ≠ D := fun e => by
      rw [← e, upd_same] at nD
      cases nD
    refine lc_it (walk_enum (K := K) (a := tl) (xs := ats.vals)) (fun k Hc => Same H Hc ∧ Hc tl = some (.lst ats.vals) ∧ Hc D = some (.lst ((crossUp ats.ties xs k).map V.int)))
      ⟨s1.next nD, by rw [upd_ne nDt]; exact upd_same, upd_same⟩ (fun k Hc _ z => SqL.of z.2.1) ?_ ?_
    · rintro k v Hc Hc' hk ⟨sm, etl, eD⟩ ⟨T', x1, x2, rfl, nT, rfl, e1, e2⟩
      cases e1
      obtain ⟨⟨A', u, w'⟩, hA, rfl⟩ := Ats.vals_at e2
      have hm := List.mem_of_getElem? hA
      have gts := Ats.ties_at hA
      have sT : Same Hc (upd Hc T' (.tup [.int (k : Nat), .ref A'])) := same_new nT
      have smT := sm.trans sT
      have hstep := crossUp_succ (lot := xs) gts
      rw [Ats.vals_len] at hk
      have hcl := crossUp_len ats.ties xs k
      refine ⟨T', _, rfl, SqT.of upd_same, rfl, _, _, rfl, _, _, rfl, A', _, rfl, SqT.of (smT _ _ (h4 _ hm)), rfl, _, _, rfl, _, _, rfl, rfl, rfl, rfl, ?_⟩
      refine ⟨_, rfl, _, rfl, a, _, rfl, .inl (smT.seq hS), rfl, flat_strs xs, _, rfl, _, rfl, a, _, rfl, .inl (smT.seq hS), rfl, flat_strs xs, rfl, _, rfl, ?_⟩
      show if (!decide (V.bl (inV (.str u) (xs.map V.str)) = V.bl (inV (.str w') (xs.map V.str)))) = true then _ else _
      rw [inV_strs, inV_strs]
      have ecr : (!decide (V.bl (decide (u ∈ xs)) = V.bl (decide (w' ∈ xs)))) = crossB xs (u, w') := by
        unfold crossB
        by_cases h5 : u ∈ xs <;> by_cases h6 : w' ∈ xs <;> simp [h5, h6]
      rw [ecr]
      refine ite2 (fun c => ?_) (fun c => ?_)
      · rw [if_pos c] at hstep
        refine ⟨_, rfl, _, sT _ _ eD, ?_, smT.into fD, ?_, ?_⟩
        · rw [List.length_map]
          exact small1000 (by omega)
        · rw [upd_ne nDt]
          exact sT _ _ etl
        · rw [upd_same, hstep, List.map_append]
          rfl
      · rw [if_neg c, List.append_nil] at hstep
        refine ⟨smT, sT _ _ etl, ?_⟩
        rw [hstep]
        exact sT _ _ eD
    · rintro Hc ⟨sm, etl, eD⟩
      rw [Ats.vals_len] at eD
      exact q D Hc fD sm eD
theorem ok_lot_of {P : Program} {w : World} {K : PySem.W.Frag} {mg : Str → Option Value} {base : Heap} (T : Top K mg) :
    C8.Cal P w K mg base 3 "lot_of" (spLotOf K) [] := by
  refine cal_of (fd_lot_of T) (g_lot_of T) sc_lot_of bi_lot_of (fun vs H Q E h => ?_) (fun cdv A outer s H vs Q E hr h => ?_)
  · obtain ⟨x, a, ns, ats, xs, rfl, _⟩ := h
    rfl
  · obtain ⟨x, a, ns, ats, xs, rfl, hW, ok, ha, lo, q⟩ := h
    refine ⟨_, (pss_cons (ps_set (i := 2) sc_lot_of.nd rfl (by first | exact Or.inl rfl | exact Or.inr rfl) (C8.pe_mt0 (ok_Web_points T) hr (by decide) (pv 0)))
      (pss_cons (ps_if (PW.pt (pw_or (pt_not (pt_val (C8.pe_c (ok_is_row T) hr (by decide) (by rfl) (pa_cons (pv 1) pa_nil)))) (pw_or1 (pt_not (pt_val (pe_callB (allK (K := K) rfl) (by rfl) (f_all T) (by decide +kernel) (pa_cons (pe_lc (own := [("one", 3)]) (g := gName 3) (by rfl) sc_lot_of.nd (pi_list (pv 1)) (blkOk_by (own := [("one", 3)]) (N := ["web", "points", "known", "one"]) (sc := defScope s_lot_of) (by decide +kernel)) (fun _ _ _ _ _ => (pg_name (i := 3) sc_lot_of.nd rfl (by first | exact Or.inl rfl | exact Or.inr rfl))) (fun _ _ _ _ _ => pts_nil) (fun _ _ _ _ _ => (pe_and (C8.pe_c (ok_is_name T) hr (by decide) (by rfl) (pa_cons (pv 3) pa_nil)) (pe_one (pe_cmpR (inSeq (K := K)) (pv 3) (pv 2) (by with_unfolding_all rfl)))))) pa_nil))))))) (pss_one ps_never) pss_nil)
      (pss_cons (ps_if (PW.pt (pw_or (pt_cmpR op_ne (pe_lenSetS (K := K) (by rfl) (f_len T) (by rfl) (f_set T) (pv 1)) (pe_callB (lenK (K := K)) (by rfl) (f_len T) PySem.boot_len (pa_cons (pv 1) pa_nil)) (nomark _)) (pw_or1 (pt_not (pt_chain op_lt op_lt pe_int (pe_callB (lenK (K := K)) (by rfl) (f_len T) PySem.boot_len (pa_cons (pv 1) pa_nil)) (pe_callB (lenK (K := K)) (by rfl) (f_len T) PySem.boot_len (pa_cons (pv 2) pa_nil))))))) (pss_one ps_never) pss_nil)
      (pss_one (ps_ret (C8.pe_c (ok_in_order T) hr (by decide) (by rfl) (pa_cons (pv 0) (pa_cons (pv 1) pa_nil)))))))), ?_⟩
    obtain ⟨dx, wa, wb, h1, h2, h3, h4⟩ := id hW
    have hn9 := ok.n9
    have hlt := lo.lt
    have hlx : (xs.map V.str).length = xs.length := List.length_map ..
    have hln : (ns.map V.str).length = ns.length := List.length_map ..
    refine ⟨_, rfl, x, dx, _, rfl, h1, wf_mp _ _, x, ns, ats, rfl, hW, fun kl nkl => ?_⟩
    have s1 : Same H (upd H kl (.lst (ns.map V.str))) := same_new nkl
    refine ⟨_, rfl, _, _, true, rfl, .base (.lst (s1 _ _ ha)), rfl, fun H2 s2 => ⟨true, rfl, ?_⟩⟩
    have s12 := s1.trans s2
    have ek2 : H2 kl = some (.lst (ns.map V.str)) := s2 _ _ upd_same
    refine ⟨_, rfl, a, rfl, ⟨_, SqL.of (s12 _ _ ha)⟩, fun D nD => ?_⟩
    refine lc_list (K := K) (a := a) (xs := xs.map V.str) (fun i Hc => Same H2 Hc ∧ Hc D = some (.lst ((List.replicate i true).map V.bl))) ⟨same_new nD, upd_same⟩ (fun i Hc _ z => SqL.of (z.1 _ _ (s12 _ _ ha))) ?_ ?_
    · rintro i v Hc hi ⟨sm, eD⟩
      obtain ⟨z, hz, rfl⟩ := strs_at hi
      have hil := (List.getElem?_eq_some_iff.mp hz).1
      have hzn := lo.inn z (List.mem_of_getElem? hz)
      refine ⟨rfl, _, rfl, z, rfl, ok.names.ok z hzn, fun H3 s3 => ⟨true, rfl, _, rfl, _, rfl, kl, _, rfl, .inl (SqL.of (s3 _ _ (sm _ _ ek2))), rfl, flat_strs ns, _, s3 _ _ eD, ?_, (sm.trans s3).into nD, ?_⟩⟩
      · rw [List.length_map, List.length_replicate]
        exact small1000 (by omega)
      · rw [upd_same]
        show some (HO.lst (_ ++ [V.bl (inV (.str z) (ns.map V.str))])) = _
        rw [inV_strs, decide_eq_true hzn, List.replicate_succ', List.map_append]
        rfl
    rintro H3 ⟨s3, eD⟩
    have s13 := s12.trans s3
    refine ⟨D, _, rfl, SqL.of eD, true, ?_, ?_⟩
    · rw [List.all_replicate]
      simp
    refine ⟨_, rfl, a, xs, rfl, SqL.of (s13 _ _ ha), by omega, _, rfl, a, _, rfl, .inl (SqL.of (s13 _ _ ha)), rfl, false, ?_, ?_⟩
    · rw [manyS_nodup lo.nd, hlx, decide_eq_true rfl]
      rfl
    refine ⟨_, rfl, a, _, rfl, .inl (SqL.of (s13 _ _ ha)), 0, _, rfl, rfl, true, ?_, _, rfl, kl, _, rfl, .inl (SqL.of (s3 _ _ ek2)), _, _, rfl, rfl, true, ?_, ?_⟩
    · exact bT (by have := lo.pos; rw [hlx]; omega)
    · exact bT (by rw [hlx, hln]; omega)
    refine ⟨_, rfl, _, rfl, x, a, ns, ats, xs, rfl, hW.same s13, by omega, .inl (SqL.of (s13 _ _ ha)), fun r H4 nr s4 er => ?_⟩
    exact q r H4 (s13.free nr) (s13.trans s4) er
theorem ok_crossing {P : Program} {w : World} {K : PySem.W.Frag} {mg : Str → Option Value} {base : Heap} (T : Top K mg) :
    C8.Cal P w K mg base 4 "crossing" (spCrossing K) [] := by
  refine cal_of (fd_crossing T) (g_crossing T) sc_crossing bi_crossing (fun vs H Q E h => ?_) (fun cdv A outer s H vs Q E hr h => ?_)
  · obtain ⟨x, a, ns, ats, xs, rfl, _⟩ := h
    rfl
  · obtain ⟨x, a, ns, ats, xs, rfl, hW, ok, ha, lo, q⟩ := h
    refine ⟨_, (pss_one (ps_ret (C8.pe_c (ok_ties_crossing T) hr (by decide) (by rfl) (pa_cons (pv 0) (pa_cons (C8.pe_c (ok_lot_of T) hr (by decide) (by rfl) (pa_cons (pv 0) (pa_cons (pv 1) pa_nil))) pa_nil))))), ?_⟩
    have h20 := ok.t20
    refine ⟨_, rfl, _, rfl, _, rfl, x, a, ns, ats, xs, rfl, hW, ok, ha, lo, fun l H1 nl s1 el => ?_⟩
    refine ⟨x, l, ns, ats, orderL ns xs, rfl, hW.same s1, by omega, SqL.of el, fun r H2 nr s2 er => ?_⟩
    exact q r H2 (s1.free nr) (s1.trans s2) er
end PW

namespace PW
open PySem PySem.Spec PyProof.Rows L2
/-! ### the lot of a tie that bars -/
theorem lot_of_bar {ns : List Str} {ats : Ats} (ok : WebOk ns ats) {p : Nat × List Str} (hp : p ∈ barL ns ats.ties) : LotOk ns p.2 ∧ crossUp ats.ties (orderL ns p.2) ats.length = [(p.1 : Int)] := by
  obtain ⟨t, ht, e, hno⟩ := barUp_mem hp
  have hv : ∀ t ∈ ats.ties, TieOk ns t := fun t ht => by
    obtain ⟨y, hy, rfl⟩ := List.mem_map.mp ht
    exact ok.ties y hy
  have hok := hv t (List.mem_of_getElem? ht)
  have hin : ∀ z ∈ p.2, z ∈ ns := fun z hz => by
    rw [e] at hz
    exact (mem_hangL.mp hz).1
  have hb : t.2 ∈ p.2 := by
    rw [e]
    exact mem_hangL.mpr ⟨hok.2.1, .refl⟩
  have hnd : p.2.Nodup := by
    rw [e]
    exact hangL_nodup ok.names.nd
  refine ⟨⟨hnd, hin, List.length_pos_of_mem hb, ?_⟩, ?_⟩
  · have := nodup_len (ms := t.1 :: p.2) (ns := ns) (List.nodup_cons.mpr ⟨hno, hnd⟩) fun z hz => by
      rcases List.mem_cons.mp hz with rfl | hz
      · exact hok.1
      · exact hin z hz
    rw [List.length_cons] at this
    omega
  have hm := mem_orderL hin
  have hcr : ∀ j s, ats.ties[j]? = some s → crossB (orderL ns p.2) s = decide (j = p.1) := fun j s hs => by
    unfold crossB
    rw [decide_eq_decide.mpr (hm s.1), decide_eq_decide.mpr (hm s.2)]
    by_cases hj : j = p.1
    · subst hj
      have : t = s := Option.some.inj (ht.symm.trans hs)
      subst this
      rw [decide_eq_false hno, decide_eq_true hb, decide_eq_true rfl]
      rfl
    · rw [decide_eq_false hj]
      have ed : Edg ats.ties (fun i => i ≠ p.1) s.1 s.2 := ⟨j, s, hj, hs, .inl ⟨rfl, rfl⟩⟩
      have hs2 := hv s (List.mem_of_getElem? hs)
      have hiff : s.1 ∈ p.2 ↔ s.2 ∈ p.2 := by
        rw [e]
        unfold lotOf
        rw [mem_hangL, mem_hangL]
        exact ⟨fun z => ⟨hs2.2.1, .step z.2 ed⟩, fun z => ⟨hs2.1, .step z.2 (Edg.symm _ _ ed)⟩⟩
      rw [decide_eq_decide.mpr hiff]
      exact bne_self_eq_false _
  have hkl : p.1 < ats.length := by
    have := (List.getElem?_eq_some_iff.mp ht).1
    rw [Ats.ties_len] at this
    exact this
  have hone : ∀ n, n ≤ ats.length → crossUp ats.ties (orderL ns p.2) n = if p.1 < n then [(p.1 : Int)] else [] := fun n => by
    induction n with
    | zero => exact fun _ => rfl
    | succ n ih =>
      intro hn
      have hnl : n < ats.ties.length := by
        rw [Ats.ties_len]
        omega
      rw [crossUp_succ (List.getElem?_eq_getElem hnl), ih (by omega), hcr n _ (List.getElem?_eq_getElem hnl)]
      by_cases h1 : n = p.1
      · subst h1
        rw [if_neg (by omega), decide_eq_true rfl, if_pos rfl, if_pos (by omega)]
        rfl
      · rw [decide_eq_false h1, if_neg Bool.false_ne_true, List.append_nil]
        by_cases h2 : p.1 < n
        · rw [if_pos h2, if_pos (by omega)]
        · rw [if_neg h2, if_neg (by omega)]
  rw [hone _ (Nat.le_refl _), if_pos hkl]
def spLawRight (K : PySem.W.Frag) : Sp := fun vs H Q _ => ∃ (x a b : Addr) (ns : List Str) (ats : Ats), vs = [.ref x, .ref a, .ref b] ∧ WebAt K H x ns ats ∧ WebOk ns ats ∧ H a = some (.lst (ns.map V.str)) ∧ H b = some (.lst ats.vals) ∧ TupsAt H ats ∧ ∀ H', Same H H' → Q (.bl true) H'
theorem ok_law_right {P : Program} {w : World} {K : PySem.W.Frag} {mg : Str → Option Value} {base : Heap} (T : Top K mg) :
    C8.Cal P w K mg base 5 "_law_right" (spLawRight K) [] := by
  refine cal_of (fd_law_right T) (g_law_right T) sc_law_right bi_law_right (fun vs H Q E h => ?_) (fun cdv A outer s H vs Q E hr h => ?_)
  · obtain ⟨x, a, b, ns, ats, rfl, _⟩ := h
    rfl
  · obtain ⟨x, a, b, ns, ats, rfl, hW, ok, ha, hb, hT, q⟩ := h
    refine ⟨_, (pss_cons (ps_set (i := 3) sc_law_right.nd rfl (by first | exact Or.inl rfl | exact Or.inr rfl) (pe_lst pa_nil))
      (pss_cons (ps_for PassesOwn.never rfl (pi_enum (by rfl) (f_enumerate T) (pa_cons (pv 2) pa_nil)) (pg_tup (n := 2) rfl (pgs_cons (pg_name (i := 4) sc_law_right.nd rfl (by first | exact Or.inl rfl | exact Or.inr rfl)) (pgs_cons (pg_tup (n := 2) rfl (pgs_cons (pg_name (i := 5) sc_law_right.nd rfl (by first | exact Or.inl rfl | exact Or.inr rfl)) (pgs_cons (pg_name (i := 6) sc_law_right.nd rfl (by first | exact Or.inl rfl | exact Or.inr rfl)) pgs_nil))) pgs_nil))) (pss_cons (ps_set (i := 7) sc_law_right.nd rfl (by first | exact Or.inl rfl | exact Or.inr rfl) (C8.pe_c (ok_law_hang T) hr (by decide) (by rfl) (pa_cons (pe_tup (pa_cons (pv 1) (pa_cons (pv 2) pa_nil))) (pa_cons (pv 6) (pa_cons (pv 4) pa_nil)))))
      (pss_one (ps_if (pt_cmpR (notInSeq (K := K)) (pv 5) (pv 7) (by with_unfolding_all rfl)) (pss_one (ps_expr (pe_bm PySem.F.plainAttrs_list PySem.F.slot_list_append PySem.F.type_list_append mt_append (pv 3) (pa_cons (pe_tup (pa_cons (pv 4) (pa_cons (pv 7) pa_nil))) pa_nil)))) pss_nil))))
      (pss_cons (ps_set (i := 8) sc_law_right.nd rfl (by first | exact Or.inl rfl | exact Or.inr rfl) (C8.pe_c (ok_bars T) hr (by decide) (by rfl) (pa_cons (pv 0) pa_nil)))
      (pss_cons (ps_if (PW.pt (pw_or (pt_not (pt_val (pe_callB (isiK1 (K := K)) (by rfl) (f_isinstance T) (by decide +kernel) (pa_cons (pv 8) (pa_cons (pe_bltn (v := .ty "list") (by rfl) (f_list T) (by decide +kernel) rfl) pa_nil))))) (pw_or (pt_cmpR (neDK (K := K) hr.units) (pv 8) (pv 3) (nomark _)) (pw_or1 (pt_not (pt_val (pe_callB (allK (K := K) rfl) (by rfl) (f_all T) (by decide +kernel) (pa_cons (pe_lc (own := [("_law_one", 9)]) (g := gName 9) (by rfl) sc_law_right.nd (pi_list (pv 8)) (blkOk_by (own := [("_law_one", 9)]) (N := ["_law_web_here", "_law_names_here", "_law_ties", "_law_due", "_law_k", "_law_a", "_law_b", "_law_lot", "_law_told", "_law_one"]) (sc := defScope s_law_right) (by decide +kernel)) (fun _ _ _ _ _ => (pg_name (i := 9) sc_law_right.nd rfl (by first | exact Or.inl rfl | exact Or.inr rfl))) (fun _ _ _ _ _ => pts_nil) (fun _ _ _ _ _ => (pe_callB (isiK1 (K := K)) (by rfl) (f_isinstance T) (by decide +kernel) (pa_cons (pv 9) (pa_cons (pe_bltn (v := .ty "tuple") (by rfl) (f_tuple T) (by decide +kernel) rfl) pa_nil))))) pa_nil)))))))) (pss_one (ps_ret pe_bl)) pss_nil)
      (pss_cons (ps_for PassesOwn.never rfl (pi_list (pv 8)) (pg_tup (n := 2) rfl (pgs_cons (pg_name (i := 4) sc_law_right.nd rfl (by first | exact Or.inl rfl | exact Or.inr rfl)) (pgs_cons (pg_name (i := 7) sc_law_right.nd rfl (by first | exact Or.inl rfl | exact Or.inr rfl)) pgs_nil))) (pss_cons (ps_if (PW.pt (pw_or (pt_not (pt_val (pe_callB (isiK1 (K := K)) (by rfl) (f_isinstance T) (by decide +kernel) (pa_cons (pv 4) (pa_cons (pe_bltn (v := .ty "int") (by rfl) (f_int T) (by decide +kernel) rfl) pa_nil))))) (pw_or (pt_val (pe_callB (isiK1 (K := K)) (by rfl) (f_isinstance T) (by decide +kernel) (pa_cons (pv 4) (pa_cons (pe_bltn (v := .ty "bool") (by rfl) (f_bool T) (by decide +kernel) rfl) pa_nil)))) (pw_or1 (pt_cmpR (neDK (K := K) hr.units) (C8.pe_c (ok_crossing T) hr (by decide) (by rfl) (pa_cons (pv 0) (pa_cons (pv 7) pa_nil))) (pe_lst (pa_cons (pv 4) pa_nil)) (nomark _)))))) (pss_one (ps_ret pe_bl)) pss_nil)
      (pss_one (ps_expr (pe_bm PySem.F.plainAttrs_list PySem.F.slot_list_append PySem.F.type_list_append mt_append (pv 7) (pa_cons pe_str pa_nil))))))
      (pss_cons (ps_expr (pe_bm0 PySem.F.plainAttrs_list PySem.F.slot_list_clear PySem.F.type_list_clear mt_clear (pv 8)))
      (pss_one (ps_ret (pe_cmpR (eqDK (K := K) hr.units) (C8.pe_c (ok_bars T) hr (by decide) (by rfl) (pa_cons (pv 0) pa_nil)) (pv 3) (nomark _)))))))))), ?_⟩
    have hn9 := ok.n9
    have h20 := ok.t20
    have hnm := ok.names.ok
    -- due
    refine ⟨Nat.zero_le _, fun du ndu => ?_⟩
    refine ⟨_, rfl, b, _, rfl, SqL.of (same_new ndu _ _ hb), ?_⟩
    refine for_it (walk_enum (K := K) (a := b) (xs := ats.vals)) (fun k σ Hc => ∃ (ds : Abs) (y4 y5 y6 y7 : Option V), σ = [some (.ref x), some (.ref a), some (.ref b), some (.ref du), y4, y5, y6, y7, none, none] ∧ Same H Hc ∧ Hc du = some (.lst ds.vals) ∧ BarsAt Hc ds ∧ BarsNew H du ds ∧ ds.told = barUp ns ats.ties k)
      ⟨[], none, none, none, none, rfl, same_new ndu, upd_same, fun x hx => by simp at hx, ⟨fun x hx => by simp at hx, fun x hx => by simp at hx, List.nodup_nil⟩, rfl⟩ (fun k σ Hc _ ⟨_, _, _, _, _, _, z, _⟩ => SqL.of (z _ _ hb)) ?_ ?_
    · rintro k v σ Hc Hc' hk ⟨ds, y4, y5, y6, y7, rfl, sm, edu, hB, hN, hds⟩ ⟨T', x1, x2, rfl, nT, rfl, e1, e2⟩
      cases e1
      obtain ⟨⟨A', u, w'⟩, hA, rfl⟩ := Ats.vals_at e2
      have hm := List.mem_of_getElem? hA
      have hok := ok.ties _ hm
      have gts := Ats.ties_at hA
      rw [Ats.vals_len] at hk
      have hstep := barUp_succ (ns := ns) gts
      have sT : Same Hc (upd Hc T' (.tup [.int (k : Nat), .ref A'])) := same_new nT
      have smT := sm.trans sT
      have hbl : ds.length ≤ k := by
        rw [← Abs.told_len, hds]
        exact barUp_len _ _ _
      refine ⟨T', _, rfl, SqT.of upd_same, rfl, _, _, rfl, _, _, rfl, A', _, rfl, SqT.of (smT _ _ (hT _ hm)), rfl, _, _, rfl, _, _, rfl, rfl, rfl, ?_⟩
      refine ⟨_, rfl, _, rfl, (by show 2 ≤ sizeLine; decide), fun t nt => ⟨_, rfl, _, rfl, t, a, b, w', .int (k : Nat), ns, ats, rfl, upd_same, same_new nt _ _ (smT _ _ ha), same_new nt _ _ (smT _ _ hb), (hT.same smT).same (same_new nt), ok, hok.2.1, .inr ⟨_, rfl⟩, fun l H' nl s' el => ?_⟩⟩
      rw [edg_gone] at el
      have el2 : H' l = some (.lst ((lotOf ns ats.ties k w').map V.str)) := el
      have sCt : Same Hc _ := sT.next (o := .tup [.ref a, .ref b]) nt
      have sCH' := sCt.trans s'
      have sH' := sm.trans sCH'
      have fl : H l = none := (sm.trans sCt).free nl
      refine ⟨_, rfl, _, rfl, l, _, rfl, .inl (SqL.of el2), rfl, flat_strs _, _, rfl, ?_⟩
      show if (!inV (.str u) ((lotOf ns ats.ties k w').map V.str)) = true then _ else _
      rw [inV_strs]
      refine ite2 (fun c => ?_) (fun c => ?_)
      · have hno : u ∉ lotOf ns ats.ties k w' := fun z => by
          rw [decide_eq_true z] at c
          cases c
        rw [if_neg hno] at hstep
        refine ⟨_, rfl, .inl ⟨rfl, _, SqL.of (sCH' _ _ edu)⟩, _, rfl, _, rfl, (by show 2 ≤ sizeLine; decide), fun t2 nt2 => ⟨du, _, _, rfl, rfl, same_new nt2 _ _ (sCH' _ _ edu), ?_, ?_⟩⟩
        · rw [Abs.vals_len]
          exact small1000 (by omega)
        · have nfl : du ≠ l := ne_of_none (sCt _ _ edu) nl
          have ntf : t2 ≠ du := (ne_of_none (sCH' _ _ edu) nt2).symm
          have sF := sCH'.next (o := .tup [.int (k : Nat), .ref l]) nt2
          refine ⟨ds ++ [(t2, k, l, lotOf ns ats.ties k w')], _, _, _, _, rfl, (sH'.next nt2).into ndu, ?_, ?_, ?_, ?_⟩
          · rw [upd_same, Abs.vals_snoc]
          · intro y hy
            rcases List.mem_append.mp hy with hy | hy
            · have hb' := hB y hy
              refine ⟨?_, ?_⟩
              · rw [upd_ne (ne_of hb'.1 edu (by intro z; cases z))]
                exact sF _ _ hb'.1
              · rw [upd_ne (hN.lot y hy).2]
                exact sF _ _ hb'.2
            · rw [List.mem_singleton.mp hy]
              refine ⟨?_, ?_⟩
              · rw [upd_ne ntf]
                exact upd_same
              · rw [upd_ne nfl.symm, upd_ne (ne_of_none el2 nt2)]
                exact el2
          · refine ⟨?_, ?_, ?_⟩
            · intro y hy
              rcases List.mem_append.mp hy with hy | hy
              · exact hN.tup y hy
              · rw [List.mem_singleton.mp hy]
                exact sH'.free nt2
            · intro y hy
              rcases List.mem_append.mp hy with hy | hy
              · exact hN.lot y hy
              · rw [List.mem_singleton.mp hy]
                exact ⟨fl, nfl.symm⟩
            · rw [List.map_append, List.nodup_append]
              refine ⟨hN.nd, List.nodup_cons.mpr ⟨by simp, List.nodup_nil⟩, fun z hz z' hz' e => ?_⟩
              obtain ⟨y, hy, rfl⟩ := List.mem_map.mp hz
              have e2 : z' = l := List.mem_singleton.mp hz'
              rw [e2] at e
              exact ne_of_none (sCt _ _ (hB y hy).2) nl e
          · rw [Abs.told_snoc, hds, hstep]
      · have hyes : u ∈ lotOf ns ats.ties k w' := Classical.byContradiction fun z => c (by
          rw [decide_eq_false z]
          rfl)
        rw [if_pos hyes, List.append_nil] at hstep
        exact ⟨ds, _, _, _, _, rfl, sH', sCH' _ _ edu, hB.same sCH', hN, hds.trans hstep.symm⟩
    rintro σ H1 ⟨ds, y4, y5, y6, y7, rfl, s1, edu, hB, hN, hds⟩
    rw [Ats.vals_len, ← Ats.ties_len] at hds
    have hds : ds.told = barL ns ats.ties := hds
    have hpl := plain_dBars (l := barL ns ats.ties) (barUp_names hnm)
    -- told
    refine ⟨_, rfl, x, ns, ats, rfl, hW.same s1, ok, fun r bs H2 s2 nr hN2 er hB2 hbs => ?_⟩
    have hbl : bs.length ≤ ats.length := by
      rw [← Abs.told_len, hbs, ← Ats.ties_len]
      exact barUp_len _ _ _
    refine ⟨_, rfl, _, _, _, _, true, rfl, .ty _, .base (.lst er), kit_ty (by decide +kernel), true, rfl, ?_⟩
    refine ⟨_, rfl, _, rfl, _, _, dp_bars (SqL.of er) hB2, dp_bars (SqL.of (s2 _ _ edu)) (hB.same s2), (by rw [hbs]; exact hpl.shaped), (by rw [hds]; exact hpl.shaped), false, ?_, ?_⟩
    · rw [hbs, hds, hpl.eqv_self]
      rfl
    refine ⟨_, rfl, r, rfl, ⟨_, SqL.of er⟩, fun D nD => ?_⟩
    refine lc_list (K := K) (a := r) (xs := bs.vals) (fun i Hc => Same H2 Hc ∧ Hc D = some (.lst ((List.replicate i true).map V.bl))) ⟨same_new nD, upd_same⟩ (fun i Hc _ z => SqL.of (z.1 _ _ er)) ?_ ?_
    · rintro i v Hc hi ⟨sm, eD⟩
      obtain ⟨c, hc, rfl⟩ := Abs.vals_at hi
      have hil := (List.getElem?_eq_some_iff.mp hc).1
      refine ⟨rfl, _, rfl, _, _, _, _, true, rfl, .ty _, .base (.tup (sm _ _ (hB2 c (List.mem_of_getElem? hc)).1)), kit_ty (by decide +kernel), _, eD, ?_, sm.into nD, ?_⟩
      · rw [List.length_map, List.length_replicate]
        exact small1000 (by omega)
      · rw [upd_same, List.replicate_succ', List.map_append]
        rfl
    rintro H3 ⟨s3, eD⟩
    refine ⟨D, _, rfl, SqL.of eD, true, ?_, ?_⟩
    · rw [List.all_replicate]
      simp
    -- for k, lot in told
    have er3 := s3 _ _ er
    have hB3 := hB2.same s3
    have s13 := (s1.trans s2).trans s3
    have hrl : ∀ y ∈ bs, r ≠ y.2.2.1 := fun y hy => (hN2.lot y hy).2.symm
    refine ⟨_, rfl, r, rfl, ⟨_, SqL.of er3⟩, ?_⟩
    refine for_list (K := K) (a := r) (xs := bs.vals) (fun i σ Hc => ∃ y4 y7 : Option V, σ = [some (.ref x), some (.ref a), some (.ref b), some (.ref du), y4, y5, y6, y7, some (.ref r), none] ∧ (∀ z o, H3 z = some o → (∀ y ∈ bs, z ≠ y.2.2.1) → Hc z = some o) ∧ ∀ j y, i ≤ j → bs[j]? = some y → Hc y.2.2.1 = some (.lst (y.2.2.2.map V.str)))
      ⟨_, _, rfl, fun z o h _ => h, fun j y _ hy => (hB3 y (List.mem_of_getElem? hy)).2⟩ (fun i σ Hc _ ⟨_, _, _, z, _⟩ => SqL.of (z _ _ er3 hrl)) ?_ ?_
    · rintro i v σ Hc hi ⟨y4, y7, rfl, kc, hx⟩
      obtain ⟨y, hy, rfl⟩ := Abs.vals_at hi
      have hym := List.mem_of_getElem? hy
      have ety := kc _ _ (hB3 y hym).1 fun z hz => ne_of (hB3 y hym).1 (hB3 z hz).2 (by intro w; cases w)
      have ely := hx i y (Nat.le_refl _) hy
      have hpb : (y.2.1, y.2.2.2) ∈ barL ns ats.ties := by
        rw [← hbs]
        exact List.mem_map_of_mem hym
      obtain ⟨hlo, hcr⟩ := lot_of_bar ok hpb
      have sHc : Same H Hc := fun z o h => kc z o (s13 _ _ h) fun y hy => ne_of_none (s1 _ _ h) (hN2.lot y hy).1
      refine ⟨y.1, _, rfl, SqT.of ety, rfl, _, _, rfl, _, _, rfl, rfl, ?_⟩
      refine ⟨_, rfl, _, _, _, _, true, rfl, .ty _, .base (.int _), kit_ty (by decide +kernel), true, rfl, ?_⟩
      refine ⟨_, rfl, _, _, _, _, false, rfl, .ty _, .base (.int _), kit_ty (by decide +kernel), false, rfl, ?_⟩
      refine ⟨_, rfl, _, rfl, x, y.2.2.1, ns, ats, y.2.2.2, rfl, hW.same sHc, ok, ely, hlo, fun c H4 nc s4 ec => ?_⟩
      have hcr' : crossUp ats.ties (orderL ns y.2.2.2) ats.length = [(y.2.1 : Int)] := hcr
      rw [hcr'] at ec
      refine ⟨_, rfl, (by show 1 ≤ sizeLine; decide), fun c2 nc2 => ?_⟩
      refine ⟨dI [(y.2.1 : Int)], dI [(y.2.1 : Int)], dp_ints (SqL.of (same_new nc2 _ _ ec)), dp_ints (xs := [(y.2.1 : Int)]) (SqL.of upd_same), (plain_dI _).shaped, (plain_dI _).shaped, false, ?_, ?_⟩
      · rw [(plain_dI _).eqv_self]
        rfl
      have s5 : Same Hc _ := s4.next (o := .lst [.int (y.2.1 : Nat)]) nc2
      refine ⟨_, rfl, .inl ⟨rfl, _, SqL.of (s5 _ _ ely)⟩, _, _, _, rfl, rfl, s5 _ _ ely, ?_, _, _, rfl, fun z o h n => ?_, fun j z hj hz => ?_⟩
      · rw [List.length_map]
        have := hlo.lt
        exact small1000 (by show y.2.2.2.length ≤ 1000; have h : y.2.2.2.length < ns.length := this; omega)
      · rw [upd_ne (n y hym)]
        exact s5 _ _ (kc z o h n)
      · have hne : z.2.2.1 ≠ y.2.2.1 := by
          have g1 : (bs.map fun x => x.2.2.1)[j]? = some z.2.2.1 := by
            rw [List.getElem?_map, hz]
            rfl
          have g2 : (bs.map fun x => x.2.2.1)[i]? = some y.2.2.1 := by
            rw [List.getElem?_map, hy]
            rfl
          intro e
          rw [e] at g1
          have hnd := hN2.nd
          unfold List.Nodup at hnd
          rw [List.pairwise_iff_getElem] at hnd
          obtain ⟨l1, e1⟩ := List.getElem?_eq_some_iff.mp g1
          obtain ⟨l2, e2⟩ := List.getElem?_eq_some_iff.mp g2
          exact hnd i j l2 l1 (by omega) (e2.trans e1.symm)
        rw [upd_ne hne]
        exact s5 _ _ (hx j z (by omega) hz)
    · rintro σ Hc ⟨y4, y7, rfl, kc, hx⟩
      have er4 := kc _ _ er3 hrl
      refine ⟨_, rfl, .inl ⟨rfl, _, SqL.of er4⟩, r, _, rfl, rfl, er4, ?_⟩
      generalize hH4 : upd Hc r (.lst []) = H4
      have k4 : ∀ z o, H3 z = some o → (∀ y ∈ bs, z ≠ y.2.2.1) → z ≠ r → H4 z = some o := fun z o h n nr => by
        rw [← hH4, upd_ne nr]
        exact kc z o h n
      have k1 : Same H1 H4 := fun z o h => k4 z o (s3 _ _ (s2 _ _ h)) (fun y hy => ne_of_none h (hN2.lot y hy).1) (ne_of_none h nr)
      have s4 := s1.trans k1
      refine ⟨_, rfl, x, ns, ats, rfl, hW.same s4, ok, fun r2 bs2 H5 s5 _ _ er5 hB5 hbs5 => ?_⟩
      refine ⟨_, rfl, _, _, dp_bars (SqL.of er5) hB5, dp_bars (SqL.of (s5 _ _ (k1 _ _ edu))) ((hB.same k1).same s5), (by rw [hbs5]; exact hpl.shaped), (by rw [hds]; exact hpl.shaped), ?_⟩
      rw [hbs5, hds, hpl.eqv_self]
      exact q _ (s4.trans s5)
/-! ### the law -/
theorem name_b : IsName ("b" : Str) := name_of [98] (by decide +kernel) (by decide) (by decide) (by decide)
theorem name_a : IsName ("a" : Str) := name_of [97] (by decide +kernel) (by decide) (by decide) (by decide)
theorem names_ba : NamesOk ["b", "a"] := ⟨by decide +kernel, fun x hx => by
  rcases List.mem_cons.mp hx with rfl | hx
  · exact name_b
  · rw [List.mem_singleton.mp hx]
    exact name_a⟩
theorem hang_lone {ns : List Str} {E : Str → Str → Prop} (h : ∀ x y, ¬ E x y) (p : Str) : hangL ns E p = ns.filter fun z => decide (z ∈ [p]) := (filter_hang fun z _ => ⟨fun hz => by
  rw [List.mem_singleton.mp hz]
  exact .refl, fun hz => by
  cases hz with
  | refl => exact List.mem_singleton.mpr rfl
  | step _ e => exact absurd e (h _ _)⟩).symm
theorem bar_one : barL ["b", "a"] [("b", "a")] = ([(0, ["a"])] : List (Nat × List Str)) := by
  have e : lotOf ["b", "a"] [("b", "a")] 0 "a" = (["a"] : List Str) := by
    unfold lotOf
    rw [hang_lone]
    · decide +kernel
    · rintro x y ⟨k, t, hk, ht, _⟩
      match k, hk, ht with
      | 0, hk, _ => exact hk rfl
      | k + 1, _, ht => simp at ht
  unfold barL
  show [] ++ (if ("b" : Str) ∈ lotOf ["b", "a"] [("b", "a")] 0 "a" then [] else [(0, lotOf ["b", "a"] [("b", "a")] 0 "a")]) = _
  rw [e, if_neg (by decide +kernel)]
  rfl
theorem bar_two : barL ["b", "a"] [("b", "a"), ("a", "b")] = ([] : List (Nat × List Str)) := by
  have e0 : ("b" : Str) ∈ lotOf ["b", "a"] [("b", "a"), ("a", "b")] 0 "a" := mem_hangL.mpr ⟨by decide +kernel, .step .refl ⟨1, ("a", "b"), by decide, rfl, .inl ⟨rfl, rfl⟩⟩⟩
  have e1 : ("a" : Str) ∈ lotOf ["b", "a"] [("b", "a"), ("a", "b")] 1 "b" := mem_hangL.mpr ⟨by decide +kernel, .step .refl ⟨0, ("b", "a"), by decide, rfl, .inl ⟨rfl, rfl⟩⟩⟩
  unfold barL
  show ([] ++ (if ("b" : Str) ∈ lotOf ["b", "a"] [("b", "a"), ("a", "b")] 0 "a" then [] else _)) ++ (if ("a" : Str) ∈ lotOf ["b", "a"] [("b", "a"), ("a", "b")] 1 "b" then [] else _) = _
  rw [if_pos e0, if_pos e1]
  rfl
theorem tie_ba : TieOk ["b", "a"] ("b", "a") := ⟨by decide +kernel, by decide +kernel, by decide +kernel⟩
theorem tie_ab : TieOk ["b", "a"] ("a", "b") := ⟨by decide +kernel, by decide +kernel, by decide +kernel⟩
def spLaw (K : PySem.W.Frag) : Sp := fun vs H Q _ => ∃ (a : Addr) (ns : List Int), vs = [.ref a] ∧ SqL K H a (ns.map V.int) ∧ ns.length ≤ 63 ∧ ∀ H', Q (.bl true) H'
theorem fn_law {P : Program} {w : World} {K : PySem.W.Frag} {mg : Str → Option Value} {base : Heap} (T : Top K mg) {fd : FuncData}
    (F : FunD K "law" "law" (defArgs s_law) (defBody s_law) (defScope s_law) [] [] (He.fAd K ("law", none)) fd) : FnOk P w K mg base C8.CX0 6 (He.fAd K ("law", none)) fd ["_law_script"] (spLaw K) := by
  refine fnok_of F sc_law (fun vs H Q E h => ?_) (fun cdv A outer s H vs Q E hr h => ?_)
  · obtain ⟨a, ns, rfl, _⟩ := h
    rfl
  · obtain ⟨a, ns, rfl, hS, hlen, q⟩ := h
    refine ⟨_, (pss_cons (ps_for PassesOwn.never rfl (pi_range1 (by rfl) (f_range T) (pa_cons (pe_callB (call_max2 rfl) (by rfl) (f_max T) (by decide +kernel) (pa_cons pe_int (pa_cons (pe_callB (call_min2 rfl) (by rfl) (f_min T) (by decide +kernel) (pa_cons (pe_callB (lenK (K := K)) (by rfl) (f_len T) PySem.boot_len (pa_cons (pv 0) pa_nil)) (pa_cons pe_int pa_nil))) pa_nil))) pa_nil)) (pg_name (i := 1) sc_law.nd rfl (by first | exact Or.inl rfl | exact Or.inr rfl)) (pss_cons (ps_asg (C8.pe_c (ok_law_web T) hr (by decide) (by rfl) (pa_cons (C8.pe_c (ok_law_pot T) hr (by decide) (by rfl) (pa_cons (pv 0) (pa_cons (pv 1) pa_nil))) (pa_cons pe_int (pa_cons pe_int pa_nil)))) (pg_tup (n := 2) rfl (pgs_cons (pg_name (i := 2) sc_law.nd rfl (by first | exact Or.inl rfl | exact Or.inr rfl)) (pgs_cons (pg_name (i := 3) sc_law.nd rfl (by first | exact Or.inl rfl | exact Or.inr rfl)) pgs_nil))))
      (pss_one (ps_if (pt_not (pt_val (C8.pe_c (ok_law_right T) hr (by decide) (by rfl) (pa_cons (C8.pe_mk (ok_Web_init T) hr (by decide) (by rfl) (pa_cons (pv 2) (pa_cons (pv 3) pa_nil))) (pa_cons (pv 2) (pa_cons (pv 3) pa_nil)))))) (pss_one (ps_ret pe_bl)) pss_nil))))
      (pss_one (ps_ret (pe_and (pe_cmpR (eqDK (K := K) hr.units) (C8.pe_c (ok_bars T) hr (by decide) (by rfl) (pa_cons (C8.pe_mk (ok_Web_init T) hr (by decide) (by rfl) (pa_cons (pe_lst (pa_cons pe_str (pa_cons pe_str pa_nil))) (pa_cons (pe_lst (pa_cons (pe_tup (pa_cons pe_str (pa_cons pe_str pa_nil))) pa_nil)) pa_nil))) pa_nil)) (pe_lst (pa_cons (pe_tup (pa_cons pe_int (pa_cons (pe_lst (pa_cons pe_str pa_nil)) pa_nil))) pa_nil)) (nomark _)) (pe_one (pe_cmpR (eqDK (K := K) hr.units) (C8.pe_c (ok_bars T) hr (by decide) (by rfl) (pa_cons (C8.pe_mk (ok_Web_init T) hr (by decide) (by rfl) (pa_cons (pe_lst (pa_cons pe_str (pa_cons pe_str pa_nil))) (pa_cons (pe_lst (pa_cons (pe_tup (pa_cons pe_str (pa_cons pe_str pa_nil))) (pa_cons (pe_tup (pa_cons pe_str (pa_cons pe_str pa_nil))) pa_nil))) pa_nil))) pa_nil)) (pe_lst pa_nil) (nomark _))))))), ?_⟩
    have hlm : ((ns.map V.int).length : Int) = ns.length := by rw [List.length_map]
    refine ⟨_, rfl, a, _, rfl, .inl hS, _, _, rfl, _, _, rfl, _, rfl, ?_, ?_, ?_⟩
    · split <;> split <;> omega
    · split <;> split <;> omega
    have hcnt : (if (if (6 : Int) < ((ns.map V.int).length : Int) then 6 else ((ns.map V.int).length : Int)) > 2 then (if (6 : Int) < ((ns.map V.int).length : Int) then 6 else ((ns.map V.int).length : Int)) else 2).toNat ≤ 6 := by
      split <;> split <;> omega
    refine for_range (lo := 0) (fun i σ Hc => ∃ y1 y2 y3 : Option V, σ = [some (.ref a), y1, y2, y3] ∧ Same H Hc) ⟨none, none, none, rfl, Same.refl H⟩ ?_ ?_
    · rintro i σ Hc hi ⟨y1, y2, y3, rfl, sm⟩
      have hi6 : i < 6 := Nat.lt_of_lt_of_le hi hcnt
      refine ⟨_, rfl, _, rfl, a, _, ns, rfl, sm.seq hS, by omega, by omega, by omega, fun p H1 np s1 hp => ⟨p, 9, 20, rfl, hp, by decide, by decide, by decide, by decide, fun t wa wb nm ats H2 hn n1 n9 t20 hv ft fa fb nab k2 p2 et ea eb hT => ?_⟩⟩
      have ok : WebOk nm ats := ⟨hn, n1, by omega, by omega, hv⟩
      have s2 : Same H H2 := fun z o h => k2 z o (ne_of_none (sm _ _ h) np) (s1 _ _ (sm _ _ h))
      refine ⟨t, _, rfl, SqT.of et, rfl, _, _, rfl, _, _, rfl, rfl, ?_⟩
      refine ⟨_, rfl, _, rfl, make_web ea eb hT ok fun x H3 nx s3 hW => ?_⟩
      refine ⟨_, rfl, _, rfl, x, wa, wb, nm, ats, rfl, hW, ok, s3 _ _ ea, s3 _ _ eb, hT.same s3, fun H4 s4 => ⟨true, rfl, ?_⟩⟩
      exact ⟨_, _, _, rfl, (s2.trans s3).trans s4⟩
    · rintro σ Hc ⟨y1, y2, y3, rfl, sm⟩
      -- the two fixed webs
      refine ⟨(by show 2 ≤ sizeLine; decide), fun l1 n1 => ⟨(by show 2 ≤ sizeLine; decide), fun t1 m1 => ⟨(by show 1 ≤ sizeLine; decide), fun l2 n2 => ?_⟩⟩⟩
      refine make_web (ns := ["b", "a"]) (ats := [(t1, "b", "a")]) (same_new n2 _ _ (same_new m1 _ _ upd_same)) upd_same (fun z hz => by rw [List.mem_singleton.mp hz]; exact same_new n2 _ _ upd_same) ⟨names_ba, by decide, by decide, (by show 1 ≤ 20; decide), fun z hz => by rw [List.mem_singleton.mp hz]; exact tie_ba⟩ fun x H3 nx s3 hW => ?_
      refine ⟨x, _, _, rfl, hW, ⟨names_ba, by decide, by decide, (by show 1 ≤ 20; decide), fun z hz => by rw [List.mem_singleton.mp hz]; exact tie_ba⟩, fun r bs H4 s4 _ _ er hB hbs => ?_⟩
      rw [show barL ["b", "a"] (Ats.ties [(t1, "b", "a")]) = ([(0, ["a"])] : List (Nat × List Str)) from bar_one] at hbs
      refine ⟨(by show 1 ≤ sizeLine; decide), fun m2 nm2 => ⟨(by show 2 ≤ sizeLine; decide), fun m3 nm3 => ⟨(by show 1 ≤ sizeLine; decide), fun m4 nm4 => ?_⟩⟩⟩
      have hpl : Plain 3 (dBars ([(0, ["a"])] : List (Nat × List Str))) := plain_dBars fun p hp z hz => by
        rw [List.mem_singleton.mp hp] at hz
        rw [List.mem_singleton.mp hz]
        exact name_a
      have e2 := (same_new (o := HO.lst [.str "a"]) nm2)
      have e3 := (same_new (o := HO.tup [.int 0, .ref m2]) nm3)
      have e4 := (same_new (o := HO.lst [.ref m3]) nm4)
      have sA := (e2.trans e3).trans e4
      refine ⟨_, _, dp_bars (SqL.of (sA _ _ er)) (hB.same sA), dp_bars (l := [(m3, 0, m2, ["a"])]) (SqL.of upd_same) (fun z hz => by rw [List.mem_singleton.mp hz]; exact ⟨e4 _ _ upd_same, e4 _ _ (e3 _ _ upd_same)⟩), (by rw [hbs]; exact hpl.shaped), hpl.shaped, true, ?_, ?_⟩
      · rw [hbs]
        exact congrArg V.bl hpl.eqv_self
      refine ⟨(by show 2 ≤ sizeLine; decide), fun l1 n1 => ⟨(by show 2 ≤ sizeLine; decide), fun t1 m1 => ⟨(by show 2 ≤ sizeLine; decide), fun t2 m2 => ⟨(by show 2 ≤ sizeLine; decide), fun l2 n2 => ?_⟩⟩⟩⟩
      have ok2 : WebOk ["b", "a"] [(t1, "b", "a"), (t2, "a", "b")] := ⟨names_ba, by decide, by decide, (by show 2 ≤ 20; decide), fun z hz => by
        rcases List.mem_cons.mp hz with rfl | hz
        · exact tie_ba
        · rw [List.mem_singleton.mp hz]
          exact tie_ab⟩
      refine make_web (ns := ["b", "a"]) (ats := [(t1, "b", "a"), (t2, "a", "b")]) (same_new n2 _ _ (same_new m2 _ _ (same_new m1 _ _ upd_same))) upd_same (fun z hz => by
        rcases List.mem_cons.mp hz with rfl | hz
        · exact same_new n2 _ _ (same_new m2 _ _ upd_same)
        · rw [List.mem_singleton.mp hz]
          exact same_new n2 _ _ upd_same) ok2 fun x H5 nx s5 hW => ?_
      refine ⟨x, _, _, rfl, hW, ok2, fun r bs H6 s6 _ _ er hB hbs => ?_⟩
      rw [show barL ["b", "a"] (Ats.ties [(t1, "b", "a"), (t2, "a", "b")]) = ([] : List (Nat × List Str)) from bar_two] at hbs
      refine ⟨Nat.zero_le _, fun m5 nm5 => ?_⟩
      have e5 := (same_new (o := HO.lst []) nm5)
      have hpl : Plain 3 (dBars []) := plain_dBars fun p hp => by simp at hp
      refine ⟨_, _, dp_bars (SqL.of (e5 _ _ er)) (hB.same e5), dp_bars (l := []) (SqL.of upd_same) (fun z hz => by simp at hz), (by rw [hbs]; exact hpl.shaped), hpl.shaped, ?_⟩
      rw [hbs]
      show Q (V.bl (PyData.eqv (dBars []) (dBars []))) _
      rw [hpl.eqv_self]
      exact q _
theorem law_end {P : Program} {w : World} {K : PySem.W.Frag} {mg : Str → Option Value} {fa : Addr} (T : Top K mg) (hmg : mg "law" = some (.ref fa)) :
    ∃ fd : FuncData, (∀ (s : Shared) (v : Value), BindsTo s fd ⟨[v], []⟩ [("_law_script", v)]) ∧ ∀ base : Heap, K.In base → base.Ns mainGlobals mg → FnOk P w K mg base C8.CX0 6 fa fd ["_law_script"] (spLaw K) := by
  obtain ⟨fd, F⟩ := fd_law T
  have e := hmg.symm.trans (g_law T)
  cases e
  exact ⟨fd, fun s v => FunD.bindsA (ps := ["_law_script"]) F bi_law s [v] rfl, fun base _ _ => fn_law T F⟩
end PW

namespace PW
open PySem PySem.W PySem.Calls PyProof.Rows
def loose0 : List PySem.Str := ["PointError", "NoWeb", "NoLot", "SMALL", "MOST_LETTERS", "MOST_POINTS", "MOST_TIES", "is_row", "is_name", "are_names", "is_pair", "Web", "in_order", "ties_crossing", "lot_of", "crossing", "far_end", "hanging", "bars", "_law_pot", "_law_take", "_law_names", "_law_mixed", "_law_tie", "_law_web", "_law_hang", "_law_right"]
def loose : List PySem.Str := loose0
abbrev R : PySem.W.OpenRow := PySem.W.OpenLaw.row PySem.Challenge.rw_pointways_k22_whole_bars
abbrev hk : PySem.W.Hook := He.hookD 5 fa fn
def ob (s : PySem.W.SharedT) : He.AlD := He.obsDG 5 fa fn (HandSHeadRun.getT s)
theorem ob_eq (s : PySem.W.SharedT) : ob s = hk.obs s.abs := He.obsDG_eq (HandSHeadRun.getT_eq s)
theorem run (w : World) : HandSHeadRun.RunEq R (PySem.W.view R.prog [32]) hk ob 4000 loose w := by
  intro os
  kernel_rfl
end PW
open PySem PySem.W PySem.Calls PyProof.Rows
set_option maxHeartbeats 0 in
theorem PySem.Challenge.cw_pointways_k22_whole_bars_holds : PySem.Challenge.rw_pointways_k22_whole_bars.Holds := by
  w_on; o_law
  refine HandSHeadRun.head_any (r := OpenLaw.row PySem.Challenge.rw_pointways_k22_whole_bars)
    (q := view (OpenLaw.row PySem.Challenge.rw_pointways_k22_whole_bars).prog [32]) (H := PW.hk) (ob := PW.ob) (M := 4000) (loose := PW.loose)
    (d := HandSHeadRun.topDef (OpenLaw.row PySem.Challenge.rw_pointways_k22_whole_bars).prog 32) (kwd := []) PW.ob_eq (by kernel_rfl) (fun s => by kernel_rfl) PW.run
    (by kernel_rfl) (by kernel_rfl) (by kernel_rfl) (by rfl) (by first | assumption | decide +kernel) (by decide +kernel)
    ⟨rfl, rfl, rfl, rfl, rfl, by decide +kernel⟩ ?hw ?hc
  case hw => w_witness2
  case hc =>
    refine L2.walk_ofE (l := PySem.Challenge.rw_pointways_k22_whole_bars) (n := 63) (k := 6) (x := "_law_script") (CX := C8.CX0)
      rfl (by decide) (by kernel_rfl) ⟨rfl, by decide, by decide⟩ ?F (fun _ _ _ _ z => z)
    intro w mg fa h Y G hmg0
    obtain ⟨K, KX, c⟩ := Y
    have hmg : mg ("law" : PySem.Str) = some (.ref fa) := by
      have e : (HandSHeadRun.topDef (OpenLaw.row PySem.Challenge.rw_pointways_k22_whole_bars).prog 32).name = ("law" : PySem.Str) := by kernel_rfl
      rw [← e]
      exact hmg0
    have T : PW.Top K mg := PW.TopOf.mk' KX G c
    obtain ⟨fd, hb, hF⟩ := PW.law_end (P := (PySem.Challenge.rw_pointways_k22_whole_bars).prog) (w := w) T hmg
    exact ⟨K, fd, PW.spLaw K, KX, hb, fun H a ns hl _ hS => ⟨a, ns, rfl, hS, hl, fun _ => rfl⟩, hF⟩
