import PyProof.Rows.All
import Wide.All
import OpenK.AllK
import Wide.FinOn
import HandS.ForMost
import PySem.Challenge.RW_triplefree_k37_whole_composed_pairs
import KE.KStateDown
import Lean
import HandS.More
import HandS.Exc
import HandS.WordsExc
import HandS.Defaults
import HandS.Property
import HandS.ClsMeth
import HandS.Head0
import HandS.Head1
import HandS.Head2
import HandS.HeadEnd
import HandS.HeadHook1
import HandS.HeadHook2
import KE.GoesMore
import HandS.Walk
import KE.DataMinMax
import HandS.Star
import KE.KDictZip
import KE.KTurns
import KE.KDictList
import HandS.Conv
import HandS.Comp
import HandS.DictComp
import HandS.Style
import HandS.IsInst
import HandS.CallRecv
import HandS.MakeKwOnly
import HandS.DictSub
import HandS.Deep
set_option Elab.async false
set_option linter.all false
set_option maxRecDepth 100000
set_option maxHeartbeats 0
/-! ### the text by places -/
namespace Tf
open PySem PySem.Spec PyProof.Rows L2
def top (i : Nat) : Stmt := PySem.Challenge.pw_triplefree_k37_whole_composed_pairs.main.body.getD i (.Pass ⟨0, 0, 0, 0⟩)
abbrev sis_integer : Stmt := top 14
abbrev scheck_number : Stmt := top 15
abbrev sdigits_in : Stmt := top 16
abbrev snumber_of : Stmt := top 17
abbrev sare_plain : Stmt := top 18
abbrev srank_of : Stmt := top 21
abbrev sin_base : Stmt := top 23
abbrev sbase_rank : Stmt := top 24
abbrev splain_pair : Stmt := top 25
abbrev sis_between : Stmt := top 27
abbrev scheck_shape : Stmt := top 28
abbrev sspoiling_triple : Stmt := top 29
abbrev sserving_table : Stmt := top 30
abbrev sunserved_remainder : Stmt := top 31
abbrev scheck_cells : Stmt := top 34
abbrev sis_count : Stmt := top 35
abbrev scheck_count : Stmt := top 36
abbrev sLbegin : Stmt := top 39
abbrev sLdraw : Stmt := top 40
abbrev sLstock : Stmt := top 41
abbrev sLdrawn : Stmt := top 42
abbrev sLcells : Stmt := top 43
abbrev sLstack : Stmt := top 44
abbrev sLbase : Stmt := top 45
abbrev sLis_plain : Stmt := top 46
abbrev sLmember : Stmt := top 47
abbrev sLhas : Stmt := top 48
abbrev sLserving : Stmt := top 49
abbrev sLplain : Stmt := top 50
abbrev sLcomposed : Stmt := top 51
abbrev sLnumber_right : Stmt := top 52
abbrev slaw : Stmt := top 53
abbrev sCinit : Stmt := inClass (top 32) 2
abbrev sCmodulus : Stmt := inClass (top 32) 3
abbrev sCmembers : Stmt := inClass (top 32) 4
abbrev sCsize : Stmt := inClass (top 32) 5
abbrev sCgreatest : Stmt := inClass (top 32) 6
abbrev sCcheck_remainder : Stmt := inClass (top 32) 9
abbrev sChas : Stmt := inClass (top 32) 10
abbrev sCserving_pair : Stmt := inClass (top 32) 11
abbrev sCcarry : Stmt := inClass (top 32) 12
abbrev sSinit : Stmt := inClass (top 37) 1
abbrev sSmodulus : Stmt := inClass (top 37) 3
abbrev sSgreatest : Stmt := inClass (top 37) 5
abbrev sSpush : Stmt := inClass (top 37) 8
abbrev sSremainders : Stmt := inClass (top 37) 10
abbrev sSfrom_remainders : Stmt := inClass (top 37) 11
abbrev sSrank : Stmt := inClass (top 37) 15
abbrev sScomposed_pair : Stmt := inClass (top 37) 18
theorem scis_integer : FnScope ["value", "low", "high"] ["value", "low", "high"] (defScope sis_integer) :=
  ⟨rfl, rfl, rfl, by decide +kernel, rfl, by decide +kernel, by decide +kernel⟩
theorem sccheck_number : FnScope ["value", "low", "high"] ["value", "low", "high"] (defScope scheck_number) :=
  ⟨rfl, rfl, rfl, by decide +kernel, rfl, by decide +kernel, by decide +kernel⟩
theorem scdigits_in : FnScope ["number", "radix", "found", "digit"] ["number", "radix"] (defScope sdigits_in) :=
  ⟨rfl, rfl, rfl, by decide +kernel, rfl, by decide +kernel, by decide +kernel⟩
theorem scnumber_of : FnScope ["digits", "radix", "found", "digit"] ["digits", "radix"] (defScope snumber_of) :=
  ⟨rfl, rfl, rfl, by decide +kernel, rfl, by decide +kernel, by decide +kernel⟩
theorem scare_plain : FnScope ["digits"] ["digits"] (defScope sare_plain) :=
  ⟨rfl, rfl, rfl, by decide +kernel, rfl, by decide +kernel, by decide +kernel⟩
theorem scrank_of : FnScope ["x", "digits", "place"] ["x"] (defScope srank_of) :=
  ⟨rfl, rfl, rfl, by decide +kernel, rfl, by decide +kernel, by decide +kernel⟩
theorem scin_base : FnScope ["x"] ["x"] (defScope sin_base) :=
  ⟨rfl, rfl, rfl, by decide +kernel, rfl, by decide +kernel, by decide +kernel⟩
theorem scbase_rank : FnScope ["x"] ["x"] (defScope sbase_rank) :=
  ⟨rfl, rfl, rfl, by decide +kernel, rfl, by decide +kernel, by decide +kernel⟩
theorem scplain_pair : FnScope ["m", "digits", "lower", "upper", "digit"] ["m"] (defScope splain_pair) :=
  ⟨rfl, rfl, rfl, by decide +kernel, rfl, by decide +kernel, by decide +kernel⟩
theorem scis_between : FnScope ["value", "low", "high"] ["value", "low", "high"] (defScope sis_between) :=
  ⟨rfl, rfl, rfl, by decide +kernel, rfl, by decide +kernel, by decide +kernel⟩
theorem sccheck_shape : FnScope ["modulus", "members", "before", "index", "member"] ["modulus", "members"] (defScope scheck_shape) :=
  ⟨rfl, rfl, rfl, by decide +kernel, rfl, by decide +kernel, by decide +kernel⟩
theorem scspoiling_triple : FnScope ["modulus", "members", "known", "low", "middle", "high", "member"] ["modulus", "members"] (defScope sspoiling_triple) :=
  ⟨rfl, rfl, rfl, by decide +kernel, rfl, by decide +kernel, by decide +kernel⟩
theorem scserving_table : FnScope ["modulus", "members", "found", "most", "low", "middle", "carry", "rest"] ["modulus", "members"] (defScope sserving_table) :=
  ⟨rfl, rfl, rfl, by decide +kernel, rfl, by decide +kernel, by decide +kernel⟩
theorem scunserved_remainder : FnScope ["modulus", "members", "table", "known", "rest", "member"] ["modulus", "members", "table"] (defScope sunserved_remainder) :=
  ⟨rfl, rfl, rfl, by decide +kernel, rfl, by decide +kernel, by decide +kernel⟩
theorem sccheck_cells : FnScope ["values", "index", "value"] ["values"] (defScope scheck_cells) :=
  ⟨rfl, rfl, rfl, by decide +kernel, rfl, by decide +kernel, by decide +kernel⟩
theorem scis_count : FnScope ["value"] ["value"] (defScope sis_count) :=
  ⟨rfl, rfl, rfl, by decide +kernel, rfl, by decide +kernel, by decide +kernel⟩
theorem sccheck_count : FnScope ["value"] ["value"] (defScope scheck_count) :=
  ⟨rfl, rfl, rfl, by decide +kernel, rfl, by decide +kernel, by decide +kernel⟩
theorem scLbegin : FnScope ["_law_script", "_law_spot", "_law_own"] ["_law_script", "_law_spot"] (defScope sLbegin) :=
  ⟨rfl, rfl, rfl, by decide +kernel, rfl, by decide +kernel, by decide +kernel⟩
theorem scLdraw : FnScope ["_law_state", "_law_size", "_law_found"] ["_law_state", "_law_size"] (defScope sLdraw) :=
  ⟨rfl, rfl, rfl, by decide +kernel, rfl, by decide +kernel, by decide +kernel⟩
theorem scLstock : FnScope ["_law_some"] [] (defScope sLstock) :=
  ⟨rfl, rfl, rfl, by decide +kernel, rfl, by decide +kernel, by decide +kernel⟩
theorem scLdrawn : FnScope ["_law_state", "_law_most", "_law_bound", "_law_rows", "_law_found", "_law_whole", "_law_turn", "_law_row"] ["_law_state", "_law_most", "_law_bound"] (defScope sLdrawn) :=
  ⟨rfl, rfl, rfl, by decide +kernel, rfl, by decide +kernel, by decide +kernel⟩
theorem scLcells : FnScope ["_law_rows", "_law_row"] ["_law_rows"] (defScope sLcells) :=
  ⟨rfl, rfl, rfl, by decide +kernel, rfl, by decide +kernel, by decide +kernel⟩
theorem scLstack : FnScope ["_law_some"] ["_law_some"] (defScope sLstack) :=
  ⟨rfl, rfl, rfl, by decide +kernel, rfl, by decide +kernel, by decide +kernel⟩
theorem scLbase : FnScope ["_law_label", "_law_found", "_law_step"] ["_law_label"] (defScope sLbase) :=
  ⟨rfl, rfl, rfl, by decide +kernel, rfl, by decide +kernel, by decide +kernel⟩
theorem scLis_plain : FnScope ["_law_place"] ["_law_place"] (defScope sLis_plain) :=
  ⟨rfl, rfl, rfl, by decide +kernel, rfl, by decide +kernel, by decide +kernel⟩
theorem scLmember : FnScope ["_law_rows", "_law_label", "_law_found", "_law_whole", "_law_step", "_law_parts"] ["_law_rows", "_law_label"] (defScope sLmember) :=
  ⟨rfl, rfl, rfl, by decide +kernel, rfl, by decide +kernel, by decide +kernel⟩
theorem scLhas : FnScope ["_law_rows", "_law_place", "_law_step", "_law_parts"] ["_law_rows", "_law_place"] (defScope sLhas) :=
  ⟨rfl, rfl, rfl, by decide +kernel, rfl, by decide +kernel, by decide +kernel⟩
theorem scLserving : FnScope ["_law_step", "_law_parts", "_law_rest", "_law_found", "_law_low", "_law_middle", "_law_goal"] ["_law_step", "_law_parts", "_law_rest"] (defScope sLserving) :=
  ⟨rfl, rfl, rfl, by decide +kernel, rfl, by decide +kernel, by decide +kernel⟩
theorem scLplain : FnScope ["_law_place", "_law_low", "_law_middle", "_law_step", "_law_digit"] ["_law_place"] (defScope sLplain) :=
  ⟨rfl, rfl, rfl, by decide +kernel, rfl, by decide +kernel, by decide +kernel⟩
theorem scLcomposed : FnScope ["_law_rows", "_law_place", "_law_step", "_law_parts", "_law_rest", "_law_low", "_law_middle", "_law_over", "_law_inner"] ["_law_rows", "_law_place"] (defScope sLcomposed) :=
  ⟨rfl, rfl, rfl, by decide +kernel, rfl, by decide +kernel, by decide +kernel⟩
theorem scLnumber_right : FnScope ["_law_line", "_law_rows", "_law_place", "_law_due", "_law_low", "_law_middle"] ["_law_line", "_law_rows", "_law_place"] (defScope sLnumber_right) :=
  ⟨rfl, rfl, rfl, by decide +kernel, rfl, by decide +kernel, by decide +kernel⟩
theorem sclaw : FnScope ["_law_script", "_law_spot", "_law_state", "_law_turn", "_law_rows", "_law_line", "_law_far", "_law_some", "_law_place", "_law_each", "_law_k"] ["_law_script"] (defScope slaw) :=
  ⟨rfl, rfl, rfl, by decide +kernel, rfl, by decide +kernel, by decide +kernel⟩
theorem scCinit : FnScope ["self", "modulus", "members", "triple", "rest", "member"] ["self", "modulus", "members"] (defScope sCinit) :=
  ⟨rfl, rfl, rfl, by decide +kernel, rfl, by decide +kernel, by decide +kernel⟩
theorem scCmodulus : FnScope ["self"] ["self"] (defScope sCmodulus) :=
  ⟨rfl, rfl, rfl, by decide +kernel, rfl, by decide +kernel, by decide +kernel⟩
theorem scCmembers : FnScope ["self"] ["self"] (defScope sCmembers) :=
  ⟨rfl, rfl, rfl, by decide +kernel, rfl, by decide +kernel, by decide +kernel⟩
theorem scCsize : FnScope ["self"] ["self"] (defScope sCsize) :=
  ⟨rfl, rfl, rfl, by decide +kernel, rfl, by decide +kernel, by decide +kernel⟩
theorem scCgreatest : FnScope ["self"] ["self"] (defScope sCgreatest) :=
  ⟨rfl, rfl, rfl, by decide +kernel, rfl, by decide +kernel, by decide +kernel⟩
theorem scCcheck_remainder : FnScope ["self", "remainder"] ["self", "remainder"] (defScope sCcheck_remainder) :=
  ⟨rfl, rfl, rfl, by decide +kernel, rfl, by decide +kernel, by decide +kernel⟩
theorem scChas : FnScope ["self", "remainder"] ["self", "remainder"] (defScope sChas) :=
  ⟨rfl, rfl, rfl, by decide +kernel, rfl, by decide +kernel, by decide +kernel⟩
theorem scCserving_pair : FnScope ["self", "remainder"] ["self", "remainder"] (defScope sCserving_pair) :=
  ⟨rfl, rfl, rfl, by decide +kernel, rfl, by decide +kernel, by decide +kernel⟩
theorem scCcarry : FnScope ["self", "remainder"] ["self", "remainder"] (defScope sCcarry) :=
  ⟨rfl, rfl, rfl, by decide +kernel, rfl, by decide +kernel, by decide +kernel⟩
theorem scSinit : FnScope ["self", "cells"] ["self", "cells"] (defScope sSinit) :=
  ⟨rfl, rfl, rfl, by decide +kernel, rfl, by decide +kernel, by decide +kernel⟩
theorem scSmodulus : FnScope ["self", "found", "cell"] ["self"] (defScope sSmodulus) :=
  ⟨rfl, rfl, rfl, by decide +kernel, rfl, by decide +kernel, by decide +kernel⟩
theorem scSgreatest : FnScope ["self", "found", "cell"] ["self"] (defScope sSgreatest) :=
  ⟨rfl, rfl, rfl, by decide +kernel, rfl, by decide +kernel, by decide +kernel⟩
theorem scSpush : FnScope ["self", "cells"] ["self", "cells"] (defScope sSpush) :=
  ⟨rfl, rfl, rfl, by decide +kernel, rfl, by decide +kernel, by decide +kernel⟩
theorem scSremainders : FnScope ["self", "x", "found", "rest", "cell"] ["self", "x"] (defScope sSremainders) :=
  ⟨rfl, rfl, rfl, by decide +kernel, rfl, by decide +kernel, by decide +kernel⟩
theorem scSfrom_remainders : FnScope ["self", "remainders", "rest", "found", "cell", "remainder"] ["self", "remainders", "rest"] (defScope sSfrom_remainders) :=
  ⟨rfl, rfl, rfl, by decide +kernel, rfl, by decide +kernel, by decide +kernel⟩
theorem scSrank : FnScope ["self", "x", "remainders", "rest", "found", "is_equal", "cell", "remainder", "member"] ["self", "x"] (defScope sSrank) :=
  ⟨rfl, rfl, rfl, by decide +kernel, rfl, by decide +kernel, by decide +kernel⟩
theorem scScomposed_pair : FnScope ["self", "x", "lower", "upper", "rest", "cell", "remainder", "pair", "first", "second"] ["self", "x"] (defScope sScomposed_pair) :=
  ⟨rfl, rfl, rfl, by decide +kernel, rfl, by decide +kernel, by decide +kernel⟩
abbrev nnplain_pair : List Str := ["m", "digits", "lower", "upper", "digit"]
abbrev nnspoiling_triple : List Str := ["modulus", "members", "known", "low", "middle", "high", "member"]
abbrev nnunserved_remainder : List Str := ["modulus", "members", "table", "known", "rest", "member"]
abbrev nnLcells : List Str := ["_law_rows", "_law_row"]
abbrev nnlaw : List Str := ["_law_script", "_law_spot", "_law_state", "_law_turn", "_law_rows", "_law_line", "_law_far", "_law_some", "_law_place", "_law_each", "_law_k"]
abbrev nnCinit : List Str := ["self", "modulus", "members", "triple", "rest", "member"]
abbrev nnSrank : List Str := ["self", "x", "remainders", "rest", "found", "is_equal", "cell", "remainder", "member"]
end Tf
/-! ### what the top has written, read by a Hook of our own -/
namespace Tf
open PySem PySem.Spec PyProof.Rows L2
abbrev Fg := PySem.W.Frag
/-- the address of a property of a class, of its getter -/
def prA (K : Fg) (c m : Str) : Addr :=
  match PySem.W.findIn K (.ref (He.ga K c)) m with
  | some (some (.ref p)) => p
  | _ => 0
def geA (K : Fg) (c m : Str) : Addr :=
  match PySem.W.recIn K (prA K c m) "property" with
  | some (.ref g :: _) => g
  | _ => 0
/-- one def: where it stands, its text, its defaults -/
structure Df where
  adr : Fg → Addr
  nm : Str
  ql : Str
  ar : Arguments
  bd : List Stmt
  sc : Scope
  dv : List V := []
  kw : List (Str × V) := []
def fnA (K : Fg) (a : Addr) : He.FnW :=
  match K.lookup a with
  | some ⟨_, _, .func g, _⟩ =>
    some (g.name, g.qualname, g.params, g.body, g.scope, g.globals, g.closure, g.builtins)
  | _ => none
def Df.want (d : Df) : He.FnW :=
  some (d.nm, d.ql, d.ar, .stmts d.bd, d.sc, mainGlobals, [], builtinsNs)
def Df.good (K : Fg) (d : Df) : Bool :=
  PySem.W.keepIn K (.ref (d.adr K)) &&
    (match K.lookup (d.adr K) with
     | some ⟨_, _, .func g, _⟩ =>
       PySem.W.codeIn K g.code d.ql && (He.dflB K g.defaults d.dv && He.kwdB K g.kwdefaults d.kw)
     | _ => false)
theorem Df.fn {K : Fg} {d : Df} (e : fnA K (d.adr K) = d.want) (c : d.good K = true) :
    ∃ fd, FunD K d.nm d.ql d.ar d.bd d.sc d.dv d.kw (d.adr K) fd := by
  obtain ⟨kp, c2⟩ := He.ba c
  unfold fnA at e
  cases q : K.lookup (d.adr K) with
  | none => rw [q] at c2; cases c2
  | some ob =>
    obtain ⟨oc, od, dt, sl⟩ := ob
    rw [q] at c2 e
    cases dt with
    | func g =>
      obtain ⟨g1, g2, g3, g4, g5, g6, g7, g8, g9, g10, g11, g12, g13, g14, g15⟩ := g
      have e2 : (g1, g2, g3, g4, g5, g6, g7, g15) =
          (d.nm, d.ql, d.ar, FuncBody.stmts d.bd, d.sc, mainGlobals, ([] : List (Str × Addr)), builtinsNs) :=
        Option.some.inj e
      simp only [Prod.mk.injEq] at e2
      obtain ⟨rfl, rfl, rfl, rfl, rfl, rfl, rfl, rfl⟩ := e2
      obtain ⟨k1, k2⟩ := He.ba c2
      obtain ⟨k3, k4⟩ := He.ba k2
      exact ⟨_, ⟨oc, od, g8, g9, g10, g11, g12, g13, g14, sl, rfl, q, k1, He.dflB_ok k3, He.kwdB_ok k4⟩, kp⟩
    | _ => cases c2
/-- what is looked at -/
def seenB (fs : List (Fg → Bool)) (ds : List Df) (K : Fg) : Bool × List He.FnW :=
  ((fs.all fun f => f K) && (ds.all fun d => d.good K), ds.map fun d => fnA K (d.adr K))
def Told (fs : List (Fg → Bool)) (ds : List Df) (K : Fg) : Prop := seenB fs ds K = (true, ds.map Df.want)
/-- where the facts lie: the module, its names, their codes and tables, the classes' own -/
def rfO (g : Addr → Option Obj) (a : Addr) : List Addr :=
  match g a with
  | some ⟨_, _, .func f, _⟩ => He.refV f.code ++ (He.refV f.defaults ++ He.refV f.kwdefaults)
  | some ⟨_, _, .cls c, _⟩ => [c.ns]
  | some ⟨_, _, .fields vs, _⟩ => vs.toList.flatMap He.refV
  | _ => []
def rfN (g : Addr → Option Obj) (a : Addr) : List Addr :=
  match g a with
  | some ⟨_, _, .cls c, _⟩ =>
    (match g c.ns with
     | some ⟨_, _, .dict es _, _⟩ => es.toList.flatMap fun e => He.refV e.val
     | _ => [])
  | _ => []
def frcA {α : Type} : List Nat → (List Nat → α) → α
  | [], k => k []
  | a :: r, k => HandSHeadRun.frNat a fun a => frcA r fun r => k (a :: r)
theorem frcA_eq {α : Type} : ∀ (l : List Nat) (k : List Nat → α), frcA l k = k l
  | [], _ => rfl
  | a :: r, k => by
    show HandSHeadRun.frNat a (fun a => frcA r fun r => k (a :: r)) = k (a :: r)
    rw [HandSHeadRun.frNat_eq, frcA_eq r]
def frcK {α : Type} : Fg → (Fg → α) → α
  | [], k => k []
  | (a, ⟨c, d, t, s⟩) :: r, k => frcK r fun r => k ((a, ⟨c, d, t, s⟩) :: r)
theorem frcK_eq {α : Type} : ∀ (l : Fg) (k : Fg → α), frcK l k = k l
  | [], _ => rfl
  | (a, ⟨c, d, t, s⟩) :: r, k => frcK_eq r _
def asP (g : Addr → Option Obj) (xs cs : List Str) : List Addr :=
  frcA (xs.map fun x => He.ga (He.frG g [mainGlobals]) x) fun a1 =>
  frcA (cs.map fun x => He.ga (He.frG g [mainGlobals]) x) fun a2 =>
  frcA (a2.flatMap (rfN g)) fun a3 =>
  frcA (a3.flatMap (rfO g)) fun a4 =>
  frcA (a4.flatMap (rfO g)) fun a5 =>
  frcA ((a1 ++ a2).flatMap (rfO g)) fun a6 =>
  cStatics :: mainGlobals :: (a1 ++ (a2 ++ (a3 ++ (a4 ++ (a5 ++ a6)))))
def seenAt (fs : List (Fg → Bool)) (ds : List Df) (xs cs : List Str) (g : Addr → Option Obj) : Bool × List He.FnW :=
  frcA (asP g xs cs) fun as => frcK (He.frG g as) fun K => seenB fs ds K
theorem seenAt_eq (fs : List (Fg → Bool)) (ds : List Df) (xs cs : List Str) (g : Addr → Option Obj) :
    seenAt fs ds xs cs g = seenB fs ds (He.frG g (asP g xs cs)) := by
  unfold seenAt
  rw [frcA_eq, frcK_eq]
def hkT (fs : List (Fg → Bool)) (ds : List Df) (xs cs : List Str) : PySem.W.Hook where
  α := Bool × List He.FnW
  obs := fun s => seenAt fs ds xs cs s.heap.get?
  val := fun _ => (true, ds.map Df.want)
  says := fun _ h => ∃ K : Fg, K.In h ∧ Told fs ds K
  of := fun _ _ e => ⟨_, He.frG_in, (seenAt_eq fs ds xs cs _).symm.trans e⟩
  keeps := fun _ _ _ ⟨K, hK, c⟩ k => ⟨K, hK.keeps k, c⟩
theorem Told.fact {fs : List (Fg → Bool)} {ds : List Df} {K : Fg} (c : Told fs ds K) (i : Nat) {f : Fg → Bool}
    (h : fs[i]? = some f := by rfl) : f K = true := by
  have c1 := (He.ba (congrArg (fun z : Bool × List He.FnW => z.1) c)).1
  exact List.all_eq_true.mp c1 f (List.mem_of_getElem? h)
theorem Told.dfn {fs : List (Fg → Bool)} {ds : List Df} {K : Fg} (c : Told fs ds K) (i : Nat) {d : Df}
    (h : ds[i]? = some d := by rfl) : ∃ fd, FunD K d.nm d.ql d.ar d.bd d.sc d.dv d.kw (d.adr K) fd := by
  have c2 := (He.ba (congrArg (fun z : Bool × List He.FnW => z.1) c)).2
  have e : ds.map (fun d => fnA K (d.adr K)) = ds.map Df.want := congrArg (fun z : Bool × List He.FnW => z.2) c
  have e2 : (ds.map fun d => fnA K (d.adr K))[i]? = (ds.map Df.want)[i]? := by rw [e]
  rw [List.getElem?_map, List.getElem?_map, h] at e2
  exact Df.fn (Option.some.inj e2) (List.all_eq_true.mp c2 d (List.mem_of_getElem? h))
/-! ### facts -/
def prB (c m : Str) (K : Fg) : Bool :=
  He.eqO (PySem.W.findIn K (.ref (He.ga K c)) m) (some (some (.ref (prA K c m)))) &&
  (He.eqO (PySem.W.specialIn K (.ref (prA K c m)) "__get__") (some (some (.builtin "property.__get__"))) &&
  (decide (PySem.W.takesIn K (.ref (prA K c m)) = some true) &&
  (match PySem.W.recIn K (prA K c m) "property" with
   | some (.ref g :: _) => decide (g = geA K c m)
   | _ => false)))
theorem prB_ok {c m : Str} {K : Fg} (h : prB c m K = true) : PropOf K (He.ga K c) m (prA K c m) (geA K c m) := by
  obtain ⟨h1, h⟩ := He.ba h
  obtain ⟨h2, h⟩ := He.ba h
  obtain ⟨h3, h4⟩ := He.ba h
  refine ⟨He.eqO_ok h1, He.eqO_ok h2, of_decide_eq_true h3, ?_⟩
  split at h4
  · rename_i g r e
    exact ⟨r, by rw [e, of_decide_eq_true h4]⟩
  · cases h4
def cvB (c f : Str) (i : Int) (K : Fg) : Bool :=
  match PySem.W.findCls K (.ref (He.ga K c)) (.type "type") f with
  | some (.val (.int j _)) => decide (j = i)
  | _ => false
theorem cvB_ok {c f : Str} {i : Int} {K : Fg} (h : cvB c f i K = true) :
    ∃ u, ClX.CVal K (He.ga K c) (.type "type") f (.int i) u := by
  unfold cvB at h
  split at h
  · rename_i j t e
    exact ⟨_, e, ⟨t, by rw [of_decide_eq_true h]⟩⟩
  · cases h
def crB (c : Str) (K : Fg) : Bool :=
  PySem.W.readsIn K (He.ga K c) (.type "type") &&
  He.eqO (PySem.W.specialIn K (.ref (He.ga K c)) "__getattribute__") (some (some (.builtin "type.__getattribute__")))
theorem crB_ok {c : Str} {K : Fg} (h : crB c K = true) : ClX.CRead K (He.ga K c) (.type "type") := by
  obtain ⟨h1, h2⟩ := He.ba h
  exact ⟨h1, He.eqO_ok h2⟩
def bmB (c m : Str) (K : Fg) : Bool :=
  He.eqO (PySem.W.specialIn K (.ref (He.ma K (He.ga K c) m)) "__get__") (some (some (.builtin "function.__get__"))) &&
  (decide (PySem.W.takesIn K (.ref (He.ma K (He.ga K c) m)) = some false) &&
  PySem.W.fnIn K (He.ma K (He.ga K c) m))
theorem bmB_ok {c m : Str} {K : Fg} (h : bmB c m K = true) (hm : (He.Fa.meth c m).ok K = true)
    (hc : PySem.W.copiedNames.contains m = false := by decide) : BMeth K (He.ga K c) m (He.ma K (He.ga K c) m) := by
  obtain ⟨h1, h⟩ := He.ba h
  obtain ⟨h2, h3⟩ := He.ba h
  exact ⟨He.meth_ok hm, He.eqO_ok h1, of_decide_eq_true h2, hc, h3⟩
/-- what isinstance asks of a class of the program -/
structure IsF (K : Fg) (C : Addr) : Prop where
  ha : PySem.W.findIn K (.ref C) "__class__" = some (some (.builtin "object.__class__"))
  hn : PySem.W.specialIn K (.builtin "object.__class__") "__get__" = some (some (.builtin "getset_descriptor.__get__"))
  tk : PySem.W.takesIn K (.builtin "object.__class__") = some true
  mr : PySem.W.mroIn K C (.type "object") = some true
  kit : PySem.W.kitOne K (.ref C) (.ref C) = some true
def isB (c : Str) (K : Fg) : Bool :=
  He.eqO (PySem.W.findIn K (.ref (He.ga K c)) "__class__") (some (some (.builtin "object.__class__"))) &&
  (He.eqO (PySem.W.specialIn K (.builtin "object.__class__") "__get__") (some (some (.builtin "getset_descriptor.__get__"))) &&
  (decide (PySem.W.takesIn K (.builtin "object.__class__") = some true) &&
  (decide (PySem.W.mroIn K (He.ga K c) (.type "object") = some true) &&
  decide (PySem.W.kitOne K (.ref (He.ga K c)) (.ref (He.ga K c)) = some true))))
theorem isB_ok {c : Str} {K : Fg} (h : isB c K = true) : IsF K (He.ga K c) := by
  obtain ⟨h1, h⟩ := He.ba h
  obtain ⟨h2, h⟩ := He.ba h
  obtain ⟨h3, h⟩ := He.ba h
  obtain ⟨h4, h5⟩ := He.ba h
  exact ⟨He.eqO_ok h1, He.eqO_ok h2, of_decide_eq_true h3, of_decide_eq_true h4, of_decide_eq_true h5⟩
def fa (f : He.Fa) (K : Fg) : Bool := f.ok K
end Tf
/-! ### the head: what the top leaves, by one run in the kernel -/
namespace Tf
open PySem PySem.Spec PyProof.Rows L2
def fs0 : List (Fg → Bool) := [fa (.glo "is_integer"), fa (.glo "check_number"), fa (.glo "digits_in"), fa (.glo "number_of"), fa (.glo "are_plain"), fa (.glo "rank_of"), fa (.glo "in_base"), fa (.glo "base_rank"), fa (.glo "plain_pair"), fa (.glo "is_between"), fa (.glo "check_shape"), fa (.glo "spoiling_triple"), fa (.glo "serving_table"), fa (.glo "unserved_remainder"), fa (.glo "check_cells"), fa (.glo "is_count"), fa (.glo "check_count"), fa (.glo "_law_begin"), fa (.glo "_law_draw"), fa (.glo "_law_stock"), fa (.glo "_law_drawn"), fa (.glo "_law_cells"), fa (.glo "_law_stack"), fa (.glo "_law_base"), fa (.glo "_law_is_plain")]
def fs1 : List (Fg → Bool) := [fa (.glo "_law_member"), fa (.glo "_law_has"), fa (.glo "_law_serving"), fa (.glo "_law_plain"), fa (.glo "_law_composed"), fa (.glo "_law_number_right"), fa (.glo "law"), fa (.glo "Cell"), fa (.glo "Stack"), fa (.free "len"), fa (.free "isinstance"), fa (.free "int"), fa (.free "bool"), fa (.free "divmod"), fa (.free "range"), fa (.free "tuple"), fa (.free "list"), fa (.free "enumerate"), fa (.free "max"), fa (.free "min"), fa (.free "zip"), fa (.cls "Cell"), fa (.mkr "Cell"), isB "Cell", crB "Cell"]
def fs2 : List (Fg → Bool) := [fa (.cls "Stack"), fa (.mkr "Stack"), isB "Stack", crB "Stack", fa (.noat "Cell" "table"), fa (.noat "Cell" "own_modulus"), fa (.noat "Cell" "own_members"), fa (.noat "Cell" "known"), fa (.noat "Stack" "layers"), fa (.meth "Cell" "check_remainder"), fa (.meth "Cell" "has"), fa (.meth "Cell" "serving_pair"), fa (.meth "Cell" "carry"), fa (.meth "Stack" "push"), fa (.meth "Stack" "remainders"), fa (.meth "Stack" "from_remainders"), fa (.meth "Stack" "rank"), fa (.meth "Stack" "composed_pair"), bmB "Stack" "push", prB "Cell" "modulus", prB "Cell" "members", prB "Cell" "size", prB "Cell" "greatest", prB "Stack" "modulus", prB "Stack" "greatest"]
def fs3 : List (Fg → Bool) := [cvB "Cell" "MAX_MODULUS" 20000, cvB "Cell" "MAX_MEMBERS" 256, cvB "Stack" "MAX_HEIGHT" 100]
def fs : List (Fg → Bool) := fs0 ++ (fs1 ++ (fs2 ++ (fs3)))
def dis_integer : Df := ⟨fun K => He.ga K "is_integer", "is_integer", "is_integer", defArgs sis_integer, defBody sis_integer, defScope sis_integer, [], [("low", .non), ("high", .non)]⟩
def dcheck_number : Df := ⟨fun K => He.ga K "check_number", "check_number", "check_number", defArgs scheck_number, defBody scheck_number, defScope scheck_number, [.int 0, .non], []⟩
def ddigits_in : Df := ⟨fun K => He.ga K "digits_in", "digits_in", "digits_in", defArgs sdigits_in, defBody sdigits_in, defScope sdigits_in, [], []⟩
def dnumber_of : Df := ⟨fun K => He.ga K "number_of", "number_of", "number_of", defArgs snumber_of, defBody snumber_of, defScope snumber_of, [], []⟩
def dare_plain : Df := ⟨fun K => He.ga K "are_plain", "are_plain", "are_plain", defArgs sare_plain, defBody sare_plain, defScope sare_plain, [], []⟩
def drank_of : Df := ⟨fun K => He.ga K "rank_of", "rank_of", "rank_of", defArgs srank_of, defBody srank_of, defScope srank_of, [], []⟩
def din_base : Df := ⟨fun K => He.ga K "in_base", "in_base", "in_base", defArgs sin_base, defBody sin_base, defScope sin_base, [], []⟩
def dbase_rank : Df := ⟨fun K => He.ga K "base_rank", "base_rank", "base_rank", defArgs sbase_rank, defBody sbase_rank, defScope sbase_rank, [], []⟩
def dplain_pair : Df := ⟨fun K => He.ga K "plain_pair", "plain_pair", "plain_pair", defArgs splain_pair, defBody splain_pair, defScope splain_pair, [], []⟩
def dis_between : Df := ⟨fun K => He.ga K "is_between", "is_between", "is_between", defArgs sis_between, defBody sis_between, defScope sis_between, [], []⟩
def dcheck_shape : Df := ⟨fun K => He.ga K "check_shape", "check_shape", "check_shape", defArgs scheck_shape, defBody scheck_shape, defScope scheck_shape, [], []⟩
def dspoiling_triple : Df := ⟨fun K => He.ga K "spoiling_triple", "spoiling_triple", "spoiling_triple", defArgs sspoiling_triple, defBody sspoiling_triple, defScope sspoiling_triple, [], []⟩
def dserving_table : Df := ⟨fun K => He.ga K "serving_table", "serving_table", "serving_table", defArgs sserving_table, defBody sserving_table, defScope sserving_table, [], []⟩
def dunserved_remainder : Df := ⟨fun K => He.ga K "unserved_remainder", "unserved_remainder", "unserved_remainder", defArgs sunserved_remainder, defBody sunserved_remainder, defScope sunserved_remainder, [], []⟩
def dcheck_cells : Df := ⟨fun K => He.ga K "check_cells", "check_cells", "check_cells", defArgs scheck_cells, defBody scheck_cells, defScope scheck_cells, [], []⟩
def dis_count : Df := ⟨fun K => He.ga K "is_count", "is_count", "is_count", defArgs sis_count, defBody sis_count, defScope sis_count, [], []⟩
def dcheck_count : Df := ⟨fun K => He.ga K "check_count", "check_count", "check_count", defArgs scheck_count, defBody scheck_count, defScope scheck_count, [], []⟩
def dLbegin : Df := ⟨fun K => He.ga K "_law_begin", "_law_begin", "_law_begin", defArgs sLbegin, defBody sLbegin, defScope sLbegin, [], []⟩
def dLdraw : Df := ⟨fun K => He.ga K "_law_draw", "_law_draw", "_law_draw", defArgs sLdraw, defBody sLdraw, defScope sLdraw, [], []⟩
def dLstock : Df := ⟨fun K => He.ga K "_law_stock", "_law_stock", "_law_stock", defArgs sLstock, defBody sLstock, defScope sLstock, [], []⟩
def dLdrawn : Df := ⟨fun K => He.ga K "_law_drawn", "_law_drawn", "_law_drawn", defArgs sLdrawn, defBody sLdrawn, defScope sLdrawn, [], []⟩
def dLcells : Df := ⟨fun K => He.ga K "_law_cells", "_law_cells", "_law_cells", defArgs sLcells, defBody sLcells, defScope sLcells, [], []⟩
def dLstack : Df := ⟨fun K => He.ga K "_law_stack", "_law_stack", "_law_stack", defArgs sLstack, defBody sLstack, defScope sLstack, [], []⟩
def dLbase : Df := ⟨fun K => He.ga K "_law_base", "_law_base", "_law_base", defArgs sLbase, defBody sLbase, defScope sLbase, [], []⟩
def dLis_plain : Df := ⟨fun K => He.ga K "_law_is_plain", "_law_is_plain", "_law_is_plain", defArgs sLis_plain, defBody sLis_plain, defScope sLis_plain, [], []⟩
def dLmember : Df := ⟨fun K => He.ga K "_law_member", "_law_member", "_law_member", defArgs sLmember, defBody sLmember, defScope sLmember, [], []⟩
def dLhas : Df := ⟨fun K => He.ga K "_law_has", "_law_has", "_law_has", defArgs sLhas, defBody sLhas, defScope sLhas, [], []⟩
def dLserving : Df := ⟨fun K => He.ga K "_law_serving", "_law_serving", "_law_serving", defArgs sLserving, defBody sLserving, defScope sLserving, [], []⟩
def dLplain : Df := ⟨fun K => He.ga K "_law_plain", "_law_plain", "_law_plain", defArgs sLplain, defBody sLplain, defScope sLplain, [], []⟩
def dLcomposed : Df := ⟨fun K => He.ga K "_law_composed", "_law_composed", "_law_composed", defArgs sLcomposed, defBody sLcomposed, defScope sLcomposed, [], []⟩
def dLnumber_right : Df := ⟨fun K => He.ga K "_law_number_right", "_law_number_right", "_law_number_right", defArgs sLnumber_right, defBody sLnumber_right, defScope sLnumber_right, [], []⟩
def dlaw : Df := ⟨fun K => He.ga K "law", "law", "law", defArgs slaw, defBody slaw, defScope slaw, [], []⟩
def dCinit : Df := ⟨fun K => He.ma K (He.ga K "Cell") "__init__", "__init__", "Cell.__init__", defArgs sCinit, defBody sCinit, defScope sCinit, [], []⟩
def dCmodulus : Df := ⟨fun K => geA K "Cell" "modulus", "modulus", "Cell.modulus", defArgs sCmodulus, defBody sCmodulus, defScope sCmodulus, [], []⟩
def dCmembers : Df := ⟨fun K => geA K "Cell" "members", "members", "Cell.members", defArgs sCmembers, defBody sCmembers, defScope sCmembers, [], []⟩
def dCsize : Df := ⟨fun K => geA K "Cell" "size", "size", "Cell.size", defArgs sCsize, defBody sCsize, defScope sCsize, [], []⟩
def dCgreatest : Df := ⟨fun K => geA K "Cell" "greatest", "greatest", "Cell.greatest", defArgs sCgreatest, defBody sCgreatest, defScope sCgreatest, [], []⟩
def dCcheck_remainder : Df := ⟨fun K => He.ma K (He.ga K "Cell") "check_remainder", "check_remainder", "Cell.check_remainder", defArgs sCcheck_remainder, defBody sCcheck_remainder, defScope sCcheck_remainder, [], []⟩
def dChas : Df := ⟨fun K => He.ma K (He.ga K "Cell") "has", "has", "Cell.has", defArgs sChas, defBody sChas, defScope sChas, [], []⟩
def dCserving_pair : Df := ⟨fun K => He.ma K (He.ga K "Cell") "serving_pair", "serving_pair", "Cell.serving_pair", defArgs sCserving_pair, defBody sCserving_pair, defScope sCserving_pair, [], []⟩
def dCcarry : Df := ⟨fun K => He.ma K (He.ga K "Cell") "carry", "carry", "Cell.carry", defArgs sCcarry, defBody sCcarry, defScope sCcarry, [], []⟩
def dSinit : Df := ⟨fun K => He.ma K (He.ga K "Stack") "__init__", "__init__", "Stack.__init__", defArgs sSinit, defBody sSinit, defScope sSinit, [], []⟩
def dSmodulus : Df := ⟨fun K => geA K "Stack" "modulus", "modulus", "Stack.modulus", defArgs sSmodulus, defBody sSmodulus, defScope sSmodulus, [], []⟩
def dSgreatest : Df := ⟨fun K => geA K "Stack" "greatest", "greatest", "Stack.greatest", defArgs sSgreatest, defBody sSgreatest, defScope sSgreatest, [], []⟩
def dSpush : Df := ⟨fun K => He.ma K (He.ga K "Stack") "push", "push", "Stack.push", defArgs sSpush, defBody sSpush, defScope sSpush, [], []⟩
def dSremainders : Df := ⟨fun K => He.ma K (He.ga K "Stack") "remainders", "remainders", "Stack.remainders", defArgs sSremainders, defBody sSremainders, defScope sSremainders, [], []⟩
def dSfrom_remainders : Df := ⟨fun K => He.ma K (He.ga K "Stack") "from_remainders", "from_remainders", "Stack.from_remainders", defArgs sSfrom_remainders, defBody sSfrom_remainders, defScope sSfrom_remainders, [], []⟩
def dSrank : Df := ⟨fun K => He.ma K (He.ga K "Stack") "rank", "rank", "Stack.rank", defArgs sSrank, defBody sSrank, defScope sSrank, [], []⟩
def dScomposed_pair : Df := ⟨fun K => He.ma K (He.ga K "Stack") "composed_pair", "composed_pair", "Stack.composed_pair", defArgs sScomposed_pair, defBody sScomposed_pair, defScope sScomposed_pair, [], []⟩
def ds0 : List Df := [dis_integer, dcheck_number, ddigits_in, dnumber_of, dare_plain, drank_of, din_base, dbase_rank, dplain_pair, dis_between, dcheck_shape, dspoiling_triple, dserving_table, dunserved_remainder, dcheck_cells, dis_count, dcheck_count, dLbegin, dLdraw, dLstock, dLdrawn, dLcells, dLstack, dLbase, dLis_plain]
def ds1 : List Df := [dLmember, dLhas, dLserving, dLplain, dLcomposed, dLnumber_right, dlaw, dCinit, dCmodulus, dCmembers, dCsize, dCgreatest, dCcheck_remainder, dChas, dCserving_pair, dCcarry, dSinit, dSmodulus, dSgreatest, dSpush, dSremainders, dSfrom_remainders, dSrank, dScomposed_pair]
def ds : List Df := ds0 ++ (ds1)
def nm0 : List PySem.Str := ["_wall", "SetError", "InvalidNumber", "InvalidModulus", "InvalidMembers", "InvalidCell", "StateError", "NotFree", "NotServed", "IsMember", "LimitError", "TooLarge", "is_integer", "check_number", "digits_in", "number_of", "are_plain", "power_of", "member_at", "rank_of", "base_member", "in_base", "base_rank", "plain_pair", "is_between", "check_shape", "spoiling_triple", "serving_table", "unserved_remainder", "Cell"]
def nm1 : List PySem.Str := ["check_cells", "is_count", "check_count", "Stack", "_law_begin", "_law_draw", "_law_stock", "_law_drawn", "_law_cells", "_law_stack", "_law_base", "_law_is_plain", "_law_member", "_law_has", "_law_serving", "_law_plain", "_law_composed", "_law_number_right"]
def nms : List PySem.Str := nm0 ++ nm1
def gNames : List PySem.Str := ["is_integer", "check_number", "digits_in", "number_of", "are_plain", "rank_of", "in_base", "base_rank", "plain_pair", "is_between", "check_shape", "spoiling_triple", "serving_table", "unserved_remainder", "check_cells", "is_count", "check_count", "_law_begin", "_law_draw", "_law_stock", "_law_drawn", "_law_cells", "_law_stack", "_law_base", "_law_is_plain", "_law_member", "_law_has", "_law_serving", "_law_plain", "_law_composed", "_law_number_right", "law"]
def cNames : List PySem.Str := ["Cell", "Stack"]
abbrev RR : PySem.W.OpenRow := PySem.W.OpenLaw.row PySem.Challenge.rw_triplefree_k37_whole_composed_pairs
abbrev qv : Program := PySem.W.view RR.prog [53]
abbrev hk : PySem.W.Hook := hkT fs ds gNames cNames
def obT (s : PySem.W.SharedT) : Bool × List He.FnW := seenAt fs ds gNames cNames (HandSHeadRun.getT s)
theorem obT_eq (s : PySem.W.SharedT) : obT s = hk.obs s.abs := by
  have e : HandSHeadRun.getT s = s.abs.heap.get? := funext (HandSHeadRun.getT_eq s)
  unfold obT
  rw [e]
  rfl
open PySem.W PySem.Calls in
theorem topRan (w : World) : HandSHeadRun.RunEq RR qv hk obT 20000 nms w := by
  intro os
  kernel_rfl
end Tf
/-! ### enumerate over a tuple -/
namespace Tf
open PySem PySem.Spec PyProof.Rows L2
/-- the tuple at a, each item with its place in a new pair -/
def IteT (K : PySem.W.Frag) (a : Addr) : It where
  go := fun i H => ∃ xs x, SqT K H a xs ∧ xs[i]? = some x
  yld := fun i H v H' => ∃ T x, v = .ref T ∧ H T = none ∧ H' = upd H T (.tup [.int (i : Nat), x]) ∧ ∀ xs, SqT K H a xs → xs[i]? = some x
  stop := fun i H => ∃ xs, SqT K H a xs ∧ xs.length = i
theorem turn_enumT {P : Program} {w : World} {K : PySem.W.Frag} {elts : List Expr} {kk : Nat} {tpos : Pos} (a e it : Addr) :
    Turn P w K (.Tuple elts kk tpos) (IteT K a) [e, it] e
      (fun i h => (∃ old, IsEnum h e it ((i : Nat) : Int) old) ∧ h.IsTupleIter it a i ∧ e ≠ it) := by
  have dr : ∀ {X : Cx} {pins : List (Addr × Obj)} {s : Shared} {σ : L2.St} {H : Hp} {xs : List V} {i : Nat} {old : Value},
      Inv X pins σ H s → SqT X.K H a xs → s.heap.IsTupleIter it a i → IsEnum s.heap e it ((i : Nat) : Int) old → e ≠ it →
      ∃ its : List Value, Vals xs its ∧ IsTup s.heap a its.toArray ∧ a ≠ it ∧ e ∉ [it, a] := by
    intro X pins s σ H xs i old I hq hit he hne
    obtain ⟨its, rv, p, _⟩ := I.tuple hq
    refine ⟨its, rv, p, ?_, ?_⟩
    · intro z
      obtain ⟨o1, g1, c1, _⟩ := p
      obtain ⟨o2, g2, c2, _⟩ := hit
      rw [z, g2] at g1
      cases g1
      rw [c2] at c1
      exact absurd c1 (by decide)
    · intro z
      rcases List.mem_cons.mp z with q | q
      · exact hne q
      · have q2 := List.mem_singleton.mp q
        obtain ⟨o1, g1, c1, _⟩ := p
        have g2 : s.heap.get? e = _ := he
        rw [q2, g1] at g2
        cases g2
        exact absurd (show Value.type "enumerate" = Value.type "tuple" from c1) (by decide)
  refine ⟨by simp, ?_, ?_, ?_, ?_, ?_⟩
  · rintro i h ⟨⟨old, he⟩, ⟨o, ho, hc, hd⟩, hne⟩ b hb
    rcases List.mem_cons.mp hb with z | z
    · rw [z]
      exact ⟨_, he, fun v q => nomatch q⟩
    · rw [List.mem_singleton.mp z]
      exact ⟨o, ho, fun v q => by rw [hd] at q; cases q⟩
  · rintro i h h' ⟨⟨old, he⟩, hi, hne⟩ k
    exact ⟨⟨old, k e (by simp) _ he⟩, hi.at fun o q => k it (by simp) o q, hne⟩
  · intro X hP hw hK hc i pins s σ H E I hf st hg
    subst hP hw hK
    obtain ⟨⟨old, he⟩, hit, hne⟩ := st
    obtain ⟨xs, x, hq, hx⟩ := hg
    obtain ⟨its, rv, p, hai, hef⟩ := dr I hq hit he hne
    obtain ⟨u, hu, ru⟩ := rv.get hx
    have hel : e < s.heap.objs.size := Heap.lt_size he
    have hil : it < s.heap.objs.size := by
      obtain ⟨_, q, _⟩ := hit
      exact Heap.lt_size q
    have hlt : i < its.toArray.size := by
      have := (List.getElem?_eq_some_iff.mp hu).1
      simpa using this
    refine wpAny_pyNext_enum_itemD (Draws.tuple (A := X.A.in1) (I.ok.hd hc) it a hai its.toArray) he ⟨hit, p⟩ hlt hne hef fun u' h' tk hu' ho hst' hT hsz hk => ?_
    have eu : u' = u := by
      have q1 : its[i]? = some u' := by simpa using hu'
      exact Option.some.inj (q1.symm.trans hu)
    subst eu
    refine ⟨_, rfl, wpAny_letOwnedTupleGo_enum (s := { s with heap := h', toks := tk + 1 }) ho fun h'' he' sb => ?_⟩
    have hT2 := (sb.2 _ (Nat.ne_of_gt hel)).trans hT
    have new : ObjOk X.prog X.w (upd H s.heap.objs.size (.tup [.int (i : Nat), x])) h'' s.heap.objs.size (.tup [.int (i : Nat), x]) :=
      ⟨by show 2 ≤ sizeLine; decide, [.int i tk, u'], .cons ⟨_, rfl⟩ (.cons ru .nil), ⟨_, hT2, rfl, _, rfl⟩⟩
    have I1 : Inv X pins σ (upd H s.heap.objs.size (.tup [.int (i : Nat), x])) { s with heap := h'', toks := tk + 1 } := by
      refine I.turnedNew (ch := [e, it]) (fun b ob hb q => ?_) hf (Nat.le_refl _) new
      have b1 : b ≠ e := fun z => hb (by simp [z])
      have b2 : b ≠ it := fun z => hb (by simp [z])
      exact (sb.2 b b1).trans (hk b ob b1 b2 q)
    refine ⟨.ref s.heap.objs.size, _, I1, rfl, ⟨_, x, rfl, I.hok.fresh (Nat.le_refl _), rfl, fun ys hy => ?_⟩, ⟨⟨u', ?_⟩, ?_, hne⟩, fun b hb => ?_⟩
    · rw [I.tuple_inj hy hq]
      exact hx
    · have e1 : ((i + 1 : Nat) : Int) = (i : Int) + 1 := by omega
      rw [e1]
      exact he'
    · exact hst'.1.at fun o q => (sb.2 it (Ne.symm hne)).trans q
    · have hb' : b < s.heap.objs.size := by
        rcases List.mem_cons.mp hb with z | z
        · rw [z]; exact hel
        · rw [List.mem_singleton.mp z]; exact hil
      rw [upd_ne (Nat.ne_of_lt hb')]
      exact (hf b hb).1
  · intro X hP hw hK hc i pins s σ H E I hf st hg
    subst hP hw hK
    obtain ⟨⟨old, he⟩, hit, hne⟩ := st
    obtain ⟨xs, hq, hx⟩ := hg
    obtain ⟨its, rv, p, hai, hef⟩ := dr I hq hit he hne
    obtain ⟨f0, f1, f2, f3, f4, f5⟩ := hf it (by simp)
    have hl := rv.length
    have hi : i = its.toArray.size := by
      rw [List.size_toArray]
      omega
    subst hi
    exact wpAny_pyNext_enum_endD (Draws.tuple (A := X.A.in1) (I.ok.hd hc) it a hai its.toArray) he ⟨hit, p⟩ fun h' eb =>
      ⟨rfl, I.turned (t' := s.toks) (fun b o hb q => eb b o hb q) f0 f1 f3 f4 f5⟩
  · rintro A i s Q E ⟨⟨_, he⟩, _⟩ h
    exact wpAny_pyIter_enum he h
set_option maxHeartbeats 4000000 in
theorem meets_enumT (t : Addr) (items : Array Value) (n : Nat) (dct : Option Addr) (sl : Array (Option Value)) :
    Meets (Builtin.«enumerate.__new__» ⟨[.type "enumerate", .ref t], []⟩) (fun _ R s =>
      s.heap.get? t = some { cls := .type "tuple", dict := dct, data := .seq items n, slots := sl } ∧
      R (.ok (.ret (.ref (s.heap.push { cls := .type "tuple_iterator", data := .fields #[.ref t, .int 0 0] }).objs.size)))
        { s with heap := (s.heap.push { cls := .type "tuple_iterator", data := .fields #[.ref t, .int 0 0] }).push ({ cls := .type "enumerate", data := .fields #[.none, .bool false, .ref s.heap.objs.size, rawInt 0, .none, .none] } : Obj) }) :=
  .of_wp fun prog w A R s h => by
    obtain ⟨hp, g, d, tk, os⟩ := s
    obtain ⟨hl, h⟩ := h
    have hsub := sub_enumerate
    have hL : Heap.IsTuple (Shared.heap ⟨hp, g, d, tk, os⟩) t items := ⟨_, hl, rfl, n, rfl⟩
    wp_walk using AutoSeq1.wpAny_loadPart' hl
    refine wpAny_stack_any fun st => wpAny_pure ?_
    split
    · rename_i c _ _ _ _ _
      cases (c == Value.type "enumerate") <;>
      · wp_walk using AutoSeq1.wpAny_loadPart' hl, wpAny_pyIter_tuple hL
        exact ⟨_, rfl, h⟩
    · wp_walk using AutoSeq1.wpAny_loadPart' hl, wpAny_pyIter_tuple hL
      exact ⟨_, rfl, h⟩
theorem call_enumT {prog : Program} {w : World} {A : Around} {E : Value → Shared → Prop} {s : Shared} {t : Addr} {items : Array Value}
    {Q : Value → Shared → Prop} (hL : s.heap.IsTuple t items)
    (h : ∀ h', IsEnum h' (s.heap.objs.size + 1) s.heap.objs.size 0 .none → h'.IsTupleIter s.heap.objs.size t 0 →
      (∀ b o, s.heap.get? b = some o → h'.get? b = some o) → Q (.ref (s.heap.objs.size + 1)) { s with heap := h' }) :
    wpAny (model prog w) A (call (.type "enumerate") [.ref t]) Q E s := by
  obtain ⟨⟨c, dct, dt, sl⟩, hl, hc, n, hd⟩ := hL
  cases (show c = .type "tuple" from hc)
  cases (show dt = .seq items n from hd)
  refine callType_new F.called_enumerate (by decide) (F.typeCall_enumerate_1 _) (F.newCall_enumerate_1 _)
    (fun obj => F.args_object_init_2 obj _) F.entry_enumerate_new (meets_enumT t items n dct sl) ⟨hl, ?_⟩
  have hz : (s.heap.push { cls := .type "tuple_iterator", data := .fields #[.ref t, .int 0 0] }).objs.size = s.heap.objs.size + 1 := Heap.size_push ..
  show _ ∧ _
  rw [hz]
  have he : IsEnum ((s.heap.push { cls := .type "tuple_iterator", data := .fields #[.ref t, .int 0 0] }).push
      { cls := .type "enumerate", data := .fields #[.none, .bool false, .ref s.heap.objs.size, rawInt 0, .none, .none] })
      (s.heap.objs.size + 1) s.heap.objs.size 0 .none := by
    have q := Heap.get?_push_size (s.heap.push { cls := .type "tuple_iterator", data := .fields #[.ref t, .int 0 0] })
      (o := { cls := .type "enumerate", data := .fields #[.none, .bool false, .ref s.heap.objs.size, rawInt 0, .none, .none] }) rfl
    rw [hz] at q
    exact q
  refine ⟨⟨_, he, rfl⟩, h _ he ⟨_, Heap.get?_push_of_some _ (Heap.get?_push_size _ rfl), rfl, rfl⟩ fun b o x => ?_⟩
  exact Heap.get?_push_of_some _ (Heap.get?_push_of_some _ x)
def iEnT (K : PySem.W.Frag) (ta : TA) : TI := fun σ H R =>
  ta σ H fun vs H1 => ∃ a xs, vs = [.ref a] ∧ SqT K H1 a xs ∧ R (IteT K a) H1
theorem pi_enT {X : Cx} {e : Expr} {ta : TA} {p pos tpos : Pos} {elts : List Expr} {kk : Nat} (hg : Gl X "enumerate") (hm : X.mg "enumerate" = none)
    (ha : PA X [e] ta) (hs : starEach [e] X.env = [(false, eval e X.env)] := by rfl) :
    PI X (.Tuple elts kk tpos) (.Call (.Name "enumerate" p) [e] [] pos) (iEnT X.K ta) := by
  refine ⟨fun pins s σ H R I h => ?_⟩
  refine Call_ (ld_blt I hg hm boot_enumerate (PyProof.Rows.callWith_type1 (thn (ha.run pos pins s σ H _ I h) fun us s1 ⟨vs, H1, I1, r1, q1⟩ => ?_) hs rfl))
  obtain ⟨a, xs, ex, hq, q⟩ := q1
  subst ex
  obtain ⟨u, rfl, r⟩ := vals1 r1
  cases r
  obtain ⟨its, rv, p', hz⟩ := I1.tuple hq
  refine call_enumT p' fun h' he hit hk => wpAny_pyIter_enum he ?_
  have I2 : Inv X pins σ H1 { s1 with heap := h' } := I1.kept (t' := s1.toks) hk
  refine ⟨s1.heap.objs.size + 1, [s1.heap.objs.size + 1, s1.heap.objs.size], _, _, H1, rfl, I2, turn_enumT a _ _,
    ⟨⟨.none, he⟩, hit, Nat.succ_ne_self _⟩, fun b hb => ?_, q⟩
  have hle : s1.heap.objs.size ≤ b := by
    rcases List.mem_cons.mp hb with z | z
    · rw [z]; exact Nat.le_add_right _ _
    · rw [List.mem_singleton.mp z]; exact Nat.le_refl _
  exact I1.fpOk hle (I1.hok.fresh hle)
/-- the walk, for for_it -/
theorem walk_enT {K : PySem.W.Frag} {a : Addr} {xs : List V} :
    Walk (IteT K a) xs.length (fun H => SqT K H a xs)
      (YPair (fun i => some (.int (i : Nat))) (fun i => xs[i]?)) := by
  refine ⟨fun i H hi h => ⟨xs, xs[i], h, by simp [hi]⟩, fun H h => ⟨xs, h, rfl⟩, ?_⟩
  rintro i H x H' hi h ⟨T, y, e1, e2, e3, e4⟩
  exact ⟨T, .int (i : Nat), y, e1, e2, e3, rfl, e4 xs h⟩
end Tf
/-! ### extend by a tuple, max of a tuple, min of tuples, calls -/
namespace Tf
open PySem PySem.Spec PyProof.Rows L2
theorem meets_extT (l : Addr) (items : Array Value) (n : Nat) (b : Addr) (items2 : Array Value) (n2 : Nat) (d2 : Option Addr) (sl2 : Array (Option Value))
    (hs0 : ¬(!items.isEmpty && Builtin.List.listTooLong (items.size + items2.size)) = true) (hs1 : items.size ≤ sizeLine)
    (hs2 : items.size + items2.size ≤ sizeLine + 1) :
    Meets (Builtin.«list.extend» ⟨[.ref l, .ref b], []⟩) (fun _ R s =>
      s.heap.get? l = some { cls := .type "list", dict := none, data := .seq items n, slots := #[] } ∧
      s.heap.get? b = some { cls := .type "tuple", dict := d2, data := .seq items2 n2, slots := sl2 } ∧
      R (.ok (.ret Value.none)) { s with heap := s.heap.update l (Obj.mapSeq fun x => x ++ items2), toks := s.toks }) :=
  .of_wp fun prog w A R s h => by
    obtain ⟨hp, g, d, tk, os⟩ := s
    obtain ⟨hl, hb, h⟩ := h
    have f1 := AutoSeq1.idx_int
    have f2 := AutoSeq1.sub_tuple_tuple
    have f3 := AutoSeq1.sub_list_list
    have f4 := AutoSeq1.sub_tuple_list
    have f5 := AutoSeq1.sub_list_tuple
    have hz' : (items ++ items2).size ≤ sizeLine + 1 := by
      rw [Array.size_append]
      exact hs2
    wp_walk using (wpAny_updateSeq hl rfl (hz := hs1) (_hz' := hz')), AutoSeq1.wpAny_loadPart' hl, AutoSeq1.wpAny_loadPart' hb
    exact ⟨_, rfl, h⟩
def rExtT (K : PySem.W.Frag) : V → List V → Hp → VK → Prop := fun x vs H Q =>
  ∃ l b xs zs, x = .ref l ∧ vs = [.ref b] ∧ H l = some (.lst xs) ∧ SqT K H b zs ∧ xs.length + zs.length ≤ sizeLine ∧ Q .non (upd H l (.lst (xs ++ zs)))
section
variable {X : Cx}
theorem mt_extT : MtM X "list.extend" (rExtT X.K) := by
  intro pins s σ H x vs v us Q I rx rv h
  obtain ⟨l, b, xs, zs, rfl, rfl, hH, hB, hz, q⟩ := h
  cases rx
  obtain ⟨u, rfl, ru⟩ := rv.one
  cases ru
  obtain ⟨z, its, n, r, hl, e⟩ := I.lstM hH
  obtain ⟨its2, r2, ⟨o2, e2, c2, n2, dt2⟩, _⟩ := I.tuple hB
  obtain ⟨oc, od, dt, osl⟩ := o2
  cases (show oc = .type "tuple" from c2)
  cases (show dt = .seq its2.toArray n2 from dt2)
  have hl2 := r2.length
  have hsz : its.toArray.size + its2.toArray.size ≤ sizeLine := by
    rw [List.size_toArray, List.size_toArray]
    omega
  have hlong : ¬ (!its.toArray.isEmpty && Builtin.List.listTooLong (its.toArray.size + its2.toArray.size)) = true := by
    rw [notLongL hsz, Bool.and_false]
    exact Bool.false_ne_true
  refine call_meets F.slot_list_extend ⟨_, e, rfl⟩ F.entry_list_extend (F.args_list_extend_2 _ _)
    (meets_extT l its.toArray n b its2.toArray n2 od osl hlong (by rw [List.size_toArray]; omega) (by omega)) ⟨e, e2, ?_⟩
  refine ⟨.non, _, I.lset (its' := its ++ its2) hH e (by simp) (r.append r2) ?_, rfl, q⟩
  rw [List.length_append]
  omega
/-! ### max of a tuple of ints -/
def rMaxT (K : PySem.W.Frag) : List V → Hp → VK → Prop := fun vs H Q =>
  ∃ (a : Addr) (n : Int) (ns : List Int), vs = [V.ref a] ∧ SqT K H a ((n :: ns).map V.int) ∧ Q (.int (ns.foldl max n)) H
theorem dp_ints {K : PySem.W.Frag} {H : Hp} : ∀ ns : List Int, DpAll K H (ns.map V.int) (ns.map PyData.int)
  | [] => .nil
  | n :: ns => .cons (.int n) (dp_ints ns)
theorem deep_ints : ∀ ns : List Int, PyData.depthAll (ns.map PyData.int) = 0
  | [] => rfl
  | n :: ns => by
    show max (PyData.depth (.int n)) (PyData.depthAll (ns.map PyData.int)) = 0
    rw [deep_ints ns]
    rfl
theorem call_maxT (hc : X.calm = true) (hu : X.A.units + 1 < cLine) : CallR X (.builtin "max") (rMaxT X.K) := by
  intro pins s σ H xs us Q I r h
  obtain ⟨a, n, ns, rfl, hS, q⟩ := h
  obtain ⟨u, rfl, ru⟩ := vals1 r
  cases ru
  obtain ⟨its, rv, p, hz⟩ := I.tuple hS
  obtain ⟨as, rd⟩ := Dp.readsAll I _ _ _ (dp_ints (n :: ns)) rv
  refine PySem.W.max_tuple_data (x := .int n) (xs := ns.map PyData.int) (as := as) (I.ok.hd hc) p (by simpa using rd) ⟨?_, ?_⟩ ?_ fun i v h' tk bs hi hr hk => ?_
  · intro x hx y hy
    obtain ⟨i, _, rfl⟩ : ∃ i, i ∈ (n :: ns) ∧ PyData.int i = x := List.mem_map.mp (by simpa using hx)
    obtain ⟨j, _, rfl⟩ : ∃ i, i ∈ (n :: ns) ∧ PyData.int i = y := List.mem_map.mp (by simpa using hy)
    rfl
  · intro x hx
    obtain ⟨i, _, rfl⟩ : ∃ i, i ∈ (n :: ns) ∧ PyData.int i = x := List.mem_map.mp (by simpa using hx)
    intro z
    cases z
  · have e := deep_ints (n :: ns)
    rw [List.map_cons] at e
    rw [e]
    exact hu
  · rw [PySem.W.maxD_ints] at hr
    cases hr with
    | int _ t => exact ⟨.int (ns.foldl max n), H, I.kept (t' := tk) hk, ⟨t, rfl⟩, q⟩
/-! ### min of a list of data -/
def rMinD (K : PySem.W.Frag) : List V → Hp → VK → Prop := fun vs H Q =>
  ∃ (a : Addr) (xs : List V) (d : PyData) (ds : List PyData), vs = [V.ref a] ∧ SqL K H a xs ∧ DpAll K H xs (d :: ds) ∧
    PySem.W.AlikeAll (d :: ds) ∧ PyData.depthAll (d :: ds) ≤ 8 ∧
    ∀ (i : Nat) (v : V), xs[i]? = some v → (d :: ds)[i]? = some (PySem.W.minD d ds) → Q v H
theorem reads_at {h : Heap} : ∀ {vs : List Value} {xs : List PyData} {as : List Addr}, ReadsAll h vs xs as → ∀ (i : Nat) (v : Value), vs[i]? = some v →
    ∃ d bs, xs[i]? = some d ∧ Reads h v d bs
  | _, _, _, .nil, _, _, hv => by simp at hv
  | _, _, _, .cons r rs, 0, v, hv => by
    cases (Option.some.inj hv)
    exact ⟨_, _, rfl, r⟩
  | _, _, _, .cons r rs, i + 1, v, hv => reads_at rs i v (by simpa using hv)
theorem call_minD (hc : X.calm = true) (hu : X.A.units + 64 < cLine) : CallR X (.builtin "min") (rMinD X.K) := by
  intro pins s σ H xs us Q I r h
  obtain ⟨a, xs, d, ds, rfl, hS, hD, ha, hd, q⟩ := h
  obtain ⟨u, rfl, ru⟩ := vals1 r
  cases ru
  obtain ⟨its, rv, p, hz⟩ := I.list hS
  obtain ⟨as, rd⟩ := Dp.readsAll I _ _ _ hD rv
  refine PySem.W.min_list_data (x := d) (xs := ds) (as := as) (I.ok.hd hc) p.isList (by simpa using rd) ha (by omega) fun i v h' tk bs hi hr hk => ?_
  have hi' : its[i]? = some v := by simpa using hi
  obtain ⟨hil, _⟩ := List.getElem?_eq_some_iff.mp hi'
  have hxl : i < xs.length := by
    rw [rv.length]
    exact hil
  obtain ⟨u', hu', rr⟩ := rv.get (List.getElem?_eq_getElem hxl)
  cases (Option.some.inj (hi'.symm.trans hu'))
  obtain ⟨e, bs', he, re⟩ := reads_at rd i v hi'
  have re' := PySem.W.reads_keeps hk re
  have eu : e = PySem.W.minD d ds := (Reads.unique re' _ _ hr).1
  refine ⟨xs[i], H, I.kept (t' := tk) hk, rr, q i _ (List.getElem?_eq_getElem hxl) ?_⟩
  rw [he, eu]
/-! ### C() by a positional promise; o.m(k = v) -/
theorem pe_makeR0 {CX : CXT} {k : Nat} {f C : Addr} {sp : Sp} {E : XK} {x : Str} {p pos : Pos} (M : Mk X.K C f)
    (F : FnR X.prog X.w X.K X.mg X.base CX k f sp) (hr : Room (k + 1) X.A) (hg : Gl X x) (hm : X.mg x = some (.ref C)) (hx : Passes CX X E)
    (hdb : (x == ("__debug__" : Str)) = false := by decide) :
    PE X (.Call (.Name x p) [] [] pos) (StX.tMakeR C sp E tNil) := by
  refine ⟨fun pins s σ H Q I h => ?_⟩
  refine wpAny_Call_Name_kw (ld_glob I hg hm ?_ hdb)
  exact PySem.W.callWith_K0 I.kIn M.kp (StX.run_makeR (us := []) (vs := []) M F hr hx I .nil h)
def tMethN (C : Addr) (m : Str) (n : Nat) (sp : Sp) (gV : List V → List V → List V) (E : XK) (ta : TE) (tk : TA) : TE := fun σ H Q =>
  ta σ H fun x H1 => ∃ a dx fs, x = .ref a ∧ H1 a = some (.ins C dx fs) ∧ fs.lookup m = none ∧ tk σ H1 fun zs H2 => zs.length = n ∧ sp (gV [x] zs) H2 Q E
theorem pe_methN {CX : CXT} {k : Nat} {f C : Addr} {fd : FuncData} {ps ks : List Str} {sp : Sp} {E : XK} {m : Str} {apos pos : Pos} {o : Expr} {kws : List Keyword}
    {ta : TE} {tk : TA} {g : List Value → List Value → List Value} {gV : List V → List V → List V} {pl : Sem Bool}
    (he : PE X o ta) (c : Cls X.K C) (hm : Meth X.K C m f) (F : FnOk X.prog X.w X.K X.mg X.base CX k f fd ps sp) (hr : Room k X.A) (hb : KBn X.K fd ps 1 ks g gV)
    (hx : Passes CX X E) (hkw : PK X kws tk) (hall : (backToKw pos (keywordEach kws X.env)).all (·.1.isSome) = true := by rfl)
    (hks : (backToKw pos (keywordEach kws X.env)).filterMap (·.1) = ks := by rfl)
    (hpl : ((backTo pos (starEach [] X.env)).any (·.1) || (backToKw pos (keywordEach kws X.env)).any (·.1.isNone)) = false := by rfl)
    (ht : eval (.Call (.Attribute o m apos) [] kws pos) X.env = (do
      let ov ← eval o X.env
      standAt apos.atName
      let (f, first) ← holding [ov] (getMethod ov m pl)
      callWith pos f first (backTo pos (starEach [] X.env)) (backToKw pos (keywordEach kws X.env))) := by rfl) :
    PE X (.Call (.Attribute o m apos) [] kws pos) (tMethN C m ks.length sp gV E ta tk) := by
  refine ⟨fun pins s σ H Q I h => ?_⟩
  refine PySem.W.methodCall_KW (pl := pl) (thn (he.run pins s σ H _ I h) fun u s1 ⟨x, H1, I1, rx, a, dx, fs, ex, ea, l, q⟩ => ?_) ht
  subst ex
  obtain rfl : u = Value.ref a := rx
  refine getmeth_ok I1 ea c hm l ?_
  refine PySem.W.callWith_KW0 (first := [.ref a]) (h₀ := X.base) I.ok.mod.kin hm.kp hall (thn (hkw.run pos pins s1 σ H1 _ I1 q) fun ws s2 ⟨zs, H2, I2, rz, l2, q2⟩ => ⟨I2.kIn, ?_⟩) hpl
  rw [hks]
  exact run_fnN (us := [.ref a]) (vs := [.ref a]) F hr hb hx I2 (.cons rfl .nil) rz rfl l2 q2
end
end Tf
/-! ### list(zip(a, b)) over two lists -/
namespace Tf
open PySem PySem.Spec PyProof.Rows L2
theorem zip_no_len : typeLookup (.type "zip") "__len__" = pure none := by
  rw [typeLookup_type, builtinLookup_eq_fast]
  kernel_rfl
theorem zip_no_hint : typeLookup (.type "zip") "__length_hint__" = pure none := by
  rw [typeLookup_type, builtinLookup_eq_fast]
  kernel_rfl
/-- what stands of a zip at turn i -/
def Zst (z TI TO i1 i2 a b : Addr) (xs ys : Array Value) (i : Nat) (h : Heap) : Prop :=
  IsPair h TI (.ref i1) (.ref i2) ∧ h.IsListIter i1 a i ∧ h.IsListIter i2 b i ∧ h.IsList a xs ∧ h.IsList b ys ∧
  ((IsZip h z TI TO .none ∧ ∃ x y, IsPair h TO x y) ∨ ∃ T f oT, IsZipHeld h z TI TO T f ∧ h.get? T = some oT)
theorem Zst.up {z TI TO i1 i2 a b : Addr} {xs ys : Array Value} {i : Nat} {h h' : Heap} (x : Zst z TI TO i1 i2 a b xs ys i h) {S : Addr} (hS : S ∉ [z, TI, TO, i1, i2, a, b])
    (k : ∀ c o, c ≠ S → h.get? c = some o → h'.get? c = some o) (kS : ∀ o, h.get? S = some o → ∃ o', h'.get? S = some o') : Zst z TI TO i1 i2 a b xs ys i h' := by
  have ne : ∀ c, c ∈ [z, TI, TO, i1, i2, a, b] → c ≠ S := fun c hc e => hS (e ▸ hc)
  obtain ⟨x1, x2, x3, x4, x5, x6⟩ := x
  refine ⟨k _ _ (ne _ (by simp)) x1, x2.at fun o e => k _ o (ne _ (by simp)) e, x3.at fun o e => k _ o (ne _ (by simp)) e,
    x4.at fun o e => k _ o (ne _ (by simp)) e, x5.at fun o e => k _ o (ne _ (by simp)) e, ?_⟩
  rcases x6 with ⟨hz, p, q, e⟩ | ⟨T, f, oT, hz, e⟩
  · exact .inl ⟨k _ _ (ne _ (by simp)) hz, p, q, k _ _ (ne _ (by simp)) e⟩
  · by_cases hT : T = S
    · rw [hT] at e
      obtain ⟨o', e'⟩ := kS oT e
      exact .inr ⟨T, f, o', k _ _ (ne _ (by simp)) hz, by rw [hT]; exact e'⟩
    · exact .inr ⟨T, f, oT, k _ _ (ne _ (by simp)) hz, k _ _ hT e⟩
/-- the pairs that came so far -/
def Pst (B : Nat) (xs ys acc : Array Value) (i : Nat) (h : Heap) : Prop :=
  acc.size = i ∧ ∀ j, j < i → ∃ T x y, acc[j]? = some (.ref T) ∧ xs[j]? = some x ∧ ys[j]? = some y ∧ IsPair h T x y ∧ B ≤ T
section
variable {prog : Program} {w : World} {A : Around} {R : Result → Shared → Prop}
theorem zip_step {z TI TO i1 i2 a b : Addr} {xs ys : Array Value} {i : Nat} {x y : Value} (D : ZipApart z TI TO i1 i2 a b) {s : Shared} {E : Value → Shared → Prop}
    {Q : Option Value → Shared → Prop} (st : Zst z TI TO i1 i2 a b xs ys i s.heap) (hx : xs[i]? = some x) (hy : ys[i]? = some y)
    (hQ : ∀ h', Zst z TI TO i1 i2 a b xs ys (i + 1) h' → IsPair h' s.heap.objs.size x y → h'.objs.size = s.heap.objs.size + 1 →
      (∀ c o, c ≠ z → c ≠ TO → c ≠ i1 → c ≠ i2 → s.heap.get? c = some o → h'.get? c = some o) → Q (some (.ref s.heap.objs.size)) { s with heap := h' }) :
    wpAny (model prog w) A (pyNext (.ref z)) Q E s := by
  obtain ⟨x1, x2, x3, x4, x5, x6⟩ := st
  rcases x6 with ⟨hz, p, q, e⟩ | ⟨T, f, oT, hz, e⟩
  · refine wpAny_pyNext_zip_item D hz x1 e x2 x3 x4 x5 hx hy fun h' z1 z2 z3 z4 z5 z6 k => hQ h' ⟨k _ _ D.TIz D.TITO D.TIi1 D.TIi2 x1, z3, z4,
      x4.at fun o e => k _ o D.l1z D.l1TO D.l1i1 D.l1i2 e, x5.at fun o e => k _ o D.l2z D.l2TO D.l2i1 D.l2i2 e, .inr ⟨_, _, _, z1, z5⟩⟩ z5 z6 k
  · refine wpAny_pyNext_zip_item_held D hz e x1 x2 x3 x4 x5 hx hy fun h' z1 z3 z4 z5 z6 k => hQ h' ⟨k _ _ D.TIz D.TIi1 D.TIi2 x1, z3, z4,
      x4.at fun o e => k _ o D.l1z D.l1i1 D.l1i2 e, x5.at fun o e => k _ o D.l2z D.l2i1 D.l2i2 e, ?_⟩ z5 z6 fun c o c1 _ c3 c4 e => k c o c1 c3 c4 e
    by_cases h1 : T = z
    · exact .inr ⟨T, true, _, z1, by rw [h1]; exact z1⟩
    · by_cases h2 : T = i1
      · obtain ⟨o, ho, _⟩ := z3
        exact .inr ⟨T, true, o, z1, by rw [h2]; exact ho⟩
      · by_cases h3 : T = i2
        · obtain ⟨o, ho, _⟩ := z4
          exact .inr ⟨T, true, o, z1, by rw [h3]; exact ho⟩
        · exact .inr ⟨T, true, oT, z1, k _ _ h1 h2 h3 e⟩
theorem zip_stop {z TI TO i1 i2 a b : Addr} {xs ys : Array Value} {i : Nat} (hh : A.handled = none) (D : ZipApart z TI TO i1 i2 a b) {s : Shared} {E : Value → Shared → Prop}
    {Q : Option Value → Shared → Prop} (st : Zst z TI TO i1 i2 a b xs ys i s.heap) (hend : xs[i]? = none ∨ ys[i]? = none)
    (hQ : ∀ h', (∀ c o, c ≠ z → c ≠ TO → c ≠ i1 → c ≠ i2 → s.heap.get? c = some o → h'.get? c = some o) → Q none { s with heap := h' }) :
    wpAny (model prog w) A (pyNext (.ref z)) Q E s := by
  obtain ⟨x1, x2, x3, x4, x5, x6⟩ := st
  rcases x6 with ⟨hz, p, q, e⟩ | ⟨T, f, oT, hz, e⟩
  · exact wpAny_pyNext_zip_end hh D hz x1 e x2 x3 x4 x5 hend hQ
  · exact wpAny_pyNext_zip_end_held hh D hz e x1 x2 x3 x4 x5 hend fun h' k => hQ h' fun c o c1 _ c3 c4 e => k c o c1 c3 c4 e
/-- the loop that draws them all into the list at S -/
theorem zip_loop {z TI TO i1 i2 a b S : Addr} {xs ys : Array Value} {n B : Nat} (hh : A.handled = none) (D : ZipApart z TI TO i1 i2 a b) (hS : S ∉ [z, TI, TO, i1, i2, a, b])
    (hx : xs.size = n) (hy : ys.size = n) (hn : n ≤ sizeLine) (hB : ∀ c, c ∈ [S, z, TO, i1, i2] → c < B) (res : Value) :
    ∀ (k i : Nat) (s : Shared) (acc : Array Value) (c : Nat), n - i = k → i ≤ n → B ≤ s.heap.objs.size → Zst z TI TO i1 i2 a b xs ys i s.heap →
      s.heap.get? S = some { cls := .type "list", dict := none, data := .seq acc c, slots := #[] } → Pst B xs ys acc i s.heap →
      (∀ h' acc' c', (∀ q o, q ≠ S → q ≠ z → q ≠ TO → q ≠ i1 → q ≠ i2 → s.heap.get? q = some o → h'.get? q = some o) →
        h'.get? S = some { cls := .type "list", dict := none, data := .seq acc' c', slots := #[] } → Pst B xs ys acc' n h' → R (.ok (.ret res)) { s with heap := h' }) →
      codeAny (model prog w) A (.builtin "list.extend.loop" ⟨[.ref S, .ref z, res], []⟩) R s := by
  have ne : ∀ c, c ∈ [z, TI, TO, i1, i2, a, b] → S ≠ c := fun c hc e => hS (e ▸ hc)
  intro k
  induction k with
  | zero =>
    intro i s acc c hk hi hb st hSl hp hR
    have hin : i = n := by omega
    subst hin
    refine codeAny_builtin F.entry_extend_loop ?_
    rw [Around.under_plainId F.plain_extend_loop _]
    show wpAny _ A.in1 (pyNext (.ref z) >>= _) _ _ s
    refine wpAny_bind (zip_stop (A := A.in1) hh D st (.inl (Array.getElem?_eq_none (by omega))) fun h' kp => wpAny_pure ?_)
    refine hR h' acc c (fun q o _ q1 q2 q3 q4 e => kp q o q1 q2 q3 q4 e) (kp _ _ (ne _ (by simp)) (ne _ (by simp)) (ne _ (by simp)) (ne _ (by simp)) hSl) ⟨hp.1, fun j hj => ?_⟩
    obtain ⟨T, x, y, e1, e2, e3, e4, e5⟩ := hp.2 j hj
    have nT : ∀ c, c ∈ [S, z, TO, i1, i2] → T ≠ c := fun c hc e => absurd (hB c hc) (e ▸ Nat.not_lt.mpr e5)
    exact ⟨T, x, y, e1, e2, e3, kp _ _ (nT _ (by simp)) (nT _ (by simp)) (nT _ (by simp)) (nT _ (by simp)) e4, e5⟩
  | succ k ih =>
    intro i s acc c hk hi hb st hSl hp hR
    have hlt : i < n := by omega
    have gx : xs[i]? = some xs[i] := Array.getElem?_eq_getElem (by omega)
    have gy : ys[i]? = some ys[i] := Array.getElem?_eq_getElem (by omega)
    refine codeAny_builtin F.entry_extend_loop ?_
    rw [Around.under_plainId F.plain_extend_loop _]
    show wpAny _ A.in1 (pyNext (.ref z) >>= _) _ _ s
    refine wpAny_bind (zip_step (A := A.in1) D st gx gy fun h' st' hT hsz kp => ?_)
    have hS' := kp _ _ (ne _ (by simp)) (ne _ (by simp)) (ne _ (by simp)) (ne _ (by simp)) hSl
    show wpAny _ A.in1 (updateSeq S (·.push (.ref s.heap.objs.size)) >>= _) _ _ _
    refine wpAny_bind ?_
    refine wpAny_updateSeq (s := { s with heap := h' }) hS' rfl (wpAny_pure ⟨plainId_quiet F.plain_extend_loop _, ?_⟩) (by rw [hp.1]; omega)
      (by show (acc.push _).size ≤ sizeLine + 1; rw [Array.size_push, hp.1]; omega)
    have oth : ∀ q o, q ≠ S → h'.get? q = some o → (h'.update S (Obj.mapSeq (·.push (.ref s.heap.objs.size)))).get? q = some o := fun q o hq e =>
      (Heap.get?_update_other _ _ (Ne.symm hq)).trans e
    have hS2 := Heap.get?_update_self (Obj.mapSeq (·.push (Value.ref s.heap.objs.size))) hS' rfl
    have lS : S < s.heap.objs.size := Heap.lt_size hSl
    refine ih (i + 1) { s with heap := h'.update S (Obj.mapSeq (·.push (.ref s.heap.objs.size))) } (acc.push (.ref s.heap.objs.size)) _ (by omega) hlt ?_ (st'.up hS oth fun o e => ⟨_, hS2⟩) hS2 ⟨?_, fun j hj => ?_⟩ fun h2 acc' c' k2 hS3 hp2 => ?_
    · show B ≤ (h'.update S _).objs.size
      rw [Heap.size_update, hsz]
      omega
    · rw [Array.size_push, hp.1]
    · by_cases hji : j < i
      · obtain ⟨T, x, y, e1, e2, e3, e4, e5⟩ := hp.2 j hji
        have nT : ∀ c, c ∈ [S, z, TO, i1, i2] → T ≠ c := fun c hc e => absurd (hB c hc) (e ▸ Nat.not_lt.mpr e5)
        refine ⟨T, x, y, ?_, e2, e3, oth _ _ (nT _ (by simp)) (kp _ _ (nT _ (by simp)) (nT _ (by simp)) (nT _ (by simp)) (nT _ (by simp)) e4), e5⟩
        rw [Array.getElem?_push, if_neg (by rw [hp.1]; omega)]
        exact e1
      · have ej : j = i := by omega
        subst ej
        refine ⟨s.heap.objs.size, _, _, ?_, gx, gy, oth _ _ (Nat.ne_of_gt lS) hT, hb⟩
        rw [Array.getElem?_push, if_pos hp.1.symm]
    · exact hR h2 acc' c' (fun q o q0 q1 q2 q3 q4 e => k2 q o q0 q1 q2 q3 q4 (oth q o q0 (kp q o q1 q2 q3 q4 e))) hS3 hp2
theorem call_list_zip {z TI TO i1 i2 a b : Addr} {xs ys : Array Value} {n : Nat} {s : Shared} {E : Value → Shared → Prop} {Q : Value → Shared → Prop}
    (hh : A.handled = none) (D : ZipApart z TI TO i1 i2 a b) (hx : xs.size = n) (hy : ys.size = n) (hn : n ≤ sizeLine)
    (hlt : ∀ c, c ∈ [z, TI, TO, i1, i2, a, b] → c < s.heap.objs.size) (hty : s.TypeIs (.ref z) "zip") (hit : ∃ f0, IsZip s.heap z TI TO f0) (st : Zst z TI TO i1 i2 a b xs ys 0 s.heap)
    (hQ : ∀ h' acc c, (∀ q o, q ≠ z → q ≠ TO → q ≠ i1 → q ≠ i2 → s.heap.get? q = some o → h'.get? q = some o) →
      h'.get? s.heap.objs.size = some { cls := .type "list", dict := none, data := .seq acc c, slots := #[] } →
      Pst (s.heap.objs.size + 1) xs ys acc n h' → Q (.ref s.heap.objs.size) { s with heap := h' }) :
    wpAny (model prog w) A (call (.type "list") [.ref z]) Q E s := by
  refine callType_codes (Q₁ := fun ob s1 => ob = .ref s.heap.objs.size ∧ s1 = { s with heap := s.heap.push { cls := .type "list", data := .seq #[] } })
    F.called_list (F.typeCall_list_1 _) F.entry_list_init (code_list_new _ ⟨rfl, rfl⟩) fun ob s1 h1 => ?_
  obtain ⟨rfl, rfl⟩ := h1
  have hS : (s.heap.push { cls := .type "list", data := .seq #[] }).get? s.heap.objs.size = some { cls := .type "list", data := .seq #[] } := Heap.get?_push_size _ rfl
  have hSn : s.heap.objs.size ∉ [z, TI, TO, i1, i2, a, b] := fun m => Nat.lt_irrefl _ (hlt _ m)
  have nz : s.heap.objs.size ≠ z := fun e => hSn (by rw [e]; simp)
  refine ⟨⟨_, hS, rfl⟩, F.args_list_init_2 _ _, ?_⟩
  show wpAny _ A.in1.in1 (do
    let old ← Builtin.List.listItems (.ref s.heap.objs.size)
    Builtin.List.listUpdate (.ref s.heap.objs.size) (fun _ => #[])
    letGo old.toList.reverse
    Builtin.List.listExtendWith (.ref s.heap.objs.size) (.ref z) .none) _ _ _
  refine wpAny_bind ?_
  unfold Builtin.List.listItems
  refine wpAny_bind (wpAny_seqItems hS rfl (wpAny_pure ?_))
  show wpAny _ _ (updateSeq s.heap.objs.size (fun _ => #[]) >>= fun _ => letGo (#[] : Array Value).toList.reverse >>= fun _ =>
    Builtin.List.listExtendWith (.ref s.heap.objs.size) (.ref z) .none) _ _ _
  refine wpAny_bind (wpAny_updateSeq hS rfl ?_)
  have hS2 := Heap.get?_update_self (Obj.mapSeq (fun _ => (#[] : Array Value))) hS rfl
  refine wpAny_bind (wpAny_letGo ?_)
  have up : ∀ (h : Heap) (f : Obj → Obj), (∀ q o, s.heap.get? q = some o → h.get? q = some o) →
      ∀ q o, s.heap.get? q = some o → (h.update s.heap.objs.size f).get? q = some o := fun h f k q o e =>
    (Heap.get?_update_other _ _ (Ne.symm (Nat.ne_of_lt (Heap.lt_size e)))).trans (k q o e)
  have k2 := up _ (Obj.mapSeq (fun _ => (#[] : Array Value))) fun q o (e : s.heap.get? q = some o) => Heap.get?_push_of_some ({ cls := .type "list", data := .seq #[] } : Obj) e
  have tyz : ∀ {h : Heap}, (∀ q o, s.heap.get? q = some o → h.get? q = some o) → ({ s with heap := h } : Shared).TypeIs (.ref z) "zip" := fun {h} k => by
    obtain ⟨f0, e⟩ := hit
    exact ⟨_, k _ _ e, rfl⟩
  unfold Builtin.List.listExtendWith
  refine wpAny_bind (wpAny_typeOf (tyz k2) ?_)
  have h1 : Builtin.List.listSameRef (.ref s.heap.objs.size) (.ref z) = false := by simp [Builtin.List.listSameRef, nz]
  have h2 : (Value.type "zip" == Value.type "list") = false := by decide
  have h3 : (Value.type "zip" == Value.type "tuple") = false := by decide
  simp only [h1, h2, h3, Bool.or_false, Bool.false_eq_true, if_false]
  obtain ⟨f0, hz0⟩ := hit
  refine wpAny_bind (wpAny_pyIter_zip (s := { s with heap := _ }) (k2 _ _ hz0) ?_)
  refine wpAny_bind (wpAny_holding ?_)
  unfold Builtin.List.listLengthHint
  refine wpAny_bind (wpAny_specialOf (tyz k2) zip_no_len ?_)
  show wpAny _ _ (specialOf (Value.ref z) (Str.ofString "__length_hint__") >>= _) _ _ _
  refine wpAny_bind (wpAny_specialOf (tyz k2) zip_no_hint ?_)
  refine wpAny_pure ?_
  show wpAny _ _ (rule "list.extend.makes-room" >>= fun _ => Builtin.List.listTouch (.ref s.heap.objs.size) >>= fun _ =>
    again (.builtin "list.extend.loop" ⟨[.ref s.heap.objs.size, .ref z, .none], []⟩)) _ _ _
  refine wpAny_bind (wpAny_rule (wpAny_bind ?_))
  show wpAny _ _ (updateSeq s.heap.objs.size (·.push .none) >>= fun _ => updateSeq s.heap.objs.size (·.pop)) _ _ _
  refine wpAny_bind (wpAny_updateSeq hS2 rfl ?_)
  have hS3 := Heap.get?_update_self (Obj.mapSeq (·.push Value.none)) hS2 rfl
  refine wpAny_updateSeq (hz := by seq_fits) hS3 rfl ?_
  have hS4 := Heap.get?_update_self (Obj.mapSeq (·.pop)) hS3 rfl
  have k4 := up _ (Obj.mapSeq (·.pop)) (up _ (Obj.mapSeq (·.push Value.none)) k2)
  refine wpAny_pure ⟨plainId_quiet F.plain_extend_loop _, ?_⟩
  refine zip_loop (A := A.in1) (n := n) (B := s.heap.objs.size + 1) hh D hSn hx hy hn (fun c hc => ?_) .none n 0 _ _ _ rfl (Nat.zero_le _) ?_ ?_ hS4 ⟨rfl, fun j hj => absurd hj (Nat.not_lt_zero _)⟩ fun h' acc c k5 e5 p5 => ?_
  · rcases List.mem_cons.mp hc with rfl | hc
    · exact Nat.lt_succ_self _
    · refine Nat.lt_succ_of_lt (hlt c ?_)
      have hc4 : c = z ∨ c = TO ∨ c = i1 ∨ c = i2 := by simpa using hc
      rcases hc4 with rfl | rfl | rfl | rfl <;> simp
  · show s.heap.objs.size + 1 ≤ (((((s.heap.push _).update _ _).update _ _).update _ _)).objs.size
    rw [Heap.size_update, Heap.size_update, Heap.size_update, Heap.size_push]
    exact Nat.le_refl _
  · exact Zst.up st hSn (fun q o hq e => k4 q o e) fun o e => absurd (Heap.lt_size e) (Nat.lt_irrefl _)
  · refine ⟨rfl, hQ h' acc c (fun q o q1 q2 q3 q4 e => k5 q o (Nat.ne_of_lt (Heap.lt_size e)) q1 q2 q3 q4 (k4 q o e)) e5 p5⟩
end
section
variable {X : Cx} {pins : List (Addr × Obj)} {σ : L2.St} {H H' : Hp} {s : Shared} {h' : Heap}
/-- many new objects at once -/
theorem laid_many {t' : Nat} (I : Inv X pins σ H s) (k : ∀ b u, s.heap.get? b = some u → h'.get? b = some u)
    (ag : ∀ c, c < s.heap.objs.size → H' c = H c) (new : ∀ c o, s.heap.objs.size ≤ c → H' c = some o → ObjOk X.prog X.w H' h' c o) :
    Inv X pins σ H' { s with heap := h', toks := t' } := by
  have lt : ∀ {c o}, H c = some o → c < s.heap.objs.size := fun e => I.hok.lt e
  refine I.un ⟨fun b o e _ _ _ => k b o e, fun b o e _ _ _ => ⟨o.slots, k b o e⟩, fun b o e n _ => ?_, fun b o e _ => ⟨o, k b o e⟩, fun b xs e => ?_, fun b o u e => ?_, fun b ps e => ⟨#[], ?_⟩⟩ fun c o e => ?_
  · rw [ag b (Heap.lt_size e)]
    exact n
  · rw [ag b (lt e)]
    exact e
  · rw [ag b (lt e)]
    exact e
  · rw [ag b (lt e), e]
    simp
  · by_cases hc : c < s.heap.objs.size
    · have e0 : H c = some o := by
        rw [← ag c hc]
        exact e
      refine (I.hok c o e0).stay (fun b u _ q => k b u q) (fun b q => ?_) fun b xs q => ?_
      · rw [ag b (lt q)]
        exact q
      · rw [ag b (lt q)]
        exact q
    · exact new c o (Nat.not_lt.mp hc) e
/-- list(zip(a, b)) of two lists of one length: a new list at p of new pairs -/
def tLstZip (K : PySem.W.Frag) (ta : TA) : TE := fun σ H Q =>
  ta σ H fun vs H1 => ∃ a b xs ys, vs = [.ref a, .ref b] ∧ SqL K H1 a xs ∧ SqL K H1 b ys ∧ xs.length = ys.length ∧
    ∀ (p : Addr) (ts : List Addr) (H2 : Hp), Same H1 H2 → H1 p = none → H2 p = some (.lst (ts.map V.ref)) → ts.length = xs.length →
      (∀ (j : Nat) x y, xs[j]? = some x → ys[j]? = some y → ∃ T, ts[j]? = some T ∧ H2 T = some (.tup [x, y])) → Q (.ref p) H2
theorem pe_lstZip {e1 e2 : Expr} {ta : TA} {p p2 pos pos2 : Pos} (hc : X.calm = true) (hg : Gl X "list") (hm : X.mg "list" = none) (hg2 : Gl X "zip") (hm2 : X.mg "zip" = none)
    (ha : PA X [e1, e2] ta) (hs : starEach [e1, e2] X.env = (false, eval e1 X.env) :: starEach [e2] X.env := by rfl)
    (hpl : (backTo pos2 (starEach [e2] X.env)).any (·.1) = false := by rfl)
    (na : starEach [.Call (.Name "zip" p2) [e1, e2] [] pos2] X.env = (false, eval (.Call (.Name "zip" p2) [e1, e2] [] pos2) X.env) :: starEach [] X.env := by rfl) :
    PE X (.Call (.Name "list" p) [.Call (.Name "zip" p2) [e1, e2] [] pos2] [] pos) (tLstZip X.K ta) := by
  refine ⟨fun pins s σ H Q I h => ?_⟩
  have zrun : wpAny (model X.prog X.w) X.A (eval (.Call (.Name "zip" p2) [e1, e2] [] pos2) X.env) (fun zv s2 => ∃ (s1 : Shared) (H1 : Hp) (a b : Addr) (xs ys : List V) (its its2 : List Value),
      zv = .ref (s1.heap.objs.size + 4) ∧ Inv X pins σ H1 s1 ∧ (∃ h2, s2 = { s1 with heap := h2 } ∧ (∀ c o, s1.heap.get? c = some o → h2.get? c = some o) ∧ h2.objs.size = s1.heap.objs.size + 5 ∧
        IsZip h2 (s1.heap.objs.size + 4) (s1.heap.objs.size + 2) (s1.heap.objs.size + 3) .none ∧
        Zst (s1.heap.objs.size + 4) (s1.heap.objs.size + 2) (s1.heap.objs.size + 3) s1.heap.objs.size (s1.heap.objs.size + 1) a b its.toArray its2.toArray 0 h2) ∧
      a < s1.heap.objs.size ∧ b < s1.heap.objs.size ∧ Vals xs its ∧ Vals ys its2 ∧ xs.length = ys.length ∧ xs.length ≤ sizeLine ∧
      ∀ (p : Addr) (ts : List Addr) (H2 : Hp), Same H1 H2 → H1 p = none → H2 p = some (.lst (ts.map V.ref)) → ts.length = xs.length →
        (∀ (j : Nat) x y, xs[j]? = some x → ys[j]? = some y → ∃ T, ts[j]? = some T ∧ H2 T = some (.tup [x, y])) → Q (.ref p) H2) X.xe s := by
    refine Call_ (ld_blt I hg2 hm2 PyProof.Rows.boot_zip (PyProof.Rows.callWith_type1 (thn (ha.run pos2 pins s σ H _ I h) fun us s1 ⟨vs, H1, I1, r1, q1⟩ => ?_) hs hpl))
    obtain ⟨a, b, xs, ys, ex, hqx, hqy, hl, q⟩ := q1
    subst ex
    obtain ⟨u1, u2, rfl, r, r'⟩ := vals2 r1
    cases r
    cases r'
    obtain ⟨its, rv, pl1, z1⟩ := I1.list hqx
    obtain ⟨its2, rv2, pl2, z2⟩ := I1.list hqy
    refine call_zip_2 pl1.isList pl2.isList fun h2 hz hTI hTO h1 h2' hsz hk => ?_
    exact ⟨s1, H1, a, b, xs, ys, its, its2, rfl, I1, ⟨h2, rfl, hk, hsz, hz, hTI, h1, h2', pl1.isList.at fun o e => hk _ o e, pl2.isList.at fun o e => hk _ o e, .inl ⟨hz, _, _, hTO⟩⟩,
      pl1.lt, pl2.lt, rv, rv2, hl, z1, q⟩
  refine Call_ (ld_blt I hg hm boot_list (PyProof.Rows.callWith_type1 (args_cons (thn zrun fun zv s2 hz => args_nil ?_) na) na))
  obtain ⟨s1, H1, a, b, xs, ys, its, its2, rfl, I1, ⟨h2, rfl, hk, hsz, hz, st⟩, la, lb, rv, rv2, hl, z1, q⟩ := hz
  have l1 := rv.length
  have l2 := rv2.length
  have e4 : ({ s1 with heap := h2 } : Shared).heap.objs.size = s1.heap.objs.size + 5 := hsz
  refine call_list_zip (n := xs.length) (I1.ok.hd hc) (PySem.W.ktu_apart s1.heap.objs.size a b la lb) (by rw [List.size_toArray]; omega) (by rw [List.size_toArray]; omega) z1 (fun c hcm => ?_) ⟨_, hz, rfl⟩ ⟨_, hz⟩ st fun h3 acc c0 k3 e3 p3 => ?_
  · rw [e4]
    have hc7 : c = s1.heap.objs.size + 4 ∨ c = s1.heap.objs.size + 2 ∨ c = s1.heap.objs.size + 3 ∨ c = s1.heap.objs.size ∨ c = s1.heap.objs.size + 1 ∨ c = a ∨ c = b := by simpa using hcm
    rcases hc7 with rfl | rfl | rfl | rfl | rfl | rfl | rfl
    · exact Nat.lt_succ_self _
    · exact Nat.add_lt_add_left (by decide) _
    · exact Nat.add_lt_add_left (by decide) _
    · exact Nat.lt_add_of_pos_right (by decide)
    · exact Nat.add_lt_add_left (by decide) _
    · exact Nat.lt_of_lt_of_le la (Nat.le_add_right _ _)
    · exact Nat.lt_of_lt_of_le lb (Nat.le_add_right _ _)
  rw [e4] at e3 p3 ⊢
  obtain ⟨hsz3, pairs⟩ := p3
  have kept : ∀ q o, s1.heap.get? q = some o → h3.get? q = some o := fun q o e => by
    have lq := Heap.lt_size e
    exact k3 q o (Nat.ne_of_lt (Nat.lt_of_lt_of_le lq (Nat.le_add_right _ _))) (Nat.ne_of_lt (Nat.lt_of_lt_of_le lq (Nat.le_add_right _ _))) (Nat.ne_of_lt lq)
      (Nat.ne_of_lt (Nat.lt_of_lt_of_le lq (Nat.le_add_right _ _))) (hk q o e)
  have tsx : ∃ ts : List Addr, ts.length = xs.length ∧ acc.toList = ts.map Value.ref ∧ ∀ (j : Nat) x y, xs[j]? = some x → ys[j]? = some y →
      ∃ T u v, ts[j]? = some T ∧ IsPair h3 T u v ∧ RelV x u ∧ RelV y v ∧ s1.heap.objs.size + 5 + 1 ≤ T := by
    refine ⟨acc.toList.map fun v => match v with | .ref T => T | _ => 0, ?_, ?_, ?_⟩
    · rw [List.length_map, Array.length_toList, hsz3]
    · rw [List.map_map]
      refine List.ext_getElem? fun j => ?_
      rw [List.getElem?_map]
      by_cases hj : j < xs.length
      · obtain ⟨T, x, y, g1, _⟩ := pairs j hj
        have g1' : acc.toList[j]? = some (.ref T) := by simpa using g1
        rw [g1']
        rfl
      · have g0 : acc.toList[j]? = none := List.getElem?_eq_none (by rw [Array.length_toList, hsz3]; omega)
        rw [g0]
        rfl
    · intro j x y hxj hyj
      have hj : j < xs.length := (List.getElem?_eq_some_iff.mp hxj).1
      obtain ⟨T, u, v, g1, g2, g3, g4, g5⟩ := pairs j hj
      have g1' : acc.toList[j]? = some (.ref T) := by simpa using g1
      obtain ⟨u', a1, a2⟩ := rv.get hxj
      obtain ⟨v', b1, b2⟩ := rv2.get hyj
      have g2' : its[j]? = some u := by simpa using g2
      have g3' : its2[j]? = some v := by simpa using g3
      cases Option.some.inj (a1.symm.trans g2')
      cases Option.some.inj (b1.symm.trans g3')
      exact ⟨T, _, _, by rw [List.getElem?_map, g1']; rfl, g4, a2, b2, g5⟩
  obtain ⟨ts, tl, te, tp⟩ := tsx
  have S5 : H1 (s1.heap.objs.size + 5) = none := I1.hok.fresh (Nat.le_add_right _ _)
  -- the new heap: the list, the pairs
  let PR : Addr → V × V → Prop := fun c xy => ∃ j : Nat, ts[j]? = some c ∧ xs[j]? = some xy.1 ∧ ys[j]? = some xy.2
  have prl : ∀ c xy, PR c xy → s1.heap.objs.size + 5 + 1 ≤ c ∧ ∃ u v, IsPair h3 c u v ∧ RelV xy.1 u ∧ RelV xy.2 v := by
    rintro c ⟨x, y⟩ ⟨j, j1, j2, j3⟩
    obtain ⟨T, u, v, t1, t2, t3, t4, t5⟩ := tp j x y j2 j3
    cases Option.some.inj (j1.symm.trans t1)
    exact ⟨t5, u, v, t2, t3, t4⟩
  have pru : ∀ c xy xy', PR c xy → PR c xy' → xy = xy' := by
    rintro c ⟨x, y⟩ ⟨x', y'⟩ h1 h2
    obtain ⟨_, u, v, t1, t2, t3⟩ := prl _ _ h1
    obtain ⟨_, u', v', t1', t2', t3'⟩ := prl _ _ h2
    have e0 := t1.symm.trans t1'
    injection e0 with e0
    injection e0 with e01 e02 e03 e04
    injection e03 with e05 e06
    have e07 : ([u, v] : List Value) = [u', v'] := by simpa using congrArg Array.toList e05
    injection e07 with e08 e09
    injection e09 with e10 _
    subst e08 e10
    exact Prod.ext (t2.inj t2') (t3.inj t3')
  let H2 : Hp := fun c => if c = s1.heap.objs.size + 5 then some (.lst (ts.map V.ref)) else open Classical in if h : ∃ xy, PR c xy then some (.tup [h.choose.1, h.choose.2]) else H1 c
  have H2S : H2 (s1.heap.objs.size + 5) = some (.lst (ts.map V.ref)) := if_pos rfl
  have H2T : ∀ c x y, PR c (x, y) → H2 c = some (.tup [x, y]) := fun c x y hp => by
    have hex : ∃ xy, PR c xy := ⟨_, hp⟩
    have nS : c ≠ s1.heap.objs.size + 5 := fun e => by
      have := (prl _ _ hp).1
      rw [e] at this
      exact absurd this (Nat.not_succ_le_self _)
    show (if c = s1.heap.objs.size + 5 then _ else _) = _
    rw [if_neg nS, dif_pos hex, pru c _ _ hex.choose_spec hp]
  have H2lt : ∀ c, c < s1.heap.objs.size → H2 c = H1 c := fun c hcl => by
    have nS : c ≠ s1.heap.objs.size + 5 := Nat.ne_of_lt (Nat.lt_of_lt_of_le hcl (Nat.le_add_right _ _))
    have nex : ¬ ∃ xy, PR c xy := fun ⟨xy, hp⟩ => absurd (Nat.lt_of_lt_of_le hcl (Nat.le_trans (Nat.le_add_right _ 6) (prl _ _ hp).1)) (Nat.lt_irrefl _)
    show (if c = s1.heap.objs.size + 5 then _ else _) = _
    rw [if_neg nS, dif_neg nex]
  have I2 : Inv X pins σ H2 { s1 with heap := h3 } := by
    refine laid_many (t' := s1.toks) I1 kept H2lt fun c o hcs eo => ?_
    by_cases hS : c = s1.heap.objs.size + 5
    · subst hS
      rw [H2S] at eo
      cases eo
      refine ⟨by rw [List.length_map, tl]; exact z1, acc.toList, c0, ?_, ?_⟩
      · rw [te]
        exact vals_refs ts
      · rw [e3]
    · by_cases hex : ∃ xy, PR c xy
      · obtain ⟨⟨x, y⟩, hp⟩ := hex
        rw [H2T c x y hp] at eo
        cases eo
        obtain ⟨_, u, v, t1, t2, t3⟩ := prl _ _ hp
        exact ⟨by show 2 ≤ sizeLine; decide, [u, v], .cons t2 (.cons t3 .nil), ⟨_, t1, rfl, _, rfl⟩⟩
      · have e0 : H2 c = H1 c := by
          show (if c = s1.heap.objs.size + 5 then _ else _) = _
          rw [if_neg hS, dif_neg hex]
        rw [e0, I1.hok.fresh hcs] at eo
        cases eo
  refine ⟨.ref (s1.heap.objs.size + 5), H2, I2, rfl, q _ ts H2 (fun c o e => ?_) S5 H2S tl fun j x y hx hy => ?_⟩
  · rw [H2lt c (I1.hok.lt e)]
    exact e
  · obtain ⟨T, u, v, t1, _⟩ := tp j x y hx hy
    exact ⟨T, t1, H2T T x y ⟨j, t1, hx, hy⟩⟩
end
end Tf
/-! ### y = {k: v for x in xs} -/
namespace Tf
open PySem PySem.Spec PyProof.Rows L2
section
variable {X : Cx}
theorem ps_setDc {i : Nat} {y : Str} {py : Pos} {kx vx tg iter : Expr} {ifs : List Expr} {scope : Scope} {own : List (Str × Nat)} {pos spos : Pos} {wi : TI} {g : TG} {tt : TT} {tk tv : TE}
    (hc : X.calm = true) (hN : X.N.Nodup) (hy : X.N[i]? = some y) (hyl : X.env.scope.names.lookup y = some .local)
    (hsw : swapsWith (.DictComp kx vx [⟨tg, iter, ifs, 0⟩] scope pos) (some (.Name y py)) spos.line X.env = pure true) (hi : PI X tg iter wi) (ok : BlkOk X.N X.env.scope scope own)
    (hg : ∀ (s : Shared) (H : Hp) (C : Addr) (cl : List (Str × Addr)) (fp : List Addr), PG (X.blk s H scope (compEnvC scope cl C X.env) fp) tg g)
    (ht : ∀ (s : Shared) (H : Hp) (C : Addr) (cl : List (Str × Addr)) (fp : List Addr), PTs (X.blk s H scope (compEnvC scope cl C X.env) fp) ifs tt)
    (hk : ∀ (s : Shared) (H : Hp) (C : Addr) (cl : List (Str × Addr)) (fp : List Addr), PE (X.blk s H scope (compEnvC scope cl C X.env) fp) kx tk)
    (he : ∀ (s : Shared) (H : Hp) (C : Addr) (cl : List (Str × Addr)) (fp : List Addr), PE (X.blk s H scope (compEnvC scope cl C X.env) fp) vx tv)
    (hs : ∀ x, foldedSetIterable iter X.env x = pure x := by intro _; rfl) :
    PS X (.Assign [.Name y py] (.DictComp kx vx [⟨tg, iter, ifs, 0⟩] scope pos) spos) (tAsg (tDc wi g tt tk tv (own.map (·.2))) (gName i)) := by
  refine ⟨fun pins s σ H D I h => ?_⟩
  rw [exec_Assign_Name_used _ _ _ _ hsw]
  refine wpAny_bind (wpAny_standAt (wpAny_bind ?_))
  show wpAny _ X.A (do
    let _ ← comprehension (.DictComp kx vx [⟨tg, iter, ifs, 0⟩] scope pos) scope X.env (firstIterPos [⟨tg, iter, ifs, 0⟩] pos) newDict false (eval iter X.env)
      (some (assign (.Name y py) X.env))) _ _ s
  have h2 : tDc wi g tt tk tv (own.map (·.2)) σ H (fun x H1 => gName i x σ H1 D.nx) := h
  refine wpAny_bind (thn (dc_core (Qf := fun _ s' => SP X pins D .next s') hc hN I hi ok hg ht hk he hs h2 fun L C s' m H' I' q hn f => ?_) fun _ s' hq => wpAny_pure (wpAny_pure hq))
  show wpAny _ _ (assign (.Name y py) X.env (.ref L)) _ _ _
  refine wpAny_assign_Name (store_ok2 (v := V.ref L) I' hN hy (.inl hyl) rfl (fun s2 I2 ⟨a, sb, ha⟩ => ?_) (.inr hyl))
  obtain ⟨f0, f1, f2, f3, f4, f5⟩ := f
  have haC : C ≠ a := by
    rcases ha with z | z
    · rw [z]
      exact f1
    · exact fun e => f4 y a z e.symm
  refine ⟨m, hn.sameBut sb haC, fun h3 sb3 => ⟨_, H', ?_, q⟩⟩
  exact I2.turned (t' := s2.toks) (fun b o hb e => (sb3.2 b hb).trans e) f0 f1 f3 f4 f5
theorem swD_true {kx vx : Expr} {gs : List Comprehension} {scope : Scope} {pos py : Pos} {y : Str} {l : Nat} {env : Env} (hk : env.scope.kind = .function)
    (hy : env.scope.names.lookup y = some .local) (hl : (py.line == pos.line) = true)
    (ha : (scope.names.any fun (n, k) => n == y && (k == .local || k == .cell)) = false) : swapsWith (.DictComp kx vx gs scope pos) (some (.Name y py)) l env = pure true := by
  have ky : env.kindOf y = some .local := hy
  have hb : env.blockKind = .function := by
    unfold Env.blockKind
    rw [hk]
    rfl
  unfold swapsWith
  simp only [hb, ky, ha, Expr.pos, hl]
  rfl
end
end Tf
/-! ### the mathematics: digits, rows, composed pairs, ranks -/
namespace Tf
/-! #### digits -/
/-- the ternary digits, the least one first -/
def dg (n : Nat) : List Nat := if h : n = 0 then [] else n % 3 :: dg (n / 3)
termination_by n
decreasing_by exact Nat.div_lt_self (Nat.pos_of_ne_zero h) (by decide)
theorem dg_zero : dg 0 = [] := by rw [dg]; rfl
theorem dg_pos {n : Nat} (h : n ≠ 0) : dg n = n % 3 :: dg (n / 3) := by rw [dg, dif_neg h]
/-- the number with these digits, the least one first -/
def val (b : Nat) : List Nat → Nat
  | [] => 0
  | d :: r => d + b * val b r
theorem val_fold (b : Nat) : ∀ (ds : List Nat) (z : Nat), ds.reverse.foldl (fun a d => a * b + d) z = z * b ^ ds.length + val b ds
  | [], z => by simp [val]
  | d :: r, z => by
    rw [List.reverse_cons, List.foldl_append, val_fold b r z]
    show (z * b ^ r.length + val b r) * b + d = z * b ^ (r.length + 1) + (d + b * val b r)
    rw [Nat.add_mul, Nat.pow_succ, Nat.mul_assoc, Nat.mul_comm (val b r) b]
    omega
theorem dg_len : ∀ (k n : Nat), n < 2 ^ k → (dg n).length ≤ k
  | 0, n, h => by
    have e : n = 0 := by simpa using h
    rw [e, dg_zero]
    exact Nat.le_refl _
  | k + 1, n, h => by
    by_cases hn : n = 0
    · rw [hn, dg_zero]
      exact Nat.zero_le _
    · rw [dg_pos hn, List.length_cons]
      refine Nat.succ_le_succ (dg_len k (n / 3) ?_)
      have : n < 2 * 2 ^ k := by rw [Nat.pow_succ] at h; omega
      omega
theorem dg_lt : ∀ (n : Nat), ∀ d ∈ dg n, d < 3 := by
  intro n
  induction n using Nat.strongRecOn with
  | _ n ih =>
    intro d hd
    by_cases hn : n = 0
    · rw [hn, dg_zero] at hd
      cases hd
    · rw [dg_pos hn] at hd
      rcases List.mem_cons.mp hd with e | hd
      · rw [e]
        exact Nat.mod_lt _ (by decide)
      · exact ih (n / 3) (Nat.div_lt_self (Nat.pos_of_ne_zero hn) (by decide)) d hd
def plo (n : Nat) : Nat := val 3 ((dg n).map fun d => if d = 1 then 1 else 0)
def pup (n : Nat) : Nat := val 3 ((dg n).map fun d => if 0 < d then 1 else 0)
def rk (n : Nat) : Nat := val 2 (dg n)
def isPl (n : Nat) : Bool := (dg n).all fun d => decide (d ≠ 2)
theorem plo_rec (n : Nat) : plo n = (if n % 3 = 1 then 1 else 0) + 3 * plo (n / 3) := by
  by_cases h : n = 0
  · subst h
    show plo 0 = _ + 3 * plo 0
    unfold plo
    rw [dg_zero]
    rfl
  · unfold plo
    rw [dg_pos h]
    rfl
theorem pup_rec (n : Nat) : pup n = (if 0 < n % 3 then 1 else 0) + 3 * pup (n / 3) := by
  by_cases h : n = 0
  · subst h
    show pup 0 = _ + 3 * pup 0
    unfold pup
    rw [dg_zero]
    rfl
  · unfold pup
    rw [dg_pos h]
    rfl
theorem rk_rec (n : Nat) : rk n = n % 3 + 2 * rk (n / 3) := by
  by_cases h : n = 0
  · subst h
    show rk 0 = _ + 2 * rk 0
    unfold rk
    rw [dg_zero]
    rfl
  · unfold rk
    rw [dg_pos h]
    rfl
theorem isPl_rec (n : Nat) : isPl n = (decide (n % 3 ≠ 2) && isPl (n / 3)) := by
  by_cases h : n = 0
  · subst h
    show isPl 0 = (decide (0 % 3 ≠ 2) && isPl 0)
    unfold isPl
    rw [dg_zero]
    rfl
  · unfold isPl
    rw [dg_pos h]
    rfl
theorem plo_zero : plo 0 = 0 := by unfold plo; rw [dg_zero]; rfl
theorem pup_zero : pup 0 = 0 := by unfold pup; rw [dg_zero]; rfl
theorem isPl_zero : isPl 0 = true := by unfold isPl; rw [dg_zero]; rfl
theorem rk_zero : rk 0 = 0 := by unfold rk; rw [dg_zero]; rfl
/-- the number from ternary digits 0, 1 -/
theorem isPl_cons {d m : Nat} (hd : d < 2) : isPl (d + 3 * m) = isPl m := by
  rw [isPl_rec]
  have e1 : (d + 3 * m) % 3 = d := by omega
  have e2 : (d + 3 * m) / 3 = m := by omega
  rw [e1, e2, decide_eq_true (show d ≠ 2 by omega), Bool.true_and]
theorem plain_all (n : Nat) : 2 * pup n = n + plo n ∧ plo n ≤ pup n ∧ isPl (plo n) = true ∧ isPl (pup n) = true ∧ (plo n = pup n ↔ isPl n = true) := by
  induction n using Nat.strongRecOn with
  | _ n ih =>
    by_cases hn : n = 0
    · subst hn
      rw [plo_zero, pup_zero, isPl_zero]
      exact ⟨rfl, Nat.le_refl _, rfl, rfl, ⟨fun _ => rfl, fun _ => rfl⟩⟩
    · obtain ⟨h1, h2, h3, h4, h5⟩ := ih (n / 3) (Nat.div_lt_self (Nat.pos_of_ne_zero hn) (by decide))
      have hm : n % 3 < 3 := Nat.mod_lt _ (by decide)
      have hd : n = 3 * (n / 3) + n % 3 := (Nat.div_add_mod n 3).symm
      rw [plo_rec n, pup_rec n, isPl_rec n]
      generalize n / 3 = q at *
      have hc : n % 3 = 0 ∨ n % 3 = 1 ∨ n % 3 = 2 := by omega
      rcases hc with e | e | e
      · rw [e]
        simp only [show ¬ (0 : Nat) = 1 by decide, show ¬ (0 : Nat) < 0 by decide, if_false]
        refine ⟨by omega, by omega, ?_, ?_, ?_⟩
        · rw [isPl_cons (by decide)]; exact h3
        · rw [isPl_cons (by decide)]; exact h4
        · rw [show decide ((0 : Nat) ≠ 2) = true from rfl, Bool.true_and, ← h5]
          omega
      · rw [e]
        simp only [show (0 : Nat) < 1 by decide, if_true]
        refine ⟨by omega, by omega, ?_, ?_, ?_⟩
        · rw [isPl_cons (by decide)]; exact h3
        · rw [isPl_cons (by decide)]; exact h4
        · rw [show decide ((1 : Nat) ≠ 2) = true from rfl, Bool.true_and, ← h5]
          omega
      · rw [e]
        simp only [show ¬ (2 : Nat) = 1 by decide, show (0 : Nat) < 2 by decide, if_false, if_true]
        refine ⟨by omega, by omega, ?_, ?_, ?_⟩
        · rw [isPl_cons (by decide)]; exact h3
        · rw [isPl_cons (by decide)]; exact h4
        · rw [show decide ((2 : Nat) ≠ 2) = false from rfl, Bool.false_and]
          constructor
          · intro z
            omega
          · intro z
            cases z
/-- the member of the base set with a number -/
def bs (n : Nat) : Nat := if h : n = 0 then 0 else n % 2 + 3 * bs (n / 2)
termination_by n
decreasing_by exact Nat.div_lt_self (Nat.pos_of_ne_zero h) (by decide)
theorem bs_zero : bs 0 = 0 := by rw [bs]; rfl
theorem bs_pos {n : Nat} (h : n ≠ 0) : bs n = n % 2 + 3 * bs (n / 2) := by rw [bs, dif_neg h]
theorem bs_all (n : Nat) : isPl (bs n) = true ∧ rk (bs n) = n ∧ bs n ≤ n * n := by
  induction n using Nat.strongRecOn with
  | _ n ih =>
    by_cases hn : n = 0
    · subst hn
      rw [bs_zero]
      exact ⟨isPl_zero, rk_zero, Nat.zero_le _⟩
    · obtain ⟨h1, h2, h3⟩ := ih (n / 2) (Nat.div_lt_self (Nat.pos_of_ne_zero hn) (by decide))
      have hd : n = 2 * (n / 2) + n % 2 := (Nat.div_add_mod n 2).symm
      have hm : n % 2 < 2 := Nat.mod_lt _ (by decide)
      rw [bs_pos hn]
      refine ⟨by rw [isPl_cons hm]; exact h1, ?_, ?_⟩
      · rw [rk_rec]
        have e1 : (n % 2 + 3 * bs (n / 2)) % 3 = n % 2 := by omega
        have e2 : (n % 2 + 3 * bs (n / 2)) / 3 = bs (n / 2) := by omega
        rw [e1, e2, h2]
        omega
      · have e3 : n * n = (2 * (n / 2) + n % 2) * (2 * (n / 2) + n % 2) := by rw [← hd]
        rw [e3]
        generalize n / 2 = k at *
        generalize n % 2 = e at *
        have e4 : (2 * k + e) * (2 * k + e) = 4 * (k * k) + (4 * k + e) * e := by
          rw [Nat.add_mul, Nat.mul_add, Nat.mul_add, Nat.add_mul (4 * k) e e]
          have a1 : 2 * k * (2 * k) = 4 * (k * k) := by
            rw [Nat.mul_mul_mul_comm]
          have a2 : 2 * k * e = 2 * (k * e) := Nat.mul_assoc ..
          have a3 : e * (2 * k) = 2 * (k * e) := by rw [Nat.mul_comm, Nat.mul_assoc]
          have a4 : 4 * k * e = 4 * (k * e) := Nat.mul_assoc ..
          rw [a1, a2, a3, a4]
          omega
        rw [e4]
        have he : e ≤ (4 * k + e) * e := by
          have he2 : e = 0 ∨ e = 1 := by omega
          rcases he2 with rfl | rfl
          · exact Nat.zero_le _
          · omega
        omega
end Tf
/-! ### rows: moduli and members; composed pairs, ranks, members -/
namespace Tf
abbrev Row := Nat × List Nat
abbrev Srv := Nat × Nat × Nat
/-- the serving table, as the program fills it -/
def putT (r : Nat) (e : Srv) : List (Nat × Srv) → List (Nat × Srv)
  | [] => [(r, e)]
  | p :: t => if p.1 = r then (r, e) :: t else p :: putT r e t
def tabStep (N most low : Nat) (T : List (Nat × Srv)) (m : Nat) : List (Nat × Srv) :=
  if low < m ∧ ((2 * m - low) / N = 0 ∨ (2 * m - low) % N < most) then
    match T.lookup ((2 * m - low) % N) with
    | none => putT ((2 * m - low) % N) ((2 * m - low) / N, low, m) T
    | some e => if (2 * m - low) / N < e.1 then putT ((2 * m - low) % N) ((2 * m - low) / N, low, m) T else T
  else T
def tabRow (N most : Nat) (A : List Nat) (T : List (Nat × Srv)) (low : Nat) : List (Nat × Srv) := A.foldl (tabStep N most low) T
def tab (N most : Nat) (A : List Nat) : List (Nat × Srv) := A.foldl (tabRow N most A) []
def mx (A : List Nat) : Nat := A.foldl Nat.max 0
/-- the entry of a remainder -/
def srv (row : Row) (r : Nat) : Srv := ((tab row.1 (mx row.2) row.2).lookup r).getD (0, 0, 0)
/-- what the law finds for a remainder -/
def cand (row : Row) (r : Nat) : List Srv :=
  row.2.flatMap fun l => row.2.filterMap fun m =>
    if l < m ∧ (2 * m - l) % row.1 = r ∧ (2 * m - l < row.1 ∨ r < mx row.2) then some ((2 * m - l) / row.1, l, m) else none
def stock : List Row := [(1, [0]), (3, [0, 1]), (3, [0, 2]), (3, [1, 2]), (9, [0, 1, 3, 4]), (10, [0, 1, 7, 8]), (10, [1, 2, 8, 9]), (9, [1, 2, 4, 5])]
/-- all that is asked of a row, as one test -/
def rowB (row : Row) : Bool :=
  decide (0 < row.1) && (decide (row.1 ≤ 10) && (decide (0 < row.2.length) && (decide (row.2.length ≤ 4) && (row.2.all (fun a => decide (a < row.1)) &&
  (decide (row.2.Pairwise (· < ·)) && (decide (row.2.getLast? = some (mx row.2)) &&
  (row.2.all (fun l => row.2.all fun m => decide (l = m) || !(row.2.any fun x => decide ((x : Int) = (2 * (m : Int) - (l : Int)) % (row.1 : Int)))) &&
  (List.range row.1).all fun r => row.2.contains r ||
    (match (tab row.1 (mx row.2) row.2).lookup r with
     | none => false
     | some (c, l, m) => row.2.contains l && (row.2.contains m && (decide (l < m) && (decide (2 * m = l + r + c * row.1) &&
       (decide (c ≤ 1) && (decide (c = 0) || decide (r < mx row.2)))))))))))))) 
theorem stock_ok : ∀ row ∈ stock, rowB row = true := by decide +kernel
theorem andB {a b : Bool} (h : (a && b) = true) : a = true ∧ b = true := Bool.and_eq_true_iff.mp h
structure RowOk (row : Row) : Prop where
  pos : 0 < row.1
  ten : row.1 ≤ 10
  some_ : 0 < row.2.length
  four : row.2.length ≤ 4
  lt : ∀ a ∈ row.2, a < row.1
  up : row.2.Pairwise (· < ·)
  last : row.2.getLast? = some (mx row.2)
  free : ∀ l ∈ row.2, ∀ m ∈ row.2, l ≠ m → ∀ x ∈ row.2, (x : Int) ≠ (2 * (m : Int) - (l : Int)) % (row.1 : Int)
  serve : ∀ r, r < row.1 → r ∉ row.2 → ∃ c l m, (tab row.1 (mx row.2) row.2).lookup r = some (c, l, m) ∧ srv row r = (c, l, m) ∧ l ∈ row.2 ∧ m ∈ row.2 ∧ l < m ∧
    2 * m = l + r + c * row.1 ∧ c ≤ 1 ∧ (c = 0 ∨ r < mx row.2)
theorem RowOk.of {row : Row} (h : row ∈ stock) : RowOk row := by
  have b := stock_ok row h
  obtain ⟨h1, b⟩ := andB b
  obtain ⟨h2, b⟩ := andB b
  obtain ⟨h3, b⟩ := andB b
  obtain ⟨h4, b⟩ := andB b
  obtain ⟨h5, b⟩ := andB b
  obtain ⟨h6, b⟩ := andB b
  obtain ⟨h7, b⟩ := andB b
  obtain ⟨h8, b⟩ := andB b
  refine ⟨of_decide_eq_true h1, of_decide_eq_true h2, of_decide_eq_true h3, of_decide_eq_true h4, fun a ha => of_decide_eq_true (List.all_eq_true.mp h5 a ha),
    of_decide_eq_true h6, of_decide_eq_true h7, fun l hl m hm hne x hx => ?_, fun r hr hn => ?_⟩
  · have q := List.all_eq_true.mp (List.all_eq_true.mp h8 l hl) m hm
    rw [decide_eq_false hne, Bool.false_or, Bool.not_eq_true'] at q
    have q2 := List.any_eq_false.mp q x hx
    intro e
    exact q2 (decide_eq_true e)
  · have q := List.all_eq_true.mp b r (List.mem_range.mpr hr)
    have hc : row.2.contains r = false := by
      cases e : row.2.contains r with
      | false => rfl
      | true => exact absurd (List.contains_iff_mem.mp e) hn
    rw [hc, Bool.false_or] at q
    cases e : (tab row.1 (mx row.2) row.2).lookup r with
    | none =>
      rw [e] at q
      cases q
    | some t =>
      obtain ⟨c, l, m⟩ := t
      rw [e] at q
      obtain ⟨q1, q⟩ := andB q
      obtain ⟨q2, q⟩ := andB q
      obtain ⟨q3, q⟩ := andB q
      obtain ⟨q4, q⟩ := andB q
      obtain ⟨q5, q6⟩ := andB q
      refine ⟨c, l, m, rfl, ?_, List.contains_iff_mem.mp q1, List.contains_iff_mem.mp q2, of_decide_eq_true q3, of_decide_eq_true q4, of_decide_eq_true q5, ?_⟩
      · unfold srv
        rw [e]
        rfl
      · rcases Bool.or_eq_true_iff.mp q6 with q6 | q6
        · exact .inl (of_decide_eq_true q6)
        · exact .inr (of_decide_eq_true q6)
/-! #### whole stacks -/
def has : List Row → Nat → Bool
  | [], x => isPl x
  | row :: rs, x => row.2.contains (x % row.1) && has rs (x / row.1)
def comp : List Row → Nat → Option (Nat × Nat)
  | [], x => some (plo x, pup x)
  | row :: rs, x =>
    if x % row.1 ∈ row.2 then (comp rs (x / row.1)).map fun p => (x % row.1 + row.1 * p.1, x % row.1 + row.1 * p.2)
    else if x / row.1 < (srv row (x % row.1)).1 then none
    else (comp rs (x / row.1 - (srv row (x % row.1)).1)).map fun p =>
      ((srv row (x % row.1)).2.1 + row.1 * p.1, (srv row (x % row.1)).2.2 + row.1 * p.2)
def great : List Row → Nat
  | [] => 0
  | row :: rs => mx row.2 + row.1 * great rs
def prodN : List Row → Nat
  | [] => 1
  | row :: rs => row.1 * prodN rs
def memb : List Row → Nat → Nat
  | [], l => bs l
  | row :: rs, l => row.2.getD (l % row.2.length) 0 + row.1 * memb rs (l / row.2.length)
def rankF : List Row → Nat → Nat × Bool
  | [], x => (rk x, isPl x)
  | row :: rs, x => ((rankF rs (x / row.1)).1 * row.2.length + (if (rankF rs (x / row.1)).2 = true then (row.2.filter fun a => decide (a < x % row.1)).length else 0),
      (rankF rs (x / row.1)).2 && row.2.contains (x % row.1))
theorem le_mx : ∀ (A : List Nat) (a z : Nat), a ∈ A ∨ a ≤ z → a ≤ A.foldl Nat.max z
  | [], a, z, h => by
    rcases h with h | h
    · cases h
    · exact h
  | x :: r, a, z, h => by
    show a ≤ r.foldl Nat.max (Nat.max z x)
    refine le_mx r a _ ?_
    rcases h with h | h
    · rcases List.mem_cons.mp h with e | h
      · exact .inr (e ▸ Nat.le_max_right _ _)
      · exact .inl h
    · exact .inr (Nat.le_trans h (Nat.le_max_left _ _))
theorem divmod_at {N r q : Nat} (hr : r < N) : (r + N * q) % N = r ∧ (r + N * q) / N = q := by
  have hN : 0 < N := Nat.lt_of_le_of_lt (Nat.zero_le _) hr
  refine ⟨?_, ?_⟩
  · rw [Nat.add_mul_mod_self_left, Nat.mod_eq_of_lt hr]
  · rw [Nat.add_mul_div_left _ _ hN, Nat.div_eq_of_lt hr, Nat.zero_add]
theorem has_at {row : Row} {rs : List Row} {r q : Nat} (hr : r < row.1) : has (row :: rs) (r + row.1 * q) = (row.2.contains r && has rs q) := by
  show (row.2.contains ((r + row.1 * q) % row.1) && has rs ((r + row.1 * q) / row.1)) = _
  rw [(divmod_at hr).1, (divmod_at hr).2]
/-- what the law asks of a number -/
def Right (rows : List Row) (x : Nat) : Option (Nat × Nat) → Prop
  | none => x < great rows ∧ has rows x = false
  | some (y, z) => 2 * z = x + y ∧ y ≤ z ∧ has rows y = true ∧ has rows z = true ∧ (y = z ↔ has rows x = true)
theorem comp_right : ∀ (rows : List Row), (∀ row ∈ rows, RowOk row) → ∀ x, Right rows x (comp rows x)
  | [], _, x => by
    obtain ⟨h1, h2, h3, h4, h5⟩ := plain_all x
    exact ⟨h1, h2, h3, h4, h5⟩
  | row :: rs, ok, x => by
    have o := ok row (List.mem_cons_self ..)
    have ih := comp_right rs fun r hr => ok r (List.mem_cons_of_mem _ hr)
    obtain ⟨r, q, hr, rfl⟩ : ∃ r q, r < row.1 ∧ x = r + row.1 * q :=
      ⟨x % row.1, x / row.1, Nat.mod_lt _ o.pos, (Nat.mod_add_div x row.1).symm⟩
    have hh := has_at (row := row) (rs := rs) (q := q) hr
    unfold comp
    rw [(divmod_at hr).1, (divmod_at hr).2]
    have hG : ∀ a b : Nat, a < b → row.1 * a + row.1 ≤ row.1 * b := fun a b h => by
      have := Nat.mul_le_mul_left row.1 (Nat.succ_le_of_lt h)
      rw [Nat.mul_succ] at this
      exact this
    by_cases hA : r ∈ row.2
    · rw [if_pos hA]
      have hc : row.2.contains r = true := List.contains_iff_mem.mpr hA
      rw [hc, Bool.true_and] at hh
      have iq := ih q
      cases e : comp rs q with
      | none =>
        rw [e] at iq
        obtain ⟨g1, g2⟩ := iq
        refine ⟨?_, by rw [hh]; exact g2⟩
        show r + row.1 * q < mx row.2 + row.1 * great rs
        have := hG _ _ g1
        omega
      | some p =>
        obtain ⟨y, z⟩ := p
        rw [e] at iq
        obtain ⟨g1, g2, g3, g4, g5⟩ := iq
        have m1 : row.1 * (2 * z) = row.1 * (q + y) := by rw [g1]
        rw [Nat.mul_left_comm, Nat.mul_add] at m1
        have m2 := Nat.mul_le_mul_left row.1 g2
        refine ⟨?_, ?_, ?_, ?_, ?_⟩
        · show 2 * (r + row.1 * z) = (r + row.1 * q) + (r + row.1 * y)
          omega
        · show r + row.1 * y ≤ r + row.1 * z
          omega
        · rw [has_at hr, hc, Bool.true_and]
          exact g3
        · rw [has_at hr, hc, Bool.true_and]
          exact g4
        · rw [hh, ← g5]
          show r + row.1 * y = r + row.1 * z ↔ y = z
          constructor
          · intro h
            exact Nat.eq_of_mul_eq_mul_left o.pos (by omega)
          · intro h
            rw [h]
    · rw [if_neg hA]
      have hc : row.2.contains r = false := by
        cases e : row.2.contains r with
        | false => rfl
        | true => exact absurd (List.contains_iff_mem.mp e) hA
      rw [hc, Bool.false_and] at hh
      obtain ⟨c, l, m, _, e1, hl, hm, hlm, hs, hc1, hc0⟩ := o.serve r hr hA
      rw [e1]
      show Right (row :: rs) (r + row.1 * q) (if q < c then none else (comp rs (q - c)).map fun p => (l + row.1 * p.1, m + row.1 * p.2))
      have hl2 := o.lt l hl
      have hm2 := o.lt m hm
      have hl3 : row.2.contains l = true := List.contains_iff_mem.mpr hl
      have hm3 : row.2.contains m = true := List.contains_iff_mem.mpr hm
      have hcN : c * row.1 = row.1 * c := Nat.mul_comm ..
      by_cases hq : q < c
      · rw [if_pos hq]
        have c1 : c = 1 := by omega
        have q0 : q = 0 := by omega
        refine ⟨?_, hh⟩
        show r + row.1 * q < mx row.2 + row.1 * great rs
        have hr2 : r < mx row.2 := by omega
        rw [q0, Nat.mul_zero]
        omega
      · rw [if_neg hq]
        obtain ⟨d, rfl⟩ : ∃ d, q = d + c := ⟨q - c, by omega⟩
        rw [Nat.add_sub_cancel]
        have id := ih d
        cases e : comp rs d with
        | none =>
          rw [e] at id
          obtain ⟨g1, g2⟩ := id
          refine ⟨?_, hh⟩
          show r + row.1 * (d + c) < mx row.2 + row.1 * great rs
          have h3 := hG _ _ g1
          rw [Nat.mul_add]
          have hc2 : c = 0 ∨ c = 1 := by omega
          rcases hc2 with rfl | rfl
          · omega
          · have hr2 : r < mx row.2 := by omega
            omega
        | some p =>
          obtain ⟨y, z⟩ := p
          rw [e] at id
          obtain ⟨g1, g2, g3, g4, g5⟩ := id
          have m1 : row.1 * (2 * z) = row.1 * (d + y) := by rw [g1]
          rw [Nat.mul_left_comm, Nat.mul_add] at m1
          have m2 := Nat.mul_le_mul_left row.1 g2
          refine ⟨?_, ?_, ?_, ?_, ?_⟩
          · show 2 * (m + row.1 * z) = (r + row.1 * (d + c)) + (l + row.1 * y)
            rw [Nat.mul_add row.1 d c]
            omega
          · show l + row.1 * y ≤ m + row.1 * z
            omega
          · rw [has_at hl2, hl3, Bool.true_and]
            exact g3
          · rw [has_at hm2, hm3, Bool.true_and]
            exact g4
          · rw [hh]
            show l + row.1 * y = m + row.1 * z ↔ false = true
            constructor
            · intro h
              omega
            · intro h
              cases h
/-! #### members and ranks -/
theorem get_mem {A : List Nat} {i : Nat} (h : i < A.length) : A.getD i 0 ∈ A := by
  have e : A.getD i 0 = A[i] := by
    rw [List.getD_eq_getElem?_getD, List.getElem?_eq_getElem h]
    rfl
  rw [e]
  exact List.getElem_mem h
theorem below : ∀ (A : List Nat), A.Pairwise (· < ·) → ∀ i, i < A.length → (A.filter fun a => decide (a < A.getD i 0)).length = i
  | [], _, i, h => absurd h (Nat.not_lt_zero _)
  | x :: r, hp, 0, _ => by
    show ((x :: r).filter fun a => decide (a < x)).length = 0
    have e : (x :: r).filter (fun a => decide (a < x)) = [] := by
      refine List.filter_eq_nil_iff.mpr fun a ha => ?_
      have hx : ∀ b ∈ r, x < b := fun b hb => List.rel_of_pairwise_cons hp hb
      rcases List.mem_cons.mp ha with rfl | ha
      · simp
      · have := hx a ha
        simp
        omega
    rw [e]
    rfl
  | x :: r, hp, i + 1, h => by
    have h2 : i < r.length := by simpa using h
    have ih := below r (List.Pairwise.of_cons hp) i h2
    show ((x :: r).filter fun a => decide (a < r.getD i 0)).length = i + 1
    have hx := List.rel_of_pairwise_cons hp (get_mem h2)
    rw [List.filter_cons, if_pos (decide_eq_true hx), List.length_cons, ih]
theorem rank_memb : ∀ (rows : List Row), (∀ row ∈ rows, RowOk row) → ∀ l, rankF rows (memb rows l) = (l, true)
  | [], _, l => by
    obtain ⟨h1, h2, _⟩ := bs_all l
    show (rk (bs l), isPl (bs l)) = _
    rw [h1, h2]
  | row :: rs, ok, l => by
    have o := ok row (List.mem_cons_self ..)
    have ih := rank_memb rs fun r hr => ok r (List.mem_cons_of_mem _ hr)
    have hk : l % row.2.length < row.2.length := Nat.mod_lt _ o.some_
    have ha := get_mem hk
    have hr := o.lt _ ha
    have e : memb (row :: rs) l = row.2.getD (l % row.2.length) 0 + row.1 * memb rs (l / row.2.length) := rfl
    have e2 : ∀ x, rankF (row :: rs) x = ((rankF rs (x / row.1)).1 * row.2.length + (if (rankF rs (x / row.1)).2 = true then (row.2.filter fun a => decide (a < x % row.1)).length else 0),
      (rankF rs (x / row.1)).2 && row.2.contains (x % row.1)) := fun _ => rfl
    rw [e2, e, (divmod_at hr).1, (divmod_at hr).2, ih, below _ o.up _ hk]
    simp only [if_true]
    rw [List.contains_iff_mem.mpr ha, Nat.mul_comm, Nat.div_add_mod]
    rfl
theorem memb_lt : ∀ (rows : List Row), (∀ row ∈ rows, RowOk row) → ∀ l n, l ≤ n → memb rows l < prodN rows * (n * n + 1)
  | [], _, l, n, h => by
    have h2 := (bs_all l).2.2
    have h3 := Nat.mul_le_mul h h
    show bs l < 1 * (n * n + 1)
    omega
  | row :: rs, ok, l, n, h => by
    have o := ok row (List.mem_cons_self ..)
    have ih := memb_lt rs (fun r hr => ok r (List.mem_cons_of_mem _ hr)) (l / row.2.length) n (Nat.le_trans (Nat.div_le_self _ _) h)
    have hr := o.lt _ (get_mem (Nat.mod_lt l o.some_))
    show row.2.getD (l % row.2.length) 0 + row.1 * memb rs (l / row.2.length) < row.1 * prodN rs * (n * n + 1)
    have h3 := Nat.mul_le_mul_left row.1 (Nat.succ_le_of_lt ih)
    rw [Nat.mul_succ, ← Nat.mul_assoc] at h3
    omega
theorem great_lt : ∀ (rows : List Row), (∀ row ∈ rows, RowOk row) → great rows < prodN rows
  | [], _ => Nat.zero_lt_one
  | row :: rs, ok => by
    have o := ok row (List.mem_cons_self ..)
    have ih := great_lt rs fun r hr => ok r (List.mem_cons_of_mem _ hr)
    have hm : mx row.2 < row.1 := o.lt _ (List.mem_of_getLast? o.last)
    show mx row.2 + row.1 * great rs < row.1 * prodN rs
    have h3 := Nat.mul_le_mul_left row.1 (Nat.succ_le_of_lt ih)
    rw [Nat.mul_succ] at h3
    omega
theorem prod_pos : ∀ (rows : List Row), (∀ row ∈ rows, RowOk row) → 0 < prodN rows
  | [], _ => Nat.zero_lt_one
  | row :: rs, ok => Nat.mul_pos (ok row (List.mem_cons_self ..)).pos (prod_pos rs fun r hr => ok r (List.mem_cons_of_mem _ hr))
theorem prod_snoc : ∀ (rows : List Row) (row : Row), prodN (rows ++ [row]) = prodN rows * row.1
  | [], row => by
    show row.1 * 1 = 1 * row.1
    omega
  | r :: rs, row => by
    show r.1 * prodN (rs ++ [row]) = r.1 * prodN rs * row.1
    rw [prod_snoc rs row, Nat.mul_assoc]
end Tf
/-! ### loops over a stack, in plain numbers -/
namespace Tf
def rems : List Row → Nat → List Nat
  | [], _ => []
  | row :: rs, x => x % row.1 :: rems rs (x / row.1)
def restN : List Row → Nat → Nat
  | [], x => x
  | row :: rs, x => restN rs (x / row.1)
theorem rems_len : ∀ (rows : List Row) (x : Nat), (rems rows x).length = rows.length
  | [], _ => rfl
  | _ :: rs, _ => congrArg (· + 1) (rems_len rs _)
theorem restN_step : ∀ (rows : List Row) (x i : Nat) (row : Row), rows[i]? = some row → restN (rows.take (i + 1)) x = restN (rows.take i) x / row.1
  | r :: rs, x, 0, row, h => by
    cases h
    rfl
  | r :: rs, x, i + 1, row, h => restN_step rs (x / r.1) i row h
theorem rems_at : ∀ (rows : List Row) (x i : Nat) (row : Row), rows[i]? = some row → (rems rows x)[i]? = some (restN (rows.take i) x % row.1)
  | r :: rs, x, 0, row, h => by
    cases h
    rfl
  | r :: rs, x, i + 1, row, h => rems_at rs (x / r.1) i row h
theorem restN_le : ∀ (rows : List Row) (x : Nat), restN rows x ≤ x
  | [], x => Nat.le_refl x
  | r :: rs, x => Nat.le_trans (restN_le rs _) (Nat.div_le_self _ _)
def glue : List Row → List Nat → Nat → Nat
  | row :: rows, r :: rs, z => r + row.1 * glue rows rs z
  | _, _, z => z
theorem drop_at {α : Type} {l : List α} {i : Nat} {x : α} (h : l[i]? = some x) : l.drop i = x :: l.drop (i + 1) := by
  obtain ⟨h1, h2⟩ := List.getElem?_eq_some_iff.mp h
  rw [← h2]
  exact List.drop_eq_getElem_cons h1
theorem glue_step {rows : List Row} {rs : List Nat} {z j r : Nat} {row : Row} (h : rows[j]? = some row) (h2 : rs[j]? = some r) :
    glue (rows.drop j) (rs.drop j) z = r + row.1 * glue (rows.drop (j + 1)) (rs.drop (j + 1)) z := by
  rw [drop_at h, drop_at h2]
  rfl
theorem rank_step {rows : List Row} {x j : Nat} {row : Row} (h : rows[j]? = some row) :
    rankF (rows.drop j) (restN (rows.take j) x) = ((rankF (rows.drop (j + 1)) (restN (rows.take (j + 1)) x)).1 * row.2.length +
        (if (rankF (rows.drop (j + 1)) (restN (rows.take (j + 1)) x)).2 = true then (row.2.filter fun a => decide (a < restN (rows.take j) x % row.1)).length else 0),
      (rankF (rows.drop (j + 1)) (restN (rows.take (j + 1)) x)).2 && row.2.contains (restN (rows.take j) x % row.1)) := by
  rw [drop_at h, restN_step rows x j row h]
  rfl
/-- one layer of composed_pair -/
def cstep (row : Row) (x : Nat) : Option (Nat × Nat × Nat) :=
  if x % row.1 ∈ row.2 then some (x % row.1, x % row.1, x / row.1)
  else if x / row.1 < (srv row (x % row.1)).1 then none
  else some ((srv row (x % row.1)).2.1, (srv row (x % row.1)).2.2, x / row.1 - (srv row (x % row.1)).1)
def cfwd : List Row → Nat → Option (List Nat × List Nat × Nat)
  | [], x => some ([], [], x)
  | row :: rs, x => (cstep row x).bind fun t => (cfwd rs t.2.2).map fun u => (t.1 :: u.1, t.2.1 :: u.2.1, u.2.2)
theorem comp_cstep (row : Row) (rs : List Row) (x : Nat) : comp (row :: rs) x = (cstep row x).bind fun t => (comp rs t.2.2).map fun p => (t.1 + row.1 * p.1, t.2.1 + row.1 * p.2) := by
  show (if x % row.1 ∈ row.2 then _ else _) = _
  unfold cstep
  by_cases h : x % row.1 ∈ row.2
  · rw [if_pos h, if_pos h]
    rfl
  · rw [if_neg h, if_neg h]
    by_cases h2 : x / row.1 < (srv row (x % row.1)).1
    · rw [if_pos h2, if_pos h2]
      rfl
    · rw [if_neg h2, if_neg h2]
      rfl
theorem comp_cfwd : ∀ (rows : List Row) (x : Nat), comp rows x = (cfwd rows x).map fun t => (glue rows t.1 (plo t.2.2), glue rows t.2.1 (pup t.2.2))
  | [], x => rfl
  | row :: rs, x => by
    rw [comp_cstep]
    show _ = ((cstep row x).bind _).map _
    cases cstep row x with
    | none => rfl
    | some t =>
      show (comp rs t.2.2).map _ = ((cfwd rs t.2.2).map _).map _
      rw [comp_cfwd rs t.2.2]
      cases cfwd rs t.2.2 with
      | none => rfl
      | some u => rfl
theorem cfwd_app : ∀ (a b : List Row) (x : Nat), cfwd (a ++ b) x = (cfwd a x).bind fun t => (cfwd b t.2.2).map fun u => (t.1 ++ u.1, t.2.1 ++ u.2.1, u.2.2)
  | [], b, x => by
    show cfwd b x = (cfwd b x).map fun u => ([] ++ u.1, [] ++ u.2.1, u.2.2)
    cases cfwd b x with
    | none => rfl
    | some u => rfl
  | row :: a, b, x => by
    show (cstep row x).bind _ = ((cstep row x).bind _).bind _
    cases cstep row x with
    | none => rfl
    | some t =>
      show (cfwd (a ++ b) t.2.2).map _ = ((cfwd a t.2.2).map _).bind _
      rw [cfwd_app a b t.2.2]
      cases cfwd a t.2.2 with
      | none => rfl
      | some u =>
        show ((cfwd b u.2.2).map _).map _ = (cfwd b u.2.2).map _
        cases cfwd b u.2.2 with
        | none => rfl
        | some v => rfl
theorem cfwd_step {rows : List Row} {x i : Nat} {row : Row} {lo up : List Nat} {q : Nat} (h : rows[i]? = some row) (e : cfwd (rows.take i) x = some (lo, up, q)) :
    cfwd (rows.take (i + 1)) x = (cstep row q).map fun t => (lo ++ [t.1], up ++ [t.2.1], t.2.2) := by
  rw [List.take_add_one, h]
  show cfwd (rows.take i ++ [row]) x = _
  rw [cfwd_app, e]
  show ((cstep row q).bind _).map _ = _
  cases cstep row q with
  | none => rfl
  | some t => rfl
theorem cfwd_dead {rows : List Row} {x i : Nat} (e : cfwd (rows.take i) x = none) : comp rows x = none := by
  rw [comp_cfwd, ← List.take_append_drop i rows, cfwd_app, e]
  rfl
theorem cstep_le {row : Row} {x : Nat} {t : Nat × Nat × Nat} (h : cstep row x = some t) : t.2.2 ≤ x := by
  unfold cstep at h
  have hd := Nat.div_le_self x row.1
  split at h
  · cases h
    exact hd
  · split at h
    · cases h
    · cases h
      exact Nat.le_trans (Nat.sub_le _ _) hd
theorem cfwd_le : ∀ (rows : List Row) (x : Nat) (t : List Nat × List Nat × Nat), cfwd rows x = some t → t.2.2 ≤ x ∧ t.1.length = rows.length ∧ t.2.1.length = rows.length
  | [], x, t, h => by
    cases h
    exact ⟨Nat.le_refl _, rfl, rfl⟩
  | row :: rs, x, t, h => by
    have h : ((cstep row x).bind fun t => (cfwd rs t.2.2).map fun u => (t.1 :: u.1, t.2.1 :: u.2.1, u.2.2)) = some t := h
    cases e : cstep row x with
    | none =>
      rw [e] at h
      cases h
    | some u =>
      rw [e] at h
      have h : (cfwd rs u.2.2).map (fun v => (u.1 :: v.1, u.2.1 :: v.2.1, v.2.2)) = some t := h
      cases e2 : cfwd rs u.2.2 with
      | none =>
        rw [e2] at h
        cases h
      | some v =>
        rw [e2] at h
        cases h
        obtain ⟨h1, h2, h3⟩ := cfwd_le rs _ v e2
        exact ⟨Nat.le_trans h1 (cstep_le e), congrArg (· + 1) h2, congrArg (· + 1) h3⟩
theorem prod_take {rows : List Row} {i : Nat} {row : Row} (h : rows[i]? = some row) : prodN (rows.take (i + 1)) = prodN (rows.take i) * row.1 := by
  rw [List.take_add_one, h]
  exact prod_snoc _ _
theorem great_step {rows : List Row} {j : Nat} {row : Row} (h : rows[j]? = some row) : great (rows.drop j) = mx row.2 + row.1 * great (rows.drop (j + 1)) := by
  rw [drop_at h]
  rfl
theorem rev_at {α : Type} {l : List α} {i : Nat} {x : α} (h : l.reverse[i]? = some x) : ∃ j, j + 1 + i = l.length ∧ l[j]? = some x := by
  have hl : i < l.length := by
    have := (List.getElem?_eq_some_iff.mp h).1
    rwa [List.length_reverse] at this
  refine ⟨l.length - 1 - i, by omega, ?_⟩
  rw [← h, List.getElem?_reverse hl]
end Tf
/-! ### short words for this program -/
namespace Tf
open PySem PySem.Spec PyProof.Rows L2
/-- the built-ins are still the built-ins -/
structure Bt (mg : Str → Option Value) : Prop where
  len : mg "len" = none
  isi : mg "isinstance" = none
  int : mg "int" = none
  bool : mg "bool" = none
  divmod : mg "divmod" = none
  range : mg "range" = none
  tuple : mg "tuple" = none
  list : mg "list" = none
  enum : mg "enumerate" = none
  max : mg "max" = none
  min : mg "min" = none
  zip : mg "zip" = none
abbrev Fn0 (K : Fg) (x q : Str) (st : Stmt) (f : Addr) (fd : FuncData) : Prop := FunD K x q (defArgs st) (defBody st) (defScope st) [] [] f fd
section
variable (P : Program) (w : World) (K : Fg) (mg : Str → Option Value) (base : Heap)
/-- a def of the module keeps a promise -/
structure DOk (k : Nat) (x : Str) (ps : List Str) (sp : Sp) : Prop where
  ex : ∃ f fd, FnOk P w K mg base CX0 k f fd ps sp ∧ mg x = some (.ref f) ∧ PySem.W.keepIn K (.ref f) = true ∧ Binds K fd ps []
/-- a method of the class at C -/
structure MOk (k : Nat) (C : Addr) (m : Str) (ps : List Str) (sp : Sp) : Prop where
  ex : ∃ f fd, FnOk P w K mg base CX0 k f fd ps sp ∧ Meth K C m f ∧ Binds K fd ps []
/-- a property of the class at C -/
structure POk (k : Nat) (C : Addr) (m : Str) (sp : Sp) : Prop where
  ex : ∃ p g fd, FnOk P w K mg base CX0 k g fd ["self"] sp ∧ PropOf K C m p g ∧ Binds K fd ["self"] []
end
section
variable {P : Program} {w : World} {K : Fg} {mg : Str → Option Value} {base : Heap} {k j : Nat} {x : Str} {ps : List Str} {sp sp' : Sp} {C : Addr}
theorem DOk.mono (D : DOk P w K mg base j x ps sp) (h : j ≤ k) : DOk P w K mg base k x ps sp := by
  obtain ⟨f, fd, F, r⟩ := D.ex
  exact ⟨f, fd, F.mono h, r⟩
theorem MOk.mono (D : MOk P w K mg base j C x ps sp) (h : j ≤ k) : MOk P w K mg base k C x ps sp := by
  obtain ⟨f, fd, F, r⟩ := D.ex
  exact ⟨f, fd, F.mono h, r⟩
theorem POk.mono (D : POk P w K mg base j C x sp) (h : j ≤ k) : POk P w K mg base k C x sp := by
  obtain ⟨p, f, fd, F, r⟩ := D.ex
  exact ⟨p, f, fd, F.mono h, r⟩
theorem DOk.imp (D : DOk P w K mg base k x ps sp) (h : ∀ vs H Q E, sp' vs H Q E → sp vs H Q E) : DOk P w K mg base k x ps sp' := by
  obtain ⟨f, fd, F, r⟩ := D.ex
  exact ⟨f, fd, F.imp h, r⟩
end
section
variable {X : Cx} {k : Nat} {x m : Str} {ps : List Str} {sp : Sp} {C : Addr} {p pos apos : Pos} {e o : Expr} {es : List Expr} {t : TA} {ta : TE}
theorem pe_d (D : DOk X.prog X.w X.K X.mg X.base k x ps sp) (hr : Room k X.A) (hg : Gl X x) (ha : PA X (e :: es) t)
    (hdb : (x == ("__debug__" : Str)) = false := by decide) (he : starEach (e :: es) X.env = (false, eval e X.env) :: starEach es X.env := by rfl)
    (hpl : (backTo pos (starEach es X.env)).any (·.1) = false := by rfl) : PE X (.Call (.Name x p) (e :: es) [] pos) (tCall sp [] E0 t) := by
  obtain ⟨f, fd, F, hm, hk, hb⟩ := D.ex
  exact pe_call F hr hg hm hk hb .nil pass0 ha hdb he hpl
theorem pe_d0 (D : DOk X.prog X.w X.K X.mg X.base k x ps sp) (hr : Room k X.A) (hg : Gl X x)
    (hdb : (x == ("__debug__" : Str)) = false := by decide) : PE X (.Call (.Name x p) [] [] pos) (tCall sp [] E0 tNil) := by
  obtain ⟨f, fd, F, hm, hk, hb⟩ := D.ex
  exact pe_call0 F hr hg hm hk hb .nil pass0 hdb
theorem pe_m {pl : Sem Bool} (D : MOk X.prog X.w X.K X.mg X.base k C m ps sp) (he : PE X o ta) (c : Cls X.K C) (hr : Room k X.A) (ha : PA X (e :: es) t)
    (hst : starEach (e :: es) X.env = (false, eval e X.env) :: starEach es X.env := by rfl) (hpl : (backTo pos (starEach es X.env)).any (·.1) = false := by rfl)
    (ht : eval (.Call (.Attribute o m apos) (e :: es) [] pos) X.env = (do
      let ov ← eval o X.env
      standAt apos.atName
      let (f, first) ← holding [ov] (getMethod ov m pl)
      callWith pos f first (backTo pos (starEach (e :: es) X.env)) (backToKw pos (keywordEach [] X.env))) := by rfl) :
    PE X (.Call (.Attribute o m apos) (e :: es) [] pos) (tMeth C m sp [] E0 ta t) := by
  obtain ⟨f, fd, F, hm, hb⟩ := D.ex
  exact pe_meth (pl := pl) he c hm F hr hb .nil pass0 ha hst hpl ht
theorem pe_p (D : POk X.prog X.w X.K X.mg X.base k C m sp) (he : PE X e ta) (c : Cls X.K C) (hr : Room (k + 1) X.A)
    (hab : attributeBase e m X.env (eval e X.env) = eval e X.env := by rfl) : PE X (.Attribute e m pos) (tProp C sp [] E0 ta) := by
  obtain ⟨q, g, fd, F, hp, hb⟩ := D.ex
  exact pe_prop he c hp F hr hb .nil pass0 hab
/-- int, bool by name -/
theorem pe_tyInt (B : Bt X.mg) (hg : Gl X "int" := by rfl) : PE X (.Name "int" pos) (tC (.ty "int")) :=
  pe_bltn hg B.int boot_int rfl
theorem pe_tyBool (B : Bt X.mg) (hg : Gl X "bool" := by rfl) : PE X (.Name "bool" pos) (tC (.ty "bool")) :=
  pe_bltn hg B.bool boot_bool rfl
/-- isinstance(x, c) -/
theorem pe_isi {e2 : Expr} {tb : TE} (B : Bt X.mg) (ha : PE X e ta) (hb : PE X e2 tb) (hg : Gl X "isinstance" := by rfl)
    (h1 : starEach [e, e2] X.env = (false, eval e X.env) :: starEach [e2] X.env := by rfl) (h2 : starEach [e2] X.env = (false, eval e2 X.env) :: starEach [] X.env := by rfl)
    (h3 : (backTo pos (starEach [e2] X.env)).any (·.1) = false := by rfl) :
    PE X (.Call (.Name "isinstance" p) [e, e2] [] pos) (tCB (rIsi X.K) (tCons ta (tCons tb tNil))) :=
  pe_callB call_isi hg B.isi PyProof.Rows.boot_isinstance (pa_cons ha (pa_cons hb pa_nil h2) h1) (by decide) (by decide) h1 h3
end
theorem kInt {K : Fg} : PySem.W.kitOne K (.type "int") (.type "int") = some true := kit_ty (by decide +kernel)
theorem kBool {K : Fg} : PySem.W.kitOne K (.type "int") (.type "bool") = some false := kit_ty (by decide +kernel)
/-! ### numbers and lists of numbers as values -/
abbrev vi (n : Nat) : V := .int (n : Int)
abbrev vis (l : List Nat) : List V := l.map vi
theorem vis_len (l : List Nat) : (vis l).length = l.length := List.length_map ..
theorem vis_get {l : List Nat} {i n : Nat} (h : l[i]? = some n) : (vis l)[i]? = some (vi n) := by
  rw [List.getElem?_map, h]
  rfl
theorem vis_at {l : List Nat} {i : Nat} {x : V} (h : (vis l)[i]? = some x) : ∃ n, l[i]? = some n ∧ x = vi n := by
  rw [List.getElem?_map] at h
  cases e : l[i]? with
  | none =>
    rw [e] at h
    cases h
  | some n =>
    rw [e] at h
    exact ⟨n, rfl, (Option.some.inj h).symm⟩
theorem flat_vis (l : List Nat) : (vis l).all flatV = true := by
  rw [List.all_map]
  exact List.all_eq_true.mpr fun x _ => rfl
theorem inV_vis (n : Nat) (l : List Nat) : inV (vi n) (vis l) = l.contains n := by
  unfold inV
  rw [List.any_map]
  rw [Bool.eq_iff_iff, List.any_eq_true, List.contains_iff_mem]
  constructor
  · rintro ⟨y, hy, e⟩
    have e2 : decide ((y : Int) = (n : Int)) = true := e
    have e3 : y = n := by
      have := of_decide_eq_true e2
      omega
    rw [← e3]
    exact hy
  · intro h
    exact ⟨n, h, (decide_eq_true rfl : decide ((n : Int) = (n : Int)) = true)⟩
/-! ### heaps -/
theorem same_new {H : Hp} {p : Addr} {o : HO} (h : H p = none) : Same H (upd H p o) := fun b x e => by
  rw [upd_ne (ne_of_none e h)]
  exact e
/-- a fresh object of ours changes: what stood, stands -/
theorem same_own {H H' : Hp} {p : Addr} {o : HO} (s : Same H H') (h : H p = none) : Same H (upd H' p o) := fun b x e => by
  rw [upd_ne (ne_of_none e h)]
  exact s b x e
theorem Same.tup {K : Fg} {H H' : Hp} {a : Addr} {xs : List V} (e : Same H H') (h : SqT K H a xs) : SqT K H' a xs := by
  rcases h with (h | ⟨o, h⟩) | h
  · exact .inl (.inl (e _ _ h))
  · exact .inl (.inr ⟨o, e _ _ h⟩)
  · exact .inr h
theorem sqT_of {K : Fg} {H : Hp} {a : Addr} {xs : List V} (h : H a = some (.tup xs)) : SqT K H a xs := .inl (.inl h)
theorem sqL_of {K : Fg} {H : Hp} {a : Addr} {xs : List V} (h : H a = some (.lst xs)) : SqL K H a xs := .inl (.inl h)
end Tf
/-! ### base.py -/
namespace Tf
open PySem PySem.Spec PyProof.Rows L2
/-- is_integer(n, low = 0, high = None) of an integer of at least 0 -/
def spIsInt : Sp := fun vs H Q _ => ∃ n : Nat, vs = [vi n, .int 0, .non] ∧ Q (.bl true) H
def spNum : Sp := fun vs H Q _ => ∃ n : Nat, vs = [vi n, .int 0, .non] ∧ Q .non H
/-- digits_in(n, 3): a new list, the greatest digit first -/
def spDig : Sp := fun vs H Q _ => ∃ n : Nat, vs = [vi n, .int 3] ∧ n < 2 ^ 1000 ∧
  ∀ p H', Same H H' → H p = none → H' p = some (.lst (vis (dg n).reverse)) → Q (.ref p) H'
/-- number_of(digits, b) -/
def spNof (K : Fg) : Sp := fun vs H Q _ => ∃ (a : Addr) (ds : List Nat) (b : Nat), vs = [.ref a, vi b] ∧ SqL K H a (vis ds.reverse) ∧ b ≤ 10 ∧ Q (vi (val b ds)) H
def spPlain (K : Fg) : Sp := fun vs H Q _ => ∃ (a : Addr) (n : Nat), vs = [.ref a] ∧ SqL K H a (vis (dg n).reverse) ∧ Q (.bl (isPl n)) H
/-- rank_of of a member -/
def spRkOf : Sp := fun vs H Q _ => ∃ n : Nat, vs = [vi n] ∧ n < 2 ^ 1000 ∧ isPl n = true ∧ ∀ H', Same H H' → Q (vi (rk n)) H'
def spInBase : Sp := fun vs H Q _ => ∃ n : Nat, vs = [vi n] ∧ n < 2 ^ 1000 ∧ ∀ H', Same H H' → Q (.bl (isPl n)) H'
/-- plain_pair: a new tuple -/
def spPair : Sp := fun vs H Q _ => ∃ n : Nat, vs = [vi n] ∧ n < 2 ^ 1000 ∧
  ∀ p H', Same H H' → H p = none → H' p = some (.tup [vi (plo n), vi (pup n)]) → Q (.ref p) H'
section
variable {P : Program} {w : World} {K : Fg} {mg : Str → Option Value} {base : Heap} {f : Addr} {fd : FuncData}
theorem ok_is_integer (B : Bt mg) {kws : List (Str × V)} (F : FunD K "is_integer" "is_integer" (defArgs sis_integer) (defBody sis_integer) (defScope sis_integer) [] kws f fd) :
    FnOk P w K mg base CX0 1 f fd ["value", "low", "high"] spIsInt := by
  refine F.ok scis_integer (fun vs H Q E h => ?_) (fun cdv A outer s H vs Q E hr h => ?_)
  · obtain ⟨n, rfl, _⟩ := h
    rfl
  · obtain ⟨n, rfl, q⟩ := h
    refine ⟨_, PSs.nox (pss_cons (ps_if (PW.pt (pw_or (pt_not (pt_val (pe_isi B (pv 0) (pe_tyInt B)))) (pw_or1 (pt_val (pe_isi B (pv 0) (pe_tyBool B)))))) (pss_one (ps_ret pe_bl)) pss_nil)
      (pss_one (ps_ret (pe_and (pe_or (pe_cmpR op_isN (pv 1) pe_non (nomark _)) (pe_one (pe_cmpR op_le (pv 1) (pv 0) (nomark _))))
        (pe_one (pe_or (pe_cmpR op_isN (pv 2) pe_non (nomark _)) (pe_one (pe_cmpR op_le (pv 0) (pv 2) (nomark _))))))))), ?_⟩
    refine ⟨_, rfl, _, _, _, _, true, rfl, .ty "int", .base (.int _), kInt, true, rfl, iteF ?_⟩
    refine ⟨_, rfl, _, _, _, _, false, rfl, .ty "bool", .base (.int _), kBool, false, rfl, iteF ?_⟩
    refine ⟨_, rfl, rfl, _, rfl, iteF ?_⟩
    refine ⟨_, rfl, _, rfl, _, _, rfl, rfl, ?_⟩
    refine ⟨_, rfl, ?_⟩
    have e : decide ((0 : Int) ≤ (n : Int)) = true := decide_eq_true (Int.natCast_nonneg n)
    rw [e]
    exact iteT ⟨_, rfl, rfl, _, rfl, iteT q⟩
theorem ok_check_number {f1 : Addr} {fd1 : FuncData} {g : List Value → List Value → List Value} {dvs : List V}
    (F : FunD K "check_number" "check_number" (defArgs scheck_number) (defBody scheck_number) (defScope scheck_number) dvs [] f fd)
    (F1 : FnOk P w K mg base CX0 1 f1 fd1 ["value", "low", "high"] spIsInt) (g1 : mg "is_integer" = some (.ref f1)) (k1 : PySem.W.keepIn K (.ref f1) = true)
    (b1 : KBn K fd1 ["value", "low", "high"] 1 ["low", "high"] g fun vs zs => vs ++ zs) :
    FnOk P w K mg base CX0 2 f fd ["value", "low", "high"] spNum := by
  refine F.ok sccheck_number (fun vs H Q E h => ?_) (fun cdv A outer s H vs Q E hr h => ?_)
  · obtain ⟨n, rfl, _⟩ := h
    rfl
  · obtain ⟨n, rfl, q⟩ := h
    refine ⟨_, PSs.nox (pss_one (ps_if (pt_not (pt_val (pe_callN F1 hr (by rfl) g1 k1 b1 pass0 (pa_cons (pv 0) pa_nil) (pk_cons (pv 1) (pk_cons (pv 2) pk_nil))))) (pss_one ps_never) pss_nil)), ?_⟩
    exact ⟨_, rfl, _, rfl, _, rfl, rfl, rfl, n, rfl, true, rfl, iteF q⟩
end
/-- check_number, called with one value -/
structure NOk (P : Program) (w : World) (K : Fg) (mg : Str → Option Value) (base : Heap) : Prop where
  ex : ∃ f fd ds, FnOk P w K mg base CX0 2 f fd ["value", "low", "high"] spNum ∧ mg "check_number" = some (.ref f) ∧ PySem.W.keepIn K (.ref f) = true ∧
    Vals [.int 0, .non] ds ∧ Binds K fd ["value", "low", "high"] ds
theorem pe_num {X : Cx} {p pos : Pos} {e : Expr} {t : TA} (D : NOk X.prog X.w X.K X.mg X.base) (hr : Room 2 X.A) (hg : Gl X "check_number") (ha : PA X [e] t)
    (he : starEach [e] X.env = (false, eval e X.env) :: starEach [] X.env := by rfl) : PE X (.Call (.Name "check_number" p) [e] [] pos) (tCall spNum [.int 0, .non] E0 t) := by
  obtain ⟨f, fd, ds, F, hm, hk, hv, hb⟩ := D.ex
  exact pe_call F hr hg hm hk hb hv pass0 ha (by decide) he rfl
section
variable {P : Program} {w : World} {K : Fg} {mg : Str → Option Value} {base : Heap} {f : Addr} {fd : FuncData}
theorem ok_digits_in (B : Bt mg) (F : Fn0 K "digits_in" "digits_in" sdigits_in f fd) : FnOk P w K mg base CX0 1 f fd ["number", "radix"] spDig := by
  refine F.ok scdigits_in (fun vs H Q E h => ?_) (fun cdv A outer s H vs Q E hr h => ?_)
  · obtain ⟨n, rfl, _⟩ := h
    rfl
  · obtain ⟨n, rfl, hn, q⟩ := h
    refine ⟨_, PSs.nox (pss_cons (ps_set (i := 2) scdigits_in.nd rfl (.inl rfl) (pe_lst pa_nil))
      (pss_cons (ps_while PassesOwn.never (pt_cmpR op_gt (pv 0) pe_int (nomark _))
        (pss_cons (ps_asg (pe_callB call_divmod (by rfl) B.divmod PyProof.Rows.boot_divmod (pa_cons (pv 0) (pa_cons (pv 1) pa_nil)))
            (pg_tup rfl (pgs_cons (pg_name (i := 0) scdigits_in.nd rfl (.inl rfl)) (pgs_cons (pg_name (i := 3) scdigits_in.nd rfl (.inl rfl)) pgs_nil))))
          (pss_one (ps_expr (pe_bm PySem.F.plainAttrs_list PySem.F.slot_list_append PySem.F.type_list_append mt_append (pv 2) (pa_cons (pv 3) pa_nil))))))
      (pss_one (ps_ret (pe_revL (pv 2)))))), ?_⟩
    refine ⟨Nat.zero_le _, fun o no => ?_⟩
    have hlen := dg_len 1000 n hn
    refine while_by (fun σ H3 => ∃ (m : Nat) (acc : List Nat) (y : Option V), σ = [some (vi m), some (.int 3), some (.ref o), y] ∧ acc ++ dg m = dg n ∧ Same H H3 ∧ H3 o = some (.lst (vis acc)))
      (fun σ _ => match σ with
        | some (.int m) :: _ => m.toNat
        | _ => 0) ⟨n, [], none, rfl, rfl, same_new no, upd_same⟩ ?_ ?_
    · rintro σ H3 ⟨m, acc, y, rfl, e, sm, ho⟩
      refine ⟨_, rfl, _, _, rfl, rfl, _, rfl, ?_⟩
      refine ite2 (fun hm => ?_) (fun hm => ?_)
      · have hm0 : m ≠ 0 := by
          intro z
          subst z
          exact absurd (of_decide_eq_true hm) (by decide)
        refine ⟨_, rfl, _, rfl, _, _, rfl, ⟨by decide, by decide⟩, fun T nT => ?_⟩
        have oT : o ≠ T := ne_of_none ho nT
        refine ⟨T, _, rfl, sqT_of upd_same, rfl, _, _, rfl, _, _, rfl, rfl, ?_⟩
        have hoT : (upd H3 T (.tup [.int ((m : Int) / 3), .int ((m : Int) % 3)])) o = some (.lst (vis acc)) := by
          rw [upd_ne oT]
          exact ho
        have la : acc.length ≤ 1000 := by
          have e2 := congrArg List.length e
          rw [List.length_append] at e2
          omega
        refine ⟨_, rfl, .inl ⟨rfl, _, sqL_of hoT⟩, _, rfl, o, _, _, rfl, rfl, hoT, by rw [vis_len]; exact small1000 la, ?_⟩
        refine ⟨⟨m / 3, acc ++ [m % 3], some (vi (m % 3)), rfl, ?_, ?_, ?_⟩, ?_⟩
        · rw [← e, dg_pos hm0, List.append_assoc]
          rfl
        · refine same_own (fun b x z => ?_) no
          exact same_new nT b x (sm b x z)
        · rw [upd_same]
          unfold vis
          rw [List.map_append]
          rfl
        · show ((m / 3 : Nat) : Int).toNat < (m : Int).toNat
          rw [Int.toNat_natCast, Int.toNat_natCast]
          exact Nat.div_lt_self (Nat.pos_of_ne_zero hm0) (by decide)
      · have hm0 : m = 0 := by
          have hm2 : ¬ ((0 : Int) < (m : Int)) := fun z => hm (decide_eq_true z)
          omega
        subst hm0
        rw [dg_zero, List.append_nil] at e
        subst e
        refine ⟨_, rfl, o, _, rfl, sqL_of ho, fun p np => ?_⟩
        refine q p _ (fun b x z => ?_) ?_ ?_
        · exact same_new np b x (sm b x z)
        · exact sm.free np
        · rw [upd_same]
          unfold vis
          rw [List.map_reverse]
    · rintro σ H3 R R' himp ⟨v, hv, i, j, e1, e2, c, e3, hR⟩
      exact ⟨v, hv, i, j, e1, e2, c, e3, himp _ _ hR⟩
theorem small64 {b : Nat} (h : b ≤ 10) : (-(2 ^ 64) < (b : Int) ∧ (b : Int) < 2 ^ 64) := by
  constructor <;> omega
theorem ok_number_of (F : Fn0 K "number_of" "number_of" snumber_of f fd) : FnOk P w K mg base CX0 1 f fd ["digits", "radix"] (spNof K) := by
  refine F.ok scnumber_of (fun vs H Q E h => ?_) (fun cdv A outer s H vs Q E hr h => ?_)
  · obtain ⟨a, ds, b, rfl, _⟩ := h
    rfl
  · obtain ⟨a, ds, b, rfl, hS, hb, q⟩ := h
    refine ⟨_, PSs.nox (pss_cons (ps_set (i := 2) scnumber_of.nd rfl (.inl rfl) pe_int)
      (pss_cons (ps_for PassesOwn.never rfl (pi_list (pv 0)) (pg_name (i := 3) scnumber_of.nd rfl (.inl rfl))
        (pss_one (ps_set (i := 2) scnumber_of.nd rfl (.inl rfl) (pe_op op_add (pe_op op_mul (pv 2) (pv 1)) (pv 3)))))
      (pss_one (ps_ret (pv 2))))), ?_⟩
    refine ⟨_, rfl, a, rfl, ⟨_, hS⟩, for_list (K := K) (a := a) (xs := vis ds.reverse)
      (fun i σ H3 => ∃ y : Option V, σ = [some (.ref a), some (vi b), some (vi ((ds.reverse.take i).foldl (fun a d => a * b + d) 0)), y] ∧ H3 = H)
      ⟨none, rfl, rfl⟩ (fun i σ H3 _ ⟨_, _, e⟩ => by rw [e]; exact hS) ?_ ?_⟩
    · rintro i x σ H3 hi ⟨y, rfl, rfl⟩
      obtain ⟨d, hd, rfl⟩ := vis_at hi
      refine ⟨_, rfl, _, rfl, _, _, rfl, rfl, .inr (small64 hb), _, rfl, _, _, rfl, rfl, ?_⟩
      refine ⟨some (vi d), ?_, rfl⟩
      rw [List.take_add_one, hd, List.foldl_append]
      rfl
    · rintro σ H3 ⟨y, rfl, rfl⟩
      refine ⟨_, rfl, ?_⟩
      have e : (ds.reverse.take (vis ds.reverse).length).foldl (fun a d => a * b + d) 0 = val b ds := by
        rw [vis_len, List.take_length, val_fold, Nat.zero_mul, Nat.zero_add]
      rw [e]
      exact q
theorem ok_are_plain (F : Fn0 K "are_plain" "are_plain" sare_plain f fd) : FnOk P w K mg base CX0 1 f fd ["digits"] (spPlain K) := by
  refine F.ok scare_plain (fun vs H Q E h => ?_) (fun cdv A outer s H vs Q E hr h => ?_)
  · obtain ⟨a, n, rfl, _⟩ := h
    rfl
  · obtain ⟨a, n, rfl, hS, q⟩ := h
    refine ⟨_, PSs.nox (pss_one (ps_ret (pe_cmpR op_notIn_seq pe_int (pv 0) (by rfl)))), ?_⟩
    refine ⟨_, rfl, a, _, rfl, .inl hS, rfl, flat_vis _, ?_⟩
    have e : (!inV (V.int 2) (vis (dg n).reverse)) = isPl n := by
      rw [show V.int 2 = vi 2 from rfl, inV_vis, List.contains_reverse]
      unfold isPl
      rw [Bool.eq_iff_iff, Bool.not_eq_true', List.all_eq_true]
      constructor
      · intro h d hd
        refine decide_eq_true fun z => ?_
        subst z
        rw [List.contains_iff_mem.mpr hd] at h
        cases h
      · intro h
        cases hc : (dg n).contains 2 with
        | false => rfl
        | true => exact absurd rfl (of_decide_eq_true (h 2 (List.contains_iff_mem.mp hc)))
    rw [if_pos rfl, e]
    exact q
theorem ok_rank_of (F : Fn0 K "rank_of" "rank_of" srank_of f fd) (D1 : DOk P w K mg base 1 "digits_in" ["number", "radix"] spDig) (D2 : DOk P w K mg base 1 "are_plain" ["digits"] (spPlain K))
    (D3 : DOk P w K mg base 1 "number_of" ["digits", "radix"] (spNof K)) : FnOk P w K mg base CX0 2 f fd ["x"] spRkOf := by
  refine F.ok scrank_of (fun vs H Q E h => ?_) (fun cdv A outer s H vs Q E hr h => ?_)
  · obtain ⟨n, rfl, _⟩ := h
    rfl
  · obtain ⟨n, rfl, hn, hp, q⟩ := h
    refine ⟨_, PSs.nox (pss_cons (ps_set (i := 1) scrank_of.nd rfl (.inl rfl) (pe_d D1 hr (by rfl) (pa_cons (pv 0) (pa_cons pe_int pa_nil))))
      (pss_cons (ps_if (pt_val (pe_d D2 hr (by rfl) (pa_cons (pv 1) pa_nil))) (pss_one (ps_ret (pe_d D3 hr (by rfl) (pa_cons (pv 1) (pa_cons pe_int pa_nil))))) pss_nil)
      pss_never)), ?_⟩
    refine ⟨_, rfl, n, rfl, hn, fun p H1 s1 n1 h1 => ?_⟩
    refine ⟨_, rfl, p, n, rfl, sqL_of h1, _, rfl, ?_⟩
    rw [hp]
    refine iteT ⟨_, rfl, p, dg n, 2, rfl, sqL_of h1, by decide, q H1 s1⟩
theorem ok_in_base (F : Fn0 K "in_base" "in_base" sin_base f fd) (N : NOk P w K mg base) (D1 : DOk P w K mg base 1 "digits_in" ["number", "radix"] spDig) (D2 : DOk P w K mg base 1 "are_plain" ["digits"] (spPlain K)) :
    FnOk P w K mg base CX0 3 f fd ["x"] spInBase := by
  refine F.ok scin_base (fun vs H Q E h => ?_) (fun cdv A outer s H vs Q E hr h => ?_)
  · obtain ⟨n, rfl, _⟩ := h
    rfl
  · obtain ⟨n, rfl, hn, q⟩ := h
    have hr1 : Room 1 _ := hr.mono (by decide)
    refine ⟨_, PSs.nox (pss_cons (ps_expr (pe_num N hr (by rfl) (pa_cons (pv 0) pa_nil)))
      (pss_one (ps_ret (pe_d D2 hr1 (by rfl) (pa_cons (pe_d D1 hr1 (by rfl) (pa_cons (pv 0) (pa_cons pe_int pa_nil))) pa_nil))))), ?_⟩
    refine ⟨_, rfl, n, rfl, ?_⟩
    refine ⟨_, rfl, n, rfl, hn, fun p H1 s1 n1 h1 => ?_⟩
    exact ⟨p, n, rfl, sqL_of h1, q H1 s1⟩
theorem ok_base_rank (F : Fn0 K "base_rank" "base_rank" sbase_rank f fd) (N : NOk P w K mg base) (D1 : DOk P w K mg base 2 "rank_of" ["x"] spRkOf) :
    FnOk P w K mg base CX0 3 f fd ["x"] spRkOf := by
  refine F.ok scbase_rank (fun vs H Q E h => ?_) (fun cdv A outer s H vs Q E hr h => ?_)
  · obtain ⟨n, rfl, _⟩ := h
    rfl
  · obtain ⟨n, rfl, hn, hp, q⟩ := h
    refine ⟨_, PSs.nox (pss_cons (ps_expr (pe_num N hr (by rfl) (pa_cons (pv 0) pa_nil))) (pss_one (ps_ret (pe_d D1 hr (by rfl) (pa_cons (pv 0) pa_nil))))), ?_⟩
    exact ⟨_, rfl, n, rfl, _, rfl, n, rfl, hn, hp, q⟩
theorem ok_plain_pair (B : Bt mg) (F : Fn0 K "plain_pair" "plain_pair" splain_pair f fd) (N : NOk P w K mg base) (D1 : DOk P w K mg base 1 "digits_in" ["number", "radix"] spDig)
    (D3 : DOk P w K mg base 1 "number_of" ["digits", "radix"] (spNof K)) : FnOk P w K mg base CX0 3 f fd ["m"] spPair := by
  refine F.ok scplain_pair (fun vs H Q E h => ?_) (fun cdv A outer s H vs Q E hr h => ?_)
  · obtain ⟨n, rfl, _⟩ := h
    rfl
  · obtain ⟨n, rfl, hn, q⟩ := h
    have hr1 : Room 1 _ := hr.mono (by decide)
    refine ⟨_, PSs.nox (pss_cons (ps_expr (pe_num N hr (by rfl) (pa_cons (pv 0) pa_nil)))
      (pss_cons (ps_set (i := 1) scplain_pair.nd rfl (.inl rfl) (pe_d D1 hr1 (by rfl) (pa_cons (pv 0) (pa_cons pe_int pa_nil))))
      (pss_cons (ps_par (i := 2) (j := 3) rfl scplain_pair.nd rfl rfl (by decide) rfl rfl (pa_cons
          (pe_lc (own := [("digit", 4)]) rfl scplain_pair.nd (pi_list (pv 1)) (blkOk_by (N := nnplain_pair) (sc := defScope splain_pair) (by decide +kernel)) (fun _ _ _ _ _ => pg_name (i := 4) scplain_pair.nd rfl (.inl rfl)) (fun _ _ _ _ _ => pts_nil)
            (fun _ _ _ _ _ => pe_callTy call_int1 (by rfl) B.int boot_int (pa_cons (pe_cmpR op_eq (pv 4) pe_int (nomark _)) pa_nil))) (pa_cons
          (pe_lc (own := [("digit", 4)]) rfl scplain_pair.nd (pi_list (pv 1)) (blkOk_by (N := nnplain_pair) (sc := defScope splain_pair) (by decide +kernel)) (fun _ _ _ _ _ => pg_name (i := 4) scplain_pair.nd rfl (.inl rfl)) (fun _ _ _ _ _ => pts_nil)
            (fun _ _ _ _ _ => pe_callTy call_int1 (by rfl) B.int boot_int (pa_cons (pe_cmpR op_gt (pv 4) pe_int (nomark _)) pa_nil))) pa_nil)) (by rfl))
      (pss_one (ps_ret (pe_tup (pa_cons (pe_d D3 hr1 (by rfl) (pa_cons (pv 2) (pa_cons pe_int pa_nil))) (pa_cons (pe_d D3 hr1 (by rfl) (pa_cons (pv 3) (pa_cons pe_int pa_nil))) pa_nil)))))))), ?_⟩
    refine ⟨_, rfl, n, rfl, ?_⟩
    refine ⟨_, rfl, n, rfl, hn, fun p H1 s1 n1 h1 => ?_⟩
    refine ⟨_, rfl, p, rfl, ⟨_, sqL_of h1⟩, fun D nD => ?_⟩
    refine lc_list (K := K) (a := p) (xs := vis (dg n).reverse) (fun i H2 => Same H1 H2 ∧ H2 D = some (.lst (vis (((dg n).reverse.take i).map fun d => if d = 1 then 1 else 0))))
      ⟨same_new nD, by rw [upd_same]; rfl⟩ (fun i H2 _ e => sqL_of (e.1 _ _ h1)) ?_ ?_
    · rintro i x H2 hi ⟨s2, h2⟩
      obtain ⟨d, hd, rfl⟩ := vis_at hi
      have ld : i < (dg n).length := by
        have := (List.getElem?_eq_some_iff.mp hd).1
        rwa [List.length_reverse] at this
      refine ⟨rfl, _, rfl, rfl, .inr ⟨_, rfl, _, h2, ?_, same_own s2 nD, ?_⟩⟩
      · rw [vis_len, List.length_map, List.length_take, List.length_reverse]
        exact Nat.lt_of_le_of_lt (Nat.min_le_right _ _) (small1000 (dg_len 1000 n hn))
      · rw [upd_same, List.take_add_one, hd, List.map_append]
        unfold vis
        rw [List.map_append]
        have e : decide (vi d = V.int 1) = decide (d = 1) := by
          by_cases z : d = 1
          · subst z
            rfl
          · rw [decide_eq_false z, decide_eq_false]
            intro y
            have y2 : (d : Int) = 1 := V.int.inj y
            omega
        rw [e]
        by_cases z : d = 1
        · subst z
          rfl
        · simp [z]
    · rintro H2 ⟨s2, h2⟩
      rw [vis_len, List.take_length] at h2
      refine ⟨_, rfl, p, rfl, ⟨_, sqL_of (s2 _ _ h1)⟩, fun D2 nD2 => ?_⟩
      have n12 : D ≠ D2 := ne_of_none h2 nD2
      refine lc_list (K := K) (a := p) (xs := vis (dg n).reverse) (fun i H3 => Same H2 H3 ∧ H3 D2 = some (.lst (vis (((dg n).reverse.take i).map fun d => if 0 < d then 1 else 0))))
        ⟨same_new nD2, by rw [upd_same]; rfl⟩ (fun i H3 _ e => sqL_of (e.1 _ _ (s2 _ _ h1))) ?_ ?_
      · rintro i x H3 hi ⟨s3, h3⟩
        obtain ⟨d, hd, rfl⟩ := vis_at hi
        have ld : i < (dg n).length := by
          have := (List.getElem?_eq_some_iff.mp hd).1
          rwa [List.length_reverse] at this
        refine ⟨rfl, _, rfl, _, _, rfl, rfl, .inr ⟨_, rfl, _, h3, ?_, same_own s3 nD2, ?_⟩⟩
        · rw [vis_len, List.length_map, List.length_take, List.length_reverse]
          exact Nat.lt_of_le_of_lt (Nat.min_le_right _ _) (small1000 (dg_len 1000 n hn))
        · rw [upd_same, List.take_add_one, hd, List.map_append]
          unfold vis
          rw [List.map_append]
          have e : decide ((0 : Int) < (d : Int)) = decide (0 < d) := by
            by_cases z : 0 < d
            · rw [decide_eq_true z, decide_eq_true]
              omega
            · rw [decide_eq_false z, decide_eq_false]
              omega
          rw [e]
          by_cases z : 0 < d
          · simp [z]
          · simp [z]
      · rintro H3 ⟨s3, h3⟩
        rw [vis_len, List.take_length] at h3
        rw [List.map_reverse] at h2 h3
        refine ⟨_, _, rfl, ?_⟩
        refine ⟨_, rfl, D, (dg n).map fun d => if d = 1 then 1 else 0, 3, rfl, sqL_of (s3 _ _ h2), by decide, ?_⟩
        refine ⟨_, rfl, D2, (dg n).map fun d => if 0 < d then 1 else 0, 3, rfl, sqL_of h3, by decide, ?_⟩
        refine ⟨by show 2 ≤ sizeLine; decide, fun t nt => ?_⟩
        refine q t _ (fun b x z => ?_) ?_ ?_
        · exact same_new nt b x (s3 b x (s2 b x (s1 b x z)))
        · exact s1.free (s2.free (s3.free nt))
        · rw [upd_same]
          rfl
end
end Tf
/-! ### cells.py: the functions -/
namespace Tf
open PySem PySem.Spec PyProof.Rows L2
/-- the class Cell as the top has left it -/
structure ClT (K : Fg) (mg : Str → Option Value) (C : Addr) : Prop where
  cl : Cls K C
  mgC : mg "Cell" = some (.ref C)
  rd : ClX.CRead K C (.type "type")
  mo : ∃ u, ClX.CVal K C (.type "type") "MAX_MODULUS" (.int 20000) u
  me : ∃ u, ClX.CVal K C (.type "type") "MAX_MEMBERS" (.int 256) u
  nT : NoAttr K C "table"
  nM : NoAttr K C "own_modulus"
  nA : NoAttr K C "own_members"
  nK : NoAttr K C "known"
  is_ : IsF K C
def spBetween : Sp := fun vs H Q _ => ∃ v lo hi : Int, vs = [.int v, .int lo, .int hi] ∧ lo ≤ v ∧ v ≤ hi ∧ Q (.bl true) H
/-- a modulus and the tuple of its members -/
def spRow : Sp := fun vs H Q _ => ∃ (row : Row) (a : Addr), vs = [vi row.1, .ref a] ∧ H a = some (.tup (vis row.2)) ∧ RowOk row ∧ ∀ H', Same H H' → Q .non H'
/-- the serving table in the heap -/
def TabRel (H : Hp) (kvs : List (Key × V)) (T : List (Nat × Srv)) : Prop :=
  Paired (fun (p : Key × V) (q : Nat × Srv) => p.1 = Sum.inl (q.1 : Int) ∧ ∃ t, p.2 = .ref t ∧ H t = some (.tup [vi q.2.1, vi q.2.2.1, vi q.2.2.2])) kvs T
theorem TabRel.same {H H' : Hp} (s : Same H H') {kvs : List (Key × V)} {T : List (Nat × Srv)} (h : TabRel H kvs T) : TabRel H' kvs T :=
  Paired.mapP h fun _ _ ⟨e, t, e2, ht⟩ => ⟨e, t, e2, s _ _ ht⟩
theorem key_ne {a b : Nat} (h : a ≠ b) : ¬ (Sum.inl (a : Int) : Key) = Sum.inl (b : Int) := fun e => by
  have := Sum.inl.inj e
  omega
theorem TabRel.look {H : Hp} : ∀ {kvs : List (Key × V)} {T : List (Nat × Srv)}, TabRel H kvs T → ∀ r : Nat,
    (T.lookup r = none ∧ valV kvs (Sum.inl (r : Int) : Key) = none) ∨
    ∃ c l m t, T.lookup r = some (c, l, m) ∧ valV kvs (Sum.inl (r : Int) : Key) = some (.ref t) ∧ H t = some (.tup [vi c, vi l, vi m])
  | _, _, .nil, r => .inl ⟨rfl, rfl⟩
  | (k, v) :: kvs, (q, c, l, m) :: T, .cons ⟨e, t, e2, ht⟩ rs, r => by
    have e : k = Sum.inl (q : Int) := e
    have e2 : v = .ref t := e2
    by_cases h : r = q
    · subst h
      refine .inr ⟨c, l, m, t, ?_, ?_, ht⟩
      · rw [List.lookup_cons, beq_self_eq_true]
      · rw [valV_pos e, e2]
    · have hb : (r == q) = false := beq_eq_false_iff_ne.mpr h
      rw [List.lookup_cons, hb, valV_neg (by rw [e]; exact fun z => key_ne (Ne.symm h) z)]
      exact TabRel.look rs r
theorem putT_look (r : Nat) (e : Srv) : ∀ T : List (Nat × Srv), (∀ q, q ≠ r → (putT r e T).lookup q = T.lookup q)
  | [] => fun q h => by
    show List.lookup q [(r, e)] = none
    rw [List.lookup_cons, beq_eq_false_iff_ne.mpr h]
    rfl
  | p :: T => fun q h => by
    unfold putT
    by_cases hp : p.1 = r
    · rw [if_pos hp, List.lookup_cons, List.lookup_cons, beq_eq_false_iff_ne.mpr h, beq_eq_false_iff_ne.mpr (by rw [hp]; exact h)]
    · rw [if_neg hp, List.lookup_cons, List.lookup_cons, putT_look r e T q h]
theorem putK_cons (p : Key × V) (kvs : List (Key × V)) (k : Key) (v : V) (hn : ∀ q ∈ kvs, p.1 = k → q.1 ≠ k) :
    putK (p :: kvs) k v = if p.1 = k then (k, v) :: kvs else p :: putK kvs k v := by
  by_cases h : p.1 = k
  · rw [if_pos h]
    unfold putK
    rw [if_pos (by rw [List.any_cons, decide_eq_true h, Bool.true_or]), List.map_cons, if_pos h, h]
    congr 1
    refine (List.map_congr_left fun q hq => ?_).trans (List.map_id _)
    exact if_neg (hn q hq h)
  · rw [if_neg h]
    unfold putK
    rw [List.any_cons, decide_eq_false h, Bool.false_or]
    by_cases ha : (kvs.any fun kv => decide (kv.1 = k)) = true
    · rw [if_pos ha, if_pos ha, List.map_cons, if_neg h]
    · rw [if_neg ha, if_neg ha]
      rfl
/-- the keys of a table differ -/
def TNd (T : List (Nat × Srv)) : Prop := (T.map (·.1)).Nodup
theorem putT_keys (r : Nat) (e : Srv) : ∀ T : List (Nat × Srv), ∀ q, q ∈ (putT r e T).map (·.1) → q = r ∨ q ∈ T.map (·.1)
  | [], q, h => by
    rcases List.mem_cons.mp h with h | h
    · exact .inl h
    · cases h
  | p :: T, q, h => by
    unfold putT at h
    by_cases hp : p.1 = r
    · rw [if_pos hp] at h
      rcases List.mem_cons.mp h with h | h
      · exact .inl h
      · exact .inr (List.mem_cons_of_mem _ h)
    · rw [if_neg hp] at h
      rcases List.mem_cons.mp h with h | h
      · exact .inr (h ▸ List.mem_cons_self ..)
      · rcases putT_keys r e T q h with h | h
        · exact .inl h
        · exact .inr (List.mem_cons_of_mem _ h)
theorem putT_nd (r : Nat) (e : Srv) : ∀ T : List (Nat × Srv), TNd T → TNd (putT r e T)
  | [], _ => by
    show ([r] : List Nat).Nodup
    simp
  | p :: T, h => by
    have h : (p.1 :: T.map (·.1)).Nodup := h
    obtain ⟨h1, h2⟩ := List.nodup_cons.mp h
    unfold putT
    by_cases hp : p.1 = r
    · rw [if_pos hp]
      show (r :: T.map (·.1)).Nodup
      rw [← hp]
      exact h
    · rw [if_neg hp]
      show (p.1 :: (putT r e T).map (·.1)).Nodup
      refine List.nodup_cons.mpr ⟨fun m => ?_, putT_nd r e T h2⟩
      rcases putT_keys r e T _ m with z | z
      · exact hp z
      · exact h1 z
theorem putT_len (r : Nat) (e : Srv) : ∀ T : List (Nat × Srv), (putT r e T).length ≤ T.length + 1
  | [] => Nat.le_refl _
  | p :: T => by
    unfold putT
    by_cases hp : p.1 = r
    · rw [if_pos hp]
      exact Nat.le_succ _
    · rw [if_neg hp]
      exact Nat.succ_le_succ (putT_len r e T)
theorem TabRel.keys {H : Hp} : ∀ {kvs : List (Key × V)} {T : List (Nat × Srv)}, TabRel H kvs T → ∀ q ∈ kvs, ∃ n : Nat, n ∈ T.map (·.1) ∧ q.1 = Sum.inl (n : Int)
  | _, _, .nil, q, hq => by cases hq
  | _ :: _, _ :: _, .cons ⟨e, _⟩ rs, q, hq => by
    rcases List.mem_cons.mp hq with rfl | hq
    · exact ⟨_, List.mem_cons_self .., e⟩
    · obtain ⟨n, hn, e2⟩ := TabRel.keys rs q hq
      exact ⟨n, List.mem_cons_of_mem _ hn, e2⟩
theorem TabRel.put {H : Hp} {t r : Nat} {e : Srv} (ht : H t = some (.tup [vi e.1, vi e.2.1, vi e.2.2])) : ∀ {kvs : List (Key × V)} {T : List (Nat × Srv)}, TabRel H kvs T → TNd T →
    TabRel H (putK kvs (Sum.inl (r : Int) : Key) (.ref t)) (putT r e T)
  | _, _, .nil, _ => .cons ⟨rfl, t, rfl, ht⟩ .nil
  | p :: kvs, q :: T, .cons ⟨e1, u, e2, hu⟩ rs, nd => by
    have nd : (q.1 :: T.map (·.1)).Nodup := nd
    obtain ⟨n1, n2⟩ := List.nodup_cons.mp nd
    have hn : ∀ z ∈ kvs, p.1 = (Sum.inl (r : Int) : Key) → z.1 ≠ Sum.inl (r : Int) := fun z hz ep ez => by
      obtain ⟨n, hn, en⟩ := TabRel.keys rs z hz
      rw [ez] at en
      have a1 : (r : Int) = n := Sum.inl.inj en
      rw [ep] at e1
      have a2 : (r : Int) = ((q.1 : Nat) : Int) := Sum.inl.inj e1
      have a3 : q.1 = n := by omega
      rw [a3] at n1
      exact n1 hn
    rw [putK_cons p kvs _ _ hn]
    unfold putT
    by_cases h : q.1 = r
    · rw [if_pos h, if_pos (by rw [e1, h])]
      exact .cons ⟨rfl, t, rfl, ht⟩ rs
    · rw [if_neg h, if_neg (by rw [e1]; exact key_ne h)]
      exact .cons ⟨e1, u, e2, hu⟩ (TabRel.put ht rs n2)
theorem TabRel.len {H : Hp} {kvs : List (Key × V)} {T : List (Nat × Srv)} (h : TabRel H kvs T) : kvs.length = T.length := Paired.length h
/-- a new dict at p with the table -/
def spTab : Sp := fun vs H Q _ => ∃ (row : Row) (a : Addr), vs = [vi row.1, .ref a] ∧ H a = some (.tup (vis row.2)) ∧ RowOk row ∧
  ∀ p kvs H', Same H H' → H p = none → H' p = some (.dK kvs) → TabRel H' kvs (tab row.1 (mx row.2) row.2) → Q (.ref p) H'
/-- no remainder is left -/
def spUns : Sp := fun vs H Q _ => ∃ (row : Row) (a d : Addr) (kvs : List (Key × V)), vs = [vi row.1, .ref a, .ref d] ∧ H a = some (.tup (vis row.2)) ∧ RowOk row ∧
  H d = some (.dK kvs) ∧ TabRel H kvs (tab row.1 (mx row.2) row.2) ∧ ∀ H', Same H H' → Q .non H'
section
variable {P : Program} {w : World} {K : Fg} {mg : Str → Option Value} {base : Heap} {f C : Addr} {fd : FuncData}
theorem ok_is_between (B : Bt mg) (F : Fn0 K "is_between" "is_between" sis_between f fd) : FnOk P w K mg base CX0 1 f fd ["value", "low", "high"] spBetween := by
  refine F.ok scis_between (fun vs H Q E h => ?_) (fun cdv A outer s H vs Q E hr h => ?_)
  · obtain ⟨v, lo, hi, rfl, _⟩ := h
    rfl
  · obtain ⟨v, lo, hi, rfl, h1, h2, q⟩ := h
    refine ⟨_, PSs.nox (pss_one (ps_ret (pe_and (pe_isi B (pv 0) (pe_tyInt B)) (pe_and (pe_not (pe_isi B (pv 0) (pe_tyBool B))) (pe_one (pe_chain op_le op_le (pv 1) (pv 0) (pv 2))))))), ?_⟩
    refine ⟨_, rfl, _, _, _, _, true, rfl, .ty "int", .base (.int _), kInt, true, rfl, iteT ?_⟩
    refine ⟨_, rfl, _, _, _, _, false, rfl, .ty "bool", .base (.int _), kBool, false, rfl, _, rfl, iteT ?_⟩
    refine ⟨_, rfl, _, rfl, _, _, rfl, rfl, _, rfl, ?_⟩
    rw [decide_eq_true h1]
    refine iteT ⟨_, rfl, _, _, rfl, rfl, ?_⟩
    show Q (V.bl (decide (v ≤ hi))) H
    rw [decide_eq_true h2]
    exact q
theorem ok_check_shape (B : Bt mg) (T : ClT K mg C) (F : Fn0 K "check_shape" "check_shape" scheck_shape f fd) (D1 : DOk P w K mg base 1 "is_between" ["value", "low", "high"] spBetween) :
    FnOk P w K mg base CX0 2 f fd ["modulus", "members"] spRow := by
  refine F.ok sccheck_shape (fun vs H Q E h => ?_) (fun cdv A outer s H vs Q E hr h => ?_)
  · obtain ⟨row, a, rfl, _⟩ := h
    rfl
  · obtain ⟨row, a, rfl, ha, ok, q⟩ := h
    have hr1 : Room 1 _ := hr.mono (by decide)
    obtain ⟨u1, mo⟩ := T.mo
    obtain ⟨u2, me⟩ := T.me
    refine ⟨_, PSs.nox (pss_cons (ps_if (pt_not (pt_val (pe_d D1 hr (by rfl) (pa_cons (pv 0) (pa_cons pe_int (pa_cons (ClX.pe_cval (pe_glob (v := .ref C) (by rfl) T.mgC rfl) (by rfl)) pa_nil)))))) (pss_one ps_never) pss_nil)
      (pss_cons (ps_if (PW.pt (pw_or (pt_not (pt_val (pe_callB call_isiT (by rfl) B.isi PyProof.Rows.boot_isinstance (pa_cons (pv 1) (pa_cons (pe_tup (pa_cons (pe_bltn (v := .ty "tuple") (by rfl) B.tuple boot_tuple rfl) (pa_cons (pe_bltn (v := .ty "list") (by rfl) B.list boot_list rfl) pa_nil))) pa_nil)))))
          (pw_or1 (pt_not (pt_chain op_le op_le pe_int (pe_callB call_len (by rfl) B.len boot_len (pa_cons (pv 1) pa_nil)) (ClX.pe_cval (pe_glob (v := .ref C) (by rfl) T.mgC rfl) (by rfl))))))) (pss_one ps_never) pss_nil)
      (pss_cons (ps_set (i := 2) sccheck_shape.nd rfl (.inl rfl) (pe_un un_neg pe_int))
      (pss_one (ps_for PassesOwn.never rfl (pi_enT (by rfl) B.enum (pa_cons (pv 1) pa_nil)) (pg_tup rfl (pgs_cons (pg_name (i := 3) sccheck_shape.nd rfl (.inl rfl)) (pgs_cons (pg_name (i := 4) sccheck_shape.nd rfl (.inl rfl)) pgs_nil)))
        (pss_cons (ps_if (pt_not (pt_val (pe_d D1 hr (by rfl) (pa_cons (pv 4) (pa_cons (pe_op op_add (pv 2) pe_int) (pa_cons (pe_op op_sub (pv 0) pe_int) pa_nil)))))) (pss_one ps_never) pss_nil)
        (pss_one (ps_set (i := 2) sccheck_shape.nd rfl (.inl rfl) (pv 4))))))))), ?_⟩
    have hp := ok.pos
    have ht := ok.ten
    have h4 := ok.four
    have h1 := ok.some_
    refine ⟨_, rfl, C, _, _, u1, rfl, T.rd, mo, _, _, _, rfl, by omega, by omega, true, rfl, iteF ?_⟩
    refine ⟨_, rfl, by show 2 ≤ sizeLine; decide, fun t nt => ?_⟩
    have hat : a ≠ t := ne_of_none ha nt
    refine ⟨_, t, _, _, _, true, rfl, upd_same, .cons (.ty "tuple") (.cons (.ty "list") .nil), .base (.tup (by rw [upd_ne hat]; exact ha)), ?_, true, rfl, iteF ?_⟩
    · exact kitAny_cons (b := true) (kit_ty (by decide +kernel)) (fun z => by cases z) fun _ => rfl
    refine ⟨_, rfl, _, (vis row.2).length, rfl, .inr ⟨_, sqT_of (by rw [upd_ne hat]; exact ha), rfl⟩, _, _, rfl, rfl, _, rfl, ?_⟩
    rw [vis_len, decide_eq_true (by omega)]
    refine iteT ⟨C, _, _, u2, rfl, T.rd, me, _, _, rfl, rfl, _, rfl, ?_⟩
    rw [decide_eq_true (by omega)]
    refine iteF ?_
    refine ⟨_, rfl, ?_⟩
    refine ⟨_, rfl, a, _, rfl, sqT_of (by rw [upd_ne hat]; exact ha), for_it walk_enT
      (fun i σ H3 => ∃ (b : Int) (y1 y2 : Option V), σ = [some (vi row.1), some (.ref a), some (.int b), y1, y2] ∧ (∀ n, row.2[i]? = some n → b < (n : Int)) ∧ Same H H3)
      ⟨-1, none, none, rfl, fun n _ => by omega, same_new nt⟩ (fun i σ H3 _ ⟨_, _, _, _, _, e⟩ => sqT_of (e _ _ ha)) ?_ ?_⟩
    · rintro i x σ H3 H4 hi ⟨b, y1, y2, rfl, hb, s3⟩ ⟨T0, x1, x2, rfl, n0, rfl, e1, e2⟩
      obtain ⟨n, hn, rfl⟩ := vis_at e2
      obtain rfl := Option.some.inj e1
      refine ⟨T0, _, rfl, sqT_of upd_same, rfl, _, _, rfl, _, _, rfl, rfl, ?_⟩
      have hlt := ok.lt n (List.mem_of_getElem? hn)
      have hbn := hb n hn
      refine ⟨_, rfl, _, rfl, _, _, rfl, rfl, _, rfl, _, _, rfl, rfl, _, _, _, rfl, by omega, by omega, true, rfl, iteF ?_⟩
      refine ⟨_, rfl, ?_⟩
      refine ⟨n, _, _, rfl, fun m hm => ?_, fun b x z => same_new n0 b x (s3 b x z)⟩
      have hup := List.pairwise_iff_getElem.mp ok.up
      obtain ⟨l1, g1⟩ := List.getElem?_eq_some_iff.mp hn
      obtain ⟨l2, g2⟩ := List.getElem?_eq_some_iff.mp hm
      have := hup i (i + 1) l1 l2 (by omega)
      rw [g1, g2] at this
      omega
    · rintro σ H3 ⟨b, y1, y2, rfl, _, s3⟩
      exact q H3 s3
theorem hu1 {k : Nat} {A : Around} (h : Room k A) : A.units + 1 < cLine := by
  have := h.units
  omega
/-- the dict of the known members -/
def KnRel (kvs : List (Key × V)) (A : List Nat) : Prop := ∀ z : Int, (valV kvs (Sum.inl z : Key)).isSome = true ↔ ∃ n ∈ A, (n : Int) = z
theorem KnRel.nil : KnRel [] [] := fun z => by
  constructor
  · intro h
    cases h
  · rintro ⟨n, hn, _⟩
    cases hn
theorem KnRel.put {kvs : List (Key × V)} {A : List Nat} {v : V} {n : Nat} (h : KnRel kvs A) : KnRel (putK kvs (Sum.inl (n : Int) : Key) v) (A ++ [n]) := fun z => by
  rw [valV_put]
  by_cases e : (Sum.inl z : Key) = Sum.inl (n : Int)
  · rw [if_pos e]
    exact ⟨fun _ => ⟨n, List.mem_append.mpr (.inr (List.mem_singleton.mpr rfl)), (Sum.inl.inj e).symm⟩, fun _ => rfl⟩
  · rw [if_neg e, h z]
    constructor
    · rintro ⟨m, hm, em⟩
      exact ⟨m, List.mem_append.mpr (.inl hm), em⟩
    · rintro ⟨m, hm, em⟩
      rcases List.mem_append.mp hm with hm | hm
      · exact ⟨m, hm, em⟩
      · rw [List.mem_singleton.mp hm] at em
        exact absurd (by rw [em]) e
theorem KnRel.has {kvs : List (Key × V)} {A : List Nat} (h : KnRel kvs A) (z : Nat) : (valV kvs (Sum.inl (z : Int) : Key)).isSome = A.contains z := by
  rw [Bool.eq_iff_iff, h z, List.contains_iff_mem]
  constructor
  · rintro ⟨n, hn, e⟩
    have e2 : n = z := by omega
    exact e2 ▸ hn
  · intro hz
    exact ⟨z, hz, rfl⟩
theorem dc_known {i j : Nat} {a : Addr} {A : List Nat} {σ : L2.St} {H : Hp} {Q : VK} (hj : σ[j]? = some (some (.ref a))) (hi : i < σ.length) (ha : H a = some (.tup (vis A))) (hl : A.length ≤ 1000)
    (q : ∀ D kvs H', Same H H' → H D = none → H' D = some (.dK kvs) → KnRel kvs A → Q (.ref D) H') :
    tDc (iTup K (tVar j)) (gName i) tYes (tVar i) (tC (.bl true)) [i] σ H Q := by
  refine ⟨_, hj, a, rfl, ⟨_, sqT_of ha⟩, fun D nD => ?_⟩
  refine dc_tup (K := K) (a := a) (xs := vis A) (fun i H2 => Same H H2 ∧ ∃ kvs, H2 D = some (.dK kvs) ∧ kvs.length ≤ i ∧ KnRel kvs (A.take i))
    ⟨same_new nD, [], upd_same, Nat.le_refl _, KnRel.nil⟩ (fun i H2 _ e => sqT_of (e.1 _ _ ha)) ?_ ?_
  · rintro t x H2 ht ⟨s2, kvs, h2, l2, k2⟩
    obtain ⟨n, hn, rfl⟩ := vis_at ht
    have lt : t < A.length := (List.getElem?_eq_some_iff.mp hn).1
    refine ⟨?_, vi n, ?_, kvs, .inl (n : Int), rfl, h2, small1000 (by omega), same_own s2 nD, _, upd_same, ?_, ?_⟩
    · show (((σ.set i none).set i (some (vi n))).set i none : L2.St) = σ.set i none
      rw [List.set_set, List.set_set]
    · show ((σ.set i none).set i (some (vi n)))[i]? = _
      rw [List.set_set, List.getElem?_set_self hi]
    · exact Nat.le_trans (DSub.putK_len ..) (Nat.succ_le_succ l2)
    · rw [List.take_add_one, hn]
      exact k2.put
  · rintro H2 ⟨s2, kvs, h2, l2, k2⟩
    rw [vis_len, List.take_length] at k2
    exact q D kvs H2 s2 nD h2 k2
theorem seq_known {i j k : Nat} {a : Addr} {A : List Nat} {σ : L2.St} {H : Hp} {D : Ends} {tb : TS} (ha : H a = some (.tup (vis A))) (hj : σ[j]? = some (some (.ref a))) (hi : i < σ.length) (hl : A.length ≤ 1000)
    (q : ∀ d kvs H', Same H H' → H d = none → H' d = some (.dK kvs) → KnRel kvs A → tb D (σ.set k (some (.ref d))) H') :
    tSeq (tAsg (tDc (iTup K (tVar j)) (gName i) tYes (tVar i) (tC (.bl true)) [i]) (gName k)) tb D σ H :=
  dc_known (K := K) (Q := fun x H1 => tb D (σ.set k (some x)) H1) hj hi ha hl q
theorem ok_spoiling (B : Bt mg) (F : Fn0 K "spoiling_triple" "spoiling_triple" sspoiling_triple f fd) : FnOk P w K mg base CX0 1 f fd ["modulus", "members"] spRow := by
  refine F.ok scspoiling_triple (fun vs H Q E h => ?_) (fun cdv A outer s H vs Q E hr h => ?_)
  · obtain ⟨row, a, rfl, _⟩ := h
    rfl
  · obtain ⟨row, a, rfl, ha, ok, q⟩ := h
    refine ⟨_, PSs.nox (pss_cons (ps_setDc (i := 2) (own := [("member", 6)]) rfl scspoiling_triple.nd rfl rfl (swD_true rfl rfl rfl rfl) (pi_tup (pv 1)) (blkOk_by (N := nnspoiling_triple) (sc := defScope sspoiling_triple) (by decide +kernel))
        (fun _ _ _ _ _ => pg_name (i := 6) scspoiling_triple.nd rfl (.inl rfl)) (fun _ _ _ _ _ => pts_nil) (fun _ _ _ _ _ => pv 6) (fun _ _ _ _ _ => pe_bl))
      (pss_cons (ps_for PassesOwn.never rfl (pi_tup (pv 1)) (pg_name (i := 3) scspoiling_triple.nd rfl (.inl rfl))
        (pss_one (ps_for PassesOwn.never rfl (pi_tup (pv 1)) (pg_name (i := 4) scspoiling_triple.nd rfl (.inl rfl))
          (pss_cons (ps_set (i := 5) scspoiling_triple.nd rfl (.inl rfl) (pe_op op_mod (pe_op op_sub (pe_op op_mul pe_int (pv 4)) (pv 3)) (pv 0)))
          (pss_one (ps_if (PW.pt (pw_and (pt_cmp (pc_neI (pv 3) (pv 4))) (pw_and1 (pt_cmp (pc_din (hu1 hr) (pv 5) (pv 2)))))) (pss_one ps_never) pss_nil))))))
      (pss_one (ps_ret pe_non)))), ?_⟩
    refine seq_known (K := K) ha rfl (Nat.lt_succ_self 6) (Nat.le_trans ok.four (by decide)) fun D kvs H1 s1 nD h1 kn => ?_
    have ha1 := s1 _ _ ha
    refine ⟨_, rfl, a, rfl, ⟨_, sqT_of ha1⟩, for_tup (K := K) (a := a) (xs := vis row.2)
      (fun i σ H3 => ∃ y3 y4 y5 : Option V, σ = [some (vi row.1), some (.ref a), some (.ref D), y3, y4, y5, none] ∧ H3 = H1) ⟨none, none, none, rfl, rfl⟩ (fun i σ H3 _ ⟨_, _, _, _, e⟩ => by rw [e]; exact sqT_of ha1) ?_ ?_⟩
    · rintro i x σ H3 hi ⟨y3, y4, y5, rfl, rfl⟩
      obtain ⟨l, hl, rfl⟩ := vis_at hi
      refine ⟨_, rfl, a, rfl, ⟨_, sqT_of ha1⟩, for_tup (K := K) (a := a) (xs := vis row.2)
        (fun i σ H4 => ∃ y4 y5 : Option V, σ = [some (vi row.1), some (.ref a), some (.ref D), some (vi l), y4, y5, none] ∧ H4 = H3) ⟨_, _, rfl, rfl⟩ (fun i σ H3 _ ⟨_, _, _, e⟩ => by rw [e]; exact sqT_of ha1) ?_ ?_⟩
      · rintro j x σ H4 hj ⟨y4, y5, rfl, rfl⟩
        obtain ⟨m, hm, rfl⟩ := vis_at hj
        refine ⟨_, rfl, _, _, rfl, rfl, .inl (by decide), _, rfl, _, _, rfl, rfl, _, rfl, _, _, rfl, rfl, Int.natCast_pos.mpr ok.pos, ?_⟩
        refine ⟨_, rfl, _, rfl, _, _, rfl, rfl, _, rfl, ?_⟩
        refine ite2 (fun hne => ?_) (fun he => ⟨_, _, rfl, rfl⟩)
        have hne2 : l ≠ m := by
          intro z
          subst z
          have hne : (!decide ((l : Int) = (l : Int))) = true := hne
          rw [decide_eq_true rfl] at hne
          cases hne
        refine ⟨_, rfl, _, rfl, D, _, rfl, .k (k := .inl ((2 * (m : Int) - (l : Int)) % (row.1 : Int))) h1, _, rfl, ?_⟩
        refine ite2 (fun hin => ?_) (fun _ => ⟨_, _, rfl, rfl⟩)
        obtain ⟨x, hx, ex⟩ := (kn _).mp hin
        exact absurd ex (ok.free l (List.mem_of_getElem? hl) m (List.mem_of_getElem? hm) hne2 x hx)
      · rintro σ H4 ⟨y4, y5, rfl, rfl⟩
        exact ⟨_, _, _, rfl, rfl⟩
    · rintro σ H3 ⟨y3, y4, y5, rfl, rfl⟩
      exact q H3 s1
/-- one turn of the table, in the program's own numbers -/
theorem int_step {N low m : Nat} (h : low ≤ m) : (2 * (m : Int) - (low : Int)) / (N : Int) = (((2 * m - low) / N : Nat) : Int) ∧ (2 * (m : Int) - (low : Int)) % (N : Int) = (((2 * m - low) % N : Nat) : Int) := by
  have e : (2 * (m : Int) - (low : Int)) = ((2 * m - low : Nat) : Int) := by omega
  rw [e]
  exact ⟨rfl, rfl⟩
theorem tabStep_nd {N most low m : Nat} {T : List (Nat × Srv)} (h : TNd T) : TNd (tabStep N most low T m) := by
  unfold tabStep
  split
  · split
    · exact putT_nd _ _ _ h
    · split
      · exact putT_nd _ _ _ h
      · exact h
  · exact h
theorem tabStep_len {N most low m : Nat} {T : List (Nat × Srv)} : (tabStep N most low T m).length ≤ T.length + 1 := by
  unfold tabStep
  split
  · split
    · exact putT_len _ _ _
    · split
      · exact putT_len _ _ _
      · exact Nat.le_succ _
  · exact Nat.le_succ _
theorem foldl_max : ∀ (l : List Nat) (n : Nat), (l.map fun x : Nat => (x : Int)).foldl max (n : Int) = ((l.foldl Nat.max n : Nat) : Int)
  | [], n => rfl
  | x :: l, n => by
    show (l.map fun x : Nat => (x : Int)).foldl max (max (n : Int) (x : Int)) = ((l.foldl Nat.max (Nat.max n x) : Nat) : Int)
    rw [← foldl_max l (Nat.max n x)]
    congr 1
    show max (n : Int) (x : Int) = ((max n x : Nat) : Int)
    omega
theorem tOr_bb {ta tb : TT} {σ : L2.St} {H : Hp} {Q : Bool → Hp → Prop} {b1 b2 : Bool} (ha : ∀ R : Bool → Hp → Prop, R b1 H → ta σ H R) (hb : b1 = false → ∀ R : Bool → Hp → Prop, R b2 H → tb σ H R)
    (hq : Q (b1 || b2) H) : tOr ta tb σ H Q := by
  refine ha _ ?_
  cases b1 with
  | true => exact iteT hq
  | false => exact iteF (hb rfl _ hq)
structure TI (H : Hp) (D : Addr) (H3 : Hp) (kvs : List (Key × V)) (T : List (Nat × Srv)) (n : Nat) : Prop where
  sm : Same H H3
  at_ : H3 D = some (.dK kvs)
  rel : TabRel H3 kvs T
  nd : TNd T
  len : T.length ≤ n
theorem TabRel.own {H : Hp} {D : Addr} {o : HO} {k0 : List (Key × V)} (h : H D = some (.dK k0)) {kvs : List (Key × V)} {T : List (Nat × Srv)} (r : TabRel H kvs T) : TabRel (upd H D o) kvs T :=
  Paired.mapP r fun _ _ ⟨e, t, e2, ht⟩ => ⟨e, t, e2, by
    have : t ≠ D := fun z => by
      subst z
      rw [h] at ht
      cases ht
    rw [upd_ne this]
    exact ht⟩
theorem foldl_take {α β : Type} (f : β → α → β) (b : β) (l : List α) {i : Nat} {x : α} (h : l[i]? = some x) : (l.take (i + 1)).foldl f b = f ((l.take i).foldl f b) x := by
  rw [List.take_add_one, h, List.foldl_append]
  rfl
theorem ok_serving_table (B : Bt mg) (F : Fn0 K "serving_table" "serving_table" sserving_table f fd) : FnOk P w K mg base CX0 1 f fd ["modulus", "members"] spTab := by
  refine F.ok scserving_table (fun vs H Q E h => ?_) (fun cdv A outer s H vs Q E hr h => ?_)
  · obtain ⟨row, a, rfl, _⟩ := h
    rfl
  · obtain ⟨row, a, rfl, ha, ok, q⟩ := h
    refine ⟨_, PSs.nox (pss_cons (ps_par (i := 2) (j := 3) rfl scserving_table.nd rfl rfl (by decide) rfl rfl (pa_cons pe_dnewK (pa_cons (pe_callB (call_maxT rfl (hu1 hr)) (by rfl) B.max boot_max (pa_cons (pv 1) pa_nil)) pa_nil)) (by rfl))
      (pss_cons (ps_for PassesOwn.never rfl (pi_tup (pv 1)) (pg_name (i := 4) scserving_table.nd rfl (.inl rfl))
        (pss_one (ps_for PassesOwn.never rfl (pi_tup (pv 1)) (pg_name (i := 5) scserving_table.nd rfl (.inl rfl))
          (pss_cons (ps_par (i := 6) (j := 7) rfl scserving_table.nd rfl rfl (by decide) rfl rfl (pa_cons (pe_op op_fdiv (pe_op op_sub (pe_op op_mul pe_int (pv 5)) (pv 4)) (pv 0))
              (pa_cons (pe_op op_mod (pe_op op_sub (pe_op op_mul pe_int (pv 5)) (pv 4)) (pv 0)) pa_nil)) (by rfl))
          (pss_one (ps_if (PW.pt (pw_and (pt_cmp (pc_lt (pv 4) (pv 5))) (pw_and1 (PW.pt (pw_or (pt_cmp (pc_eqI (pv 6) pe_int)) (pw_or1 (pt_cmp (pc_lt (pv 7) (pv 3)))))))))
            (pss_one (ps_if (PW.pt (pw_or (pt_cmp (pc_dnotin (hu1 hr) (pv 7) (pv 2))) (pw_or1 (pt_cmp (pc_lt (pv 6) (pe_ix ix_tup (pe_dget (hu1 hr) (pv 2) (pv 7) (by intro _ _; rfl)) pe_int (by intro _ _; rfl)))))))
              (pss_one (ps_dput (hu1 hr) (pv 2) (pv 7) (pe_tup (pa_cons (pv 6) (pa_cons (pv 4) (pa_cons (pv 5) pa_nil)))) rfl)) pss_nil)) pss_nil))))))
      (pss_one (ps_ret (pv 2))))), ?_⟩
    refine fun D nD => ⟨_, rfl, ?_⟩
    have hmx : ∃ n ns, vis row.2 = (n :: ns).map V.int ∧ ns.foldl max n = ((mx row.2 : Nat) : Int) := by
      have h1 := ok.some_
      unfold mx
      cases e : row.2 with
      | nil =>
        rw [e] at h1
        cases h1
      | cons l0 r =>
        refine ⟨(l0 : Int), r.map fun x : Nat => (x : Int), ?_, ?_⟩
        · show vi l0 :: r.map vi = V.int l0 :: (r.map fun x : Nat => (x : Int)).map V.int
          rw [List.map_map]
          rfl
        · rw [foldl_max]
          show _ = ((r.foldl Nat.max (Nat.max 0 l0) : Nat) : Int)
          rw [show Nat.max 0 l0 = l0 from Nat.zero_max _]
    obtain ⟨n0, ns, e1, e2⟩ := hmx
    have ha1 : upd H D (.dK []) a = some (.tup (vis row.2)) := same_new nD _ _ ha
    refine ⟨a, n0, ns, rfl, sqT_of (by rw [ha1, e1]), _, _, rfl, ?_⟩
    rw [e2]
    have h4 := ok.four
    refine ⟨_, rfl, a, rfl, ⟨_, sqT_of ha1⟩, for_tup (K := K) (a := a) (xs := vis row.2)
      (fun i σ H3 => ∃ (y4 y5 y6 y7 : Option V) (kvs : List (Key × V)), σ = [some (vi row.1), some (.ref a), some (.ref D), some (vi (mx row.2)), y4, y5, y6, y7] ∧
        TI H D H3 kvs ((row.2.take i).foldl (tabRow row.1 (mx row.2) row.2) []) (4 * i))
      ⟨none, none, none, none, [], rfl, same_new nD, upd_same, .nil, List.nodup_nil, Nat.zero_le _⟩ (fun i σ H3 _ ⟨_, _, _, _, _, _, e⟩ => sqT_of (e.sm _ _ ha)) ?_ ?_⟩
    · rintro i x σ H3 hi ⟨y4, y5, y6, y7, kvs, rfl, ti⟩
      obtain ⟨l, hl, rfl⟩ := vis_at hi
      rw [foldl_take _ _ _ hl]
      generalize (row.2.take i).foldl (tabRow row.1 (mx row.2) row.2) [] = T0 at ti ⊢
      have li : i < row.2.length := (List.getElem?_eq_some_iff.mp hl).1
      refine ⟨_, rfl, a, rfl, ⟨_, sqT_of (ti.sm _ _ ha)⟩, for_tup (K := K) (a := a) (xs := vis row.2)
        (fun j σ H4 => ∃ (y5 y6 y7 : Option V) (kvs : List (Key × V)), σ = [some (vi row.1), some (.ref a), some (.ref D), some (vi (mx row.2)), some (vi l), y5, y6, y7] ∧
          TI H D H4 kvs ((row.2.take j).foldl (tabStep row.1 (mx row.2) l) T0) (4 * i + j))
        ⟨_, _, _, kvs, rfl, ti⟩ (fun i σ H3 _ ⟨_, _, _, _, _, e⟩ => sqT_of (e.sm _ _ ha)) ?_ ?_⟩
      · rintro j x σ H4 hj ⟨y5, y6, y7, kvs, rfl, tj⟩
        obtain ⟨m, hm, rfl⟩ := vis_at hj
        rw [foldl_take _ _ _ hm]
        generalize (row.2.take j).foldl (tabStep row.1 (mx row.2) l) T0 = T1 at tj ⊢
        have lj : j < row.2.length := (List.getElem?_eq_some_iff.mp hm).1
        have hN : (0 : Int) < (row.1 : Int) := Int.natCast_pos.mpr ok.pos
        have h10 := ok.ten
        have hN2 : CDiv (2 * (m : Int) - (l : Int)) (row.1 : Int) := ⟨hN, by omega⟩
        refine ⟨_, rfl, _, _, rfl, rfl, .inl (by decide), _, rfl, _, _, rfl, rfl, _, rfl, _, _, rfl, rfl, hN2, ?_⟩
        refine ⟨_, rfl, _, _, rfl, rfl, .inl (by decide), _, rfl, _, _, rfl, rfl, _, rfl, _, _, rfl, rfl, hN, ?_⟩
        by_cases hlm : l < m
        · obtain ⟨ec, er⟩ := int_step (N := row.1) (Nat.le_of_lt hlm)
          refine ⟨vi ((2 * m - l) / row.1), vi ((2 * m - l) % row.1), ?_, ?_⟩
          · show [V.int ((2 * (m : Int) - (l : Int)) / (row.1 : Int)), V.int ((2 * (m : Int) - (l : Int)) % (row.1 : Int))] = _
            rw [ec, er]
          have hu : tabStep row.1 (mx row.2) l T1 m = if (2 * m - l) / row.1 = 0 ∨ (2 * m - l) % row.1 < mx row.2 then
              match T1.lookup ((2 * m - l) % row.1) with
              | none => putT ((2 * m - l) % row.1) ((2 * m - l) / row.1, l, m) T1
              | some e => if (2 * m - l) / row.1 < e.1 then putT ((2 * m - l) % row.1) ((2 * m - l) / row.1, l, m) T1 else T1
            else T1 := by
            unfold tabStep
            by_cases z : (2 * m - l) / row.1 = 0 ∨ (2 * m - l) % row.1 < mx row.2
            · rw [if_pos ⟨hlm, z⟩, if_pos z] <;> rfl
            · rw [if_neg (fun y => z y.2), if_neg z]
          generalize (2 * m - l) / row.1 = c at hu ⊢
          generalize (2 * m - l) % row.1 = r at hu ⊢
          generalize tabStep row.1 (mx row.2) l T1 m = T2 at hu ⊢
          have stay : T2 = T1 → ∃ (y5 y6 y7 : Option V) (kvs : List (Key × V)),
              [some (vi row.1), some (V.ref a), some (.ref D), some (vi (mx row.2)), some (vi l), some (vi m), some (vi c), some (vi r)] =
                [some (vi row.1), some (.ref a), some (.ref D), some (vi (mx row.2)), some (vi l), y5, y6, y7] ∧ TI H D H4 kvs T2 (4 * i + (j + 1)) := fun e =>
            ⟨_, _, _, kvs, rfl, tj.sm, tj.at_, by rw [e]; exact tj.rel, by rw [e]; exact tj.nd, by rw [e]; exact Nat.le_succ_of_le tj.len⟩
          refine ⟨_, rfl, _, rfl, _, _, rfl, rfl, _, rfl, ?_⟩
          refine ite2 (fun _ => ?_) (fun z => absurd (decide_eq_true (Int.ofNat_lt.mpr hlm)) z)
          refine tOr_bb (b1 := decide ((c : Int) = 0)) (b2 := decide ((r : Int) < (mx row.2 : Nat))) (fun R h => ⟨_, rfl, _, _, rfl, rfl, _, rfl, h⟩) (fun _ R h => ⟨_, rfl, _, rfl, _, _, rfl, rfl, _, rfl, h⟩) ?_
          refine ite2 (fun hor => ?_) (fun hor => ?_)
          · have hor2 : c = 0 ∨ r < mx row.2 := by
              rcases Bool.or_eq_true_iff.mp hor with z | z
              · have := of_decide_eq_true z
                exact .inl (by omega)
              · have := of_decide_eq_true z
                exact .inr (by omega)
            rw [if_pos hor2] at hu
            have dg : DGet H4 D (vi r) (valV kvs (Sum.inl (r : Int) : Key)) := .k (k := .inl (r : Int)) tj.at_
            have hlook := tj.rel.look r
            refine tOr_bb (b1 := !(valV kvs (Sum.inl (r : Int) : Key)).isSome) (b2 := match T1.lookup r with
              | none => false
              | some e => decide ((c : Int) < (e.1 : Nat))) (fun R h => ⟨_, rfl, _, rfl, D, _, rfl, dg, _, rfl, h⟩) (fun hb R h => ?_) ?_
            · rcases hlook with ⟨k1, k2⟩ | ⟨c', l', m', t, k1, k2, k3⟩
              · rw [k2] at hb
                cases hb
              · rw [k1] at h
                rw [k2] at dg
                exact ⟨_, rfl, _, rfl, _, rfl, D, .ref t, rfl, dg, t, _, 0, vi c', rfl, rfl, sqT_of k3, rfl, _, _, rfl, rfl, _, rfl, h⟩
            · refine ite2 (fun hp => ?_) (fun hp => ?_)
              · have hT : T2 = putT r (c, l, m) T1 := by
                  rcases hlook with ⟨k1, k2⟩ | ⟨c', l', m', t, k1, k2, k3⟩
                  · rw [hu, k1]
                  · rw [k1, k2] at hp
                    have hp : decide ((c : Int) < (c' : Nat)) = true := hp
                    have z := of_decide_eq_true hp
                    rw [hu, k1]
                    exact if_pos (by show c < c'; omega)
                have l1000 : kvs.length < sizeLine := by
                  rw [tj.rel.len]
                  have z := tj.len
                  exact small1000 (by omega)
                refine ⟨_, rfl, _, rfl, _, rfl, by show 3 ≤ sizeLine; decide, fun t nt => ⟨_, rfl, _, rfl, D, _, rfl, DPut.k (k := .inl (r : Int)) (kvs := kvs) ?_ l1000, ?_⟩⟩
                · exact same_new nt _ _ tj.at_
                · have atD : upd H4 t (.tup [vi c, vi l, vi m]) D = some (.dK kvs) := same_new nt _ _ tj.at_
                  refine ⟨_, _, _, _, rfl, same_own (fun b x z => same_new nt _ _ (tj.sm _ _ z)) nD, upd_same, ?_, ?_, ?_⟩
                  · rw [hT]
                    exact ((tj.rel.same (same_new nt)).own atD (o := .dK (putK kvs (.inl (r : Int)) (.ref t)))).put (e := (c, l, m)) (by
                      have : t ≠ D := fun z => by
                        subst z
                        exact absurd tj.at_ (by rw [nt]; exact fun y => by cases y)
                      rw [upd_ne this]
                      exact upd_same) tj.nd
                  · rw [hT]
                    exact putT_nd _ _ _ tj.nd
                  · rw [hT]
                    exact Nat.le_trans (putT_len _ _ _) (Nat.succ_le_succ tj.len)
              · have hT : T2 = T1 := by
                  rcases hlook with ⟨k1, k2⟩ | ⟨c', l', m', t, k1, k2, k3⟩
                  · rw [k2] at hp
                    exact absurd rfl hp
                  · rw [k1, k2] at hp
                    rw [hu, k1]
                    refine if_neg fun z => hp ?_
                    have z : c < c' := z
                    show decide ((c : Int) < (c' : Nat)) = true
                    exact decide_eq_true (by omega)
                exact stay hT
          · have hor2 : ¬ (c = 0 ∨ r < mx row.2) := fun z => hor (Bool.or_eq_true_iff.mpr (by
              rcases z with z | z
              · exact .inl (decide_eq_true (by omega))
              · exact .inr (decide_eq_true (by omega))))
            rw [if_neg hor2] at hu
            exact stay hu
        · refine ⟨_, _, rfl, ?_⟩
          refine ⟨_, rfl, _, rfl, _, _, rfl, rfl, _, rfl, ?_⟩
          refine ite2 (fun hlt => ?_) (fun hlt => ?_)
          · exact absurd (Int.ofNat_lt.mp (of_decide_eq_true hlt)) hlm
          · have e : tabStep row.1 (mx row.2) l T1 m = T1 := by
              unfold tabStep
              rw [if_neg]
              rintro ⟨z, _⟩
              exact hlm z
            rw [e]
            exact ⟨_, _, _, kvs, rfl, tj.sm, tj.at_, tj.rel, tj.nd, Nat.le_succ_of_le tj.len⟩
      · rintro σ H4 ⟨y5, y6, y7, kvs, rfl, tj⟩
        rw [vis_len, List.take_length] at tj
        exact ⟨_, _, _, _, kvs, rfl, tj.sm, tj.at_, tj.rel, tj.nd, Nat.le_trans tj.len (by omega)⟩
    · rintro σ H3 ⟨y4, y5, y6, y7, kvs, rfl, ti⟩
      rw [vis_len, List.take_length] at ti
      exact ⟨_, rfl, q D kvs H3 ti.sm nD ti.at_ ti.rel⟩
theorem ok_unserved (B : Bt mg) (F : Fn0 K "unserved_remainder" "unserved_remainder" sunserved_remainder f fd) : FnOk P w K mg base CX0 1 f fd ["modulus", "members", "table"] spUns := by
  refine F.ok scunserved_remainder (fun vs H Q E h => ?_) (fun cdv A outer s H vs Q E hr h => ?_)
  · obtain ⟨row, a, d, kvs, rfl, _⟩ := h
    rfl
  · obtain ⟨row, a, d, kvs, rfl, ha, ok, hd, rel, q⟩ := h
    refine ⟨_, PSs.nox (pss_cons (ps_setDc (i := 3) (own := [("member", 5)]) rfl scunserved_remainder.nd rfl rfl (swD_true rfl rfl rfl rfl) (pi_tup (pv 1)) (blkOk_by (N := nnunserved_remainder) (sc := defScope sunserved_remainder) (by decide +kernel))
        (fun _ _ _ _ _ => pg_name (i := 5) scunserved_remainder.nd rfl (.inl rfl)) (fun _ _ _ _ _ => pts_nil) (fun _ _ _ _ _ => pv 5) (fun _ _ _ _ _ => pe_bl))
      (pss_cons (ps_for PassesOwn.never rfl (pi_range1 (by rfl) B.range (pa_cons (pv 0) pa_nil)) (pg_name (i := 4) scunserved_remainder.nd rfl (.inl rfl))
        (pss_one (ps_if (PW.pt (pw_and (pt_cmp (pc_dnotin (hu1 hr) (pv 4) (pv 3))) (pw_and1 (pt_cmp (pc_dnotin (hu1 hr) (pv 4) (pv 2)))))) (pss_one ps_never) pss_nil)))
      (pss_one (ps_ret pe_non)))), ?_⟩
    refine seq_known (K := K) ha rfl (Nat.lt_succ_self 5) (Nat.le_trans ok.four (by decide)) fun D kn H1 s1 nD h1 kr => ?_
    have h10 := ok.ten
    refine ⟨_, rfl, _, rfl, by omega, by omega, for_range (fun i σ H3 => ∃ y : Option V, σ = [some (vi row.1), some (.ref a), some (.ref d), some (.ref D), y, none] ∧ H3 = H1) ⟨none, rfl, rfl⟩ ?_ ?_⟩
    · rintro i σ H3 hi ⟨y, rfl, rfl⟩
      have hi : i < row.1 := by
        have hi : i < ((row.1 : Nat) : Int).toNat := hi
        rwa [Int.toNat_natCast] at hi
      have e0 : (0 : Int) + (i : Int) = (i : Int) := Int.zero_add _
      rw [e0]
      have d1 : DGet H3 D (vi i) (valV kn (Sum.inl (i : Int) : Key)) := .k (k := .inl (i : Int)) h1
      have d2 : DGet H3 d (vi i) (valV kvs (Sum.inl (i : Int) : Key)) := .k (k := .inl (i : Int)) (s1 _ _ hd)
      refine ⟨_, rfl, _, rfl, D, _, rfl, d1, _, rfl, ?_⟩
      refine ite2 (fun hin => ?_) (fun _ => ⟨_, rfl, rfl⟩)
      rw [kr.has i, Bool.not_eq_true'] at hin
      have hno : i ∉ row.2 := fun z => by
        rw [List.contains_iff_mem.mpr z] at hin
        cases hin
      obtain ⟨c, l, m, k0, _⟩ := ok.serve i hi hno
      rcases rel.look i with ⟨k1, k2⟩ | ⟨c', l', m', t, k1, k2, k3⟩
      · rw [k0] at k1
        cases k1
      · rw [k2] at d2
        exact ⟨_, rfl, _, rfl, d, _, rfl, d2, _, rfl, iteF ⟨_, rfl, rfl⟩⟩
    · rintro σ H3 ⟨y, rfl, rfl⟩
      exact q H3 s1
end
end Tf
/-! ### the class Cell -/
namespace Tf
open PySem PySem.Spec PyProof.Rows L2
/-- but for one place, what stood stands -/
def SameX (d : Addr) (H H' : Hp) : Prop := ∀ b x, b ≠ d → H b = some x → H' b = some x
theorem Same.x {H H' : Hp} (s : Same H H') (d : Addr) : SameX d H H' := fun b x _ e => s b x e
theorem sameX_upd {H : Hp} {d : Addr} {o : HO} : SameX d H (upd H d o) := fun b x n e => by
  rw [upd_ne n]
  exact e
theorem SameX.trans {d : Addr} {H H' H'' : Hp} (s : SameX d H H') (t : SameX d H' H'') : SameX d H H'' := fun b x n e => t b x n (s b x n e)
abbrev cfs (row : Row) (tb am kn : Addr) : List (Str × V) := [("table", .ref tb), ("own_modulus", vi row.1), ("own_members", .ref am), ("known", .ref kn)]
/-- a cell in the heap -/
structure CellAs (C : Addr) (H : Hp) (p : Addr) (row : Row) (dx tb am kn : Addr) (kvs kns : List (Key × V)) : Prop where
  ins : H p = some (.ins C dx (cfs row tb am kn))
  tb : H tb = some (.dK kvs)
  rel : TabRel H kvs (tab row.1 (mx row.2) row.2)
  am : H am = some (.tup (vis row.2))
  kn : H kn = some (.dK kns)
  kr : KnRel kns row.2
  ok : RowOk row
def CellAt (C : Addr) (H : Hp) (p : Addr) (row : Row) : Prop := ∃ dx tb am kn kvs kns, CellAs C H p row dx tb am kn kvs kns
theorem CellAt.ok {C p : Addr} {H : Hp} {row : Row} : CellAt C H p row → RowOk row := fun ⟨_, _, _, _, _, _, c⟩ => c.ok
theorem CellAt.same {C p : Addr} {H H' : Hp} {row : Row} (s : Same H H') : CellAt C H p row → CellAt C H' p row := fun ⟨dx, tb, am, kn, kvs, kns, c⟩ =>
  ⟨dx, tb, am, kn, kvs, kns, s _ _ c.ins, s _ _ c.tb, c.rel.same s, s _ _ c.am, s _ _ c.kn, c.kr, c.ok⟩
/-- the law's own dict -/
def LawD (H : Hp) (d : Addr) : Prop := ∃ (x : Str) (v : V) (r : List (Key × V)), H d = some (.dK ((.inr x, v) :: r)) ∧ ∀ q ∈ r, ∃ y, q.1 = .inr y
theorem LawD.none {x : Str} {v : V} {r : List (Key × V)} (h : ∀ q ∈ r, ∃ y, q.1 = (Sum.inr y : Key)) (z : Int) : valV ((.inr x, v) :: r) (Sum.inl z : Key) = none := by
  cases e : valV ((.inr x, v) :: r) (Sum.inl z : Key) with
  | none => rfl
  | some u =>
    have := valV_in e
    rcases List.mem_cons.mp this with y | y
    · cases y
    · obtain ⟨q, hq, e2⟩ := List.mem_map.mp y
      obtain ⟨y, e3⟩ := h q hq
      rw [e3] at e2
      cases e2
theorem CellAt.lawD {C p d : Addr} {H H' : Hp} {row : Row} (ld : LawD H d) (s : SameX d H H') : CellAt C H p row → CellAt C H' p row := fun ⟨dx, tb, am, kn, kvs, kns, c⟩ => by
  obtain ⟨x, v, r, hd, hr⟩ := ld
  refine ⟨dx, tb, am, kn, kvs, kns, s _ _ ?_ c.ins, s _ _ ?_ c.tb, Paired.mapP c.rel fun _ _ ⟨e, t, e2, ht⟩ => ⟨e, t, e2, s _ _ ?_ ht⟩, s _ _ ?_ c.am, s _ _ ?_ c.kn, c.kr, c.ok⟩
  · rintro rfl
    exact absurd (hd.symm.trans c.ins) (by intro z; cases z)
  · rintro rfl
    have e := Option.some.inj (hd.symm.trans c.tb)
    injection e with e
    have rl := c.rel
    rw [← e] at rl
    generalize tab row.1 (mx row.2) row.2 = T at rl
    cases rl with
    | cons h _ => exact absurd h.1 (by intro z; cases z)
  · rintro rfl
    exact absurd (hd.symm.trans ht) (by intro z; cases z)
  · rintro rfl
    exact absurd (hd.symm.trans c.am) (by intro z; cases z)
  · rintro rfl
    have e := Option.some.inj (hd.symm.trans c.kn)
    injection e with e
    have rl := c.kr
    rw [← e] at rl
    have h1 := c.ok.some_
    cases e2 : row.2 with
    | nil =>
      rw [e2] at h1
      cases h1
    | cons a t =>
      have := (rl (a : Int)).mpr ⟨a, by rw [e2]; exact List.mem_cons_self .., rfl⟩
      rw [LawD.none hr] at this
      cases this
theorem TabRel.sx {H H' : Hp} {d : Addr} (hd : ∀ xs, H d ≠ some (.tup xs)) (s : SameX d H H') {kvs : List (Key × V)} {T : List (Nat × Srv)} (r : TabRel H kvs T) : TabRel H' kvs T :=
  Paired.mapP r fun _ _ ⟨e, t, e2, ht⟩ => ⟨e, t, e2, s _ _ (fun z => by
    subst z
    exact hd _ ht) ht⟩
theorem nonB : (!decide (V.non = V.non)) = false := by
  rw [decide_eq_true rfl]
  rfl
def spCInit (C : Addr) : Sp := fun vs H Q _ => ∃ (row : Row) (p a dx : Addr), vs = [.ref p, vi row.1, .ref a] ∧ H p = some (.ins C dx []) ∧ H a = some (.tup (vis row.2)) ∧ RowOk row ∧
  ∀ H', SameX p H H' → CellAt C H' p row → Q .non H'
/-- a method of a cell that leaves the heap be -/
def spGet (C : Addr) (g : Row → Nat) : Sp := fun vs H Q _ => ∃ (p : Addr) (row : Row), vs = [.ref p] ∧ CellAt C H p row ∧ Q (vi (g row)) H
def spMembers (C : Addr) : Sp := fun vs H Q _ => ∃ (p : Addr) (row : Row), vs = [.ref p] ∧ CellAt C H p row ∧ ∀ a, H a = some (.tup (vis row.2)) → Q (.ref a) H
def spChk (C : Addr) : Sp := fun vs H Q _ => ∃ (p : Addr) (row : Row) (r : Nat), vs = [.ref p, vi r] ∧ CellAt C H p row ∧ r < row.1 ∧ Q .non H
def spHas (C : Addr) : Sp := fun vs H Q _ => ∃ (p : Addr) (row : Row) (r : Nat), vs = [.ref p, vi r] ∧ CellAt C H p row ∧ r < row.1 ∧ Q (.bl (row.2.contains r)) H
def spSrv (C : Addr) : Sp := fun vs H Q _ => ∃ (p : Addr) (row : Row) (r : Nat), vs = [.ref p, vi r] ∧ CellAt C H p row ∧ r < row.1 ∧ r ∉ row.2 ∧
  ∀ t, H t = none → Q (.ref t) (upd H t (.tup [vi (srv row r).2.1, vi (srv row r).2.2]))
def spCarry (C : Addr) : Sp := fun vs H Q _ => ∃ (p : Addr) (row : Row) (r : Nat), vs = [.ref p, vi r] ∧ CellAt C H p row ∧ r < row.1 ∧ r ∉ row.2 ∧ Q (vi (srv row r).1) H
section
variable {P : Program} {w : World} {K : Fg} {mg : Str → Option Value} {base : Heap} {f C : Addr} {fd : FuncData}
theorem fld_known {i j : Nat} {m : Str} {a : Addr} {A : List Nat} {σ : L2.St} {H : Hp} {D : Ends} {ta : TE} (ha : H a = some (.tup (vis A))) (hj : σ[j]? = some (some (.ref a))) (hi : i < σ.length) (hl : A.length ≤ 1000)
    (q : ∀ d kvs H', Same H H' → H d = none → H' d = some (.dK kvs) → KnRel kvs A → ta σ H' fun x H2 => ∃ a C dx fs, x = .ref a ∧ H2 a = some (.ins C dx fs) ∧ Cls K C ∧ NoAttr K C m ∧ fs.length < 1000 ∧
      D.nx σ (upd H2 a (.ins C dx (putF m (.ref d) fs)))) :
    sFld K ta (tDc (iTup K (tVar j)) (gName i) tYes (tVar i) (tC (.bl true)) [i]) m D σ H :=
  dc_known (K := K) (Q := fun y H1 => ta σ H1 fun x H2 => ∃ a C dx fs, x = .ref a ∧ H2 a = some (.ins C dx fs) ∧ Cls K C ∧ NoAttr K C m ∧ fs.length < 1000 ∧ D.nx σ (upd H2 a (.ins C dx (putF m y fs)))) hj hi ha hl q
theorem ok_Cinit (B : Bt mg) (T : ClT K mg C) (F : Fn0 K "__init__" "Cell.__init__" sCinit f fd) (D1 : DOk P w K mg base 2 "check_shape" ["modulus", "members"] spRow)
    (D2 : DOk P w K mg base 1 "spoiling_triple" ["modulus", "members"] spRow) (D3 : DOk P w K mg base 1 "serving_table" ["modulus", "members"] spTab)
    (D4 : DOk P w K mg base 1 "unserved_remainder" ["modulus", "members", "table"] spUns) : FnOk P w K mg base CX0 3 f fd ["self", "modulus", "members"] (spCInit C) := by
  refine F.ok scCinit (fun vs H Q E h => ?_) (fun cdv A outer s H vs Q E hr h => ?_)
  · obtain ⟨row, p, a, dx, rfl, _⟩ := h
    rfl
  · obtain ⟨row, p, a, dx, rfl, hp, ha, ok, q⟩ := h
    have hr1 : Room 1 _ := hr.mono (by decide)
    refine ⟨_, PSs.nox (pss_cons (ps_expr (pe_d D1 hr (by rfl) (pa_cons (pv 1) (pa_cons (pv 2) pa_nil))))
      (pss_cons (ps_set (i := 3) scCinit.nd rfl (.inl rfl) (pe_d D2 hr1 (by rfl) (pa_cons (pv 1) (pa_cons (pv 2) pa_nil))))
      (pss_cons (ps_if (pt_cmp (pc_notN (pv 3))) (pss_one ps_never) pss_nil)
      (pss_cons (ps_fld (pv 0) (pe_d D3 hr1 (by rfl) (pa_cons (pv 1) (pa_cons (pv 2) pa_nil))) rfl)
      (pss_cons (ps_set (i := 4) scCinit.nd rfl (.inl rfl) (pe_d D4 hr1 (by rfl) (pa_cons (pv 1) (pa_cons (pv 2) (pa_cons (pe_fld (pv 0) rfl) pa_nil)))))
      (pss_cons (ps_if (pt_cmp (pc_notN (pv 4))) (pss_one ps_never) pss_nil)
      (pss_cons (ps_fld (pv 0) (pv 1) rfl)
      (pss_cons (ps_fld (pv 0) (pe_callTy call_tupleT (by rfl) B.tuple boot_tuple (pa_cons (pv 2) pa_nil)) rfl)
      (pss_one (ps_fld (pv 0) (pe_dc (own := [("member", 5)]) rfl scCinit.nd (pi_tup (pv 2)) (blkOk_by (N := nnCinit) (sc := defScope sCinit) (by decide +kernel))
        (fun _ _ _ _ _ => pg_name (i := 5) scCinit.nd rfl (.inl rfl)) (fun _ _ _ _ _ => pts_nil) (fun _ _ _ _ _ => pv 5) (fun _ _ _ _ _ => pe_bl)) rfl)))))))))), ?_⟩
    have nap : a ≠ p := fun z => by
      subst z
      rw [hp] at ha
      cases ha
    refine ⟨_, rfl, _, rfl, row, a, rfl, ha, ok, fun H1 s1 => ?_⟩
    refine ⟨_, rfl, _, rfl, row, a, rfl, s1 _ _ ha, ok, fun H2 s2 => ?_⟩
    refine ⟨_, rfl, _, rfl, ?_⟩
    rw [nonB]
    refine iteF ?_
    have ha2 := s2 _ _ (s1 _ _ ha)
    have hp2 := s2 _ _ (s1 _ _ hp)
    have x2 : SameX p H H2 := fun b x _ e => s2 _ _ (s1 _ _ e)
    refine ⟨_, rfl, _, rfl, row, a, rfl, ha2, ok, fun tb kvs H3 s3 n3 h3 rel => ⟨_, rfl, p, C, dx, [], rfl, s3 _ _ hp2, T.cl, T.nT, by decide, ?_⟩⟩
    have ntp : tb ≠ p := fun z => by
      subst z
      rw [s3 _ _ hp2] at h3
      cases h3
    have x4 : SameX p H3 (upd H3 p (.ins C dx (putF "table" (.ref tb) []))) := sameX_upd
    have rel4 := rel.sx (fun xs z => by
      rw [s3 _ _ hp2] at z
      cases z) x4
    have ha4 := x4 _ _ nap (s3 _ _ ha2)
    have h4 := x4 _ _ ntp h3
    have x24 : SameX p H2 (upd H3 p (.ins C dx (putF "table" (.ref tb) []))) := (Same.x s3 p).trans x4
    refine ⟨_, rfl, _, rfl, _, rfl, p, C, dx, _, _, rfl, upd_same, T.cl, T.nT, rfl, row, a, tb, kvs, rfl, ha4, ok, h4, rel4, fun H5 s5 => ?_⟩
    have hp5 := s5 _ _ upd_same
    refine ⟨_, rfl, _, rfl, ?_⟩
    rw [nonB]
    refine iteF ?_
    refine ⟨_, rfl, _, rfl, p, C, dx, _, rfl, hp5, T.cl, T.nM, by show 1 < 1000; decide, ?_⟩
    have x7 : ∀ o o2, SameX p H5 (upd (upd H5 p o) p o2) := fun _ _ => sameX_upd.trans sameX_upd
    have ha6 : upd H5 p (.ins C dx (putF "own_modulus" (vi row.1) (putF "table" (.ref tb) []))) a = some (.tup (vis row.2)) := sameX_upd _ _ nap (s5 _ _ ha4)
    refine ⟨_, rfl, a, _, rfl, sqT_of ha6, _, rfl, p, C, dx, _, rfl, upd_same, T.cl, T.nA, by show 2 < 1000; decide, ?_⟩
    refine fld_known (K := K) (x7 _ _ _ _ nap (s5 _ _ ha4)) rfl (Nat.lt_succ_self 5) (Nat.le_trans ok.four (by decide)) fun kn kns H8 s8 n8 h8 kr => ?_
    refine ⟨_, rfl, p, C, dx, _, rfl, s8 _ _ upd_same, T.cl, T.nK, by show 3 < 1000; decide, ?_⟩
    have x9 : ∀ o, SameX p H5 (upd H8 p o) := fun o => ((x7 _ _).trans (Same.x s8 p)).trans sameX_upd
    have nkp : kn ≠ p := fun z => by
      subst z
      rw [s8 _ _ upd_same] at h8
      cases h8
    refine q _ ?_ ⟨dx, tb, a, kn, kvs, kns, upd_same, ?_, ?_, ?_, ?_, kr, ok⟩
    · exact ((x2.trans x24).trans (Same.x s5 p)).trans (x9 _)
    · exact x9 _ _ _ ntp (s5 _ _ h4)
    · exact (rel4.same s5).sx (fun xs z => by
        rw [hp5] at z
        cases z) (x9 _)
    · exact x9 _ _ _ nap (s5 _ _ ha4)
    · exact sameX_upd _ _ nkp h8
theorem at_last {l : List Nat} {n : Nat} (h : l.getLast? = some n) : atI (vis l) (-1) = some (vi n) := by
  have hl : 0 < l.length := by
    cases l with
    | nil => cases h
    | cons _ _ => exact Nat.succ_pos _
  have e : ixN (vis l).length (-1) = some (l.length - 1) := by
    rw [vis_len]
    unfold ixN
    rw [if_neg (by decide), if_pos (by omega)]
    congr 1
    omega
  unfold atI
  rw [e]
  show (vis l)[l.length - 1]? = _
  refine vis_get ?_
  rw [← h, List.getLast?_eq_getElem?]
theorem ok_Cmodulus (T : ClT K mg C) (F : Fn0 K "modulus" "Cell.modulus" sCmodulus f fd) : FnOk P w K mg base CX0 1 f fd ["self"] (spGet C fun row => row.1) := by
  refine F.ok scCmodulus (fun vs H Q E h => ?_) (fun cdv A outer s H vs Q E hr h => ?_)
  · obtain ⟨p, row, rfl, _⟩ := h
    rfl
  · obtain ⟨p, row, rfl, ⟨dx, tb, am, kn, kvs, kns, c⟩, q⟩ := h
    refine ⟨_, PSs.nox (pss_one (ps_ret (pe_fld (pv 0) rfl))), ?_⟩
    exact ⟨_, rfl, p, C, dx, _, _, rfl, c.ins, T.cl, T.nM, rfl, q⟩
theorem ok_Cmembers (T : ClT K mg C) (F : Fn0 K "members" "Cell.members" sCmembers f fd) : FnOk P w K mg base CX0 1 f fd ["self"] (spMembers C) := by
  refine F.ok scCmembers (fun vs H Q E h => ?_) (fun cdv A outer s H vs Q E hr h => ?_)
  · obtain ⟨p, row, rfl, _⟩ := h
    rfl
  · obtain ⟨p, row, rfl, ⟨dx, tb, am, kn, kvs, kns, c⟩, q⟩ := h
    refine ⟨_, PSs.nox (pss_one (ps_ret (pe_fld (pv 0) rfl))), ?_⟩
    exact ⟨_, rfl, p, C, dx, _, _, rfl, c.ins, T.cl, T.nA, rfl, q am c.am⟩
theorem ok_Csize (B : Bt mg) (T : ClT K mg C) (F : Fn0 K "size" "Cell.size" sCsize f fd) : FnOk P w K mg base CX0 1 f fd ["self"] (spGet C fun row => row.2.length) := by
  refine F.ok scCsize (fun vs H Q E h => ?_) (fun cdv A outer s H vs Q E hr h => ?_)
  · obtain ⟨p, row, rfl, _⟩ := h
    rfl
  · obtain ⟨p, row, rfl, ⟨dx, tb, am, kn, kvs, kns, c⟩, q⟩ := h
    refine ⟨_, PSs.nox (pss_one (ps_ret (pe_callB call_len (by rfl) B.len boot_len (pa_cons (pe_fld (pv 0) rfl) pa_nil)))), ?_⟩
    exact ⟨_, rfl, p, C, dx, _, _, rfl, c.ins, T.cl, T.nA, rfl, .ref am, row.2.length, rfl, .inr ⟨_, sqT_of c.am, (vis_len _).symm⟩, q⟩
theorem ok_Cgreatest (T : ClT K mg C) (F : Fn0 K "greatest" "Cell.greatest" sCgreatest f fd) : FnOk P w K mg base CX0 1 f fd ["self"] (spGet C fun row => mx row.2) := by
  refine F.ok scCgreatest (fun vs H Q E h => ?_) (fun cdv A outer s H vs Q E hr h => ?_)
  · obtain ⟨p, row, rfl, _⟩ := h
    rfl
  · obtain ⟨p, row, rfl, ⟨dx, tb, am, kn, kvs, kns, c⟩, q⟩ := h
    refine ⟨_, PSs.nox (pss_one (ps_ret (pe_ix ix_tup (pe_fld (pv 0) rfl) (pe_un un_neg pe_int) (by intro _ _; rfl)))), ?_⟩
    exact ⟨_, rfl, p, C, dx, _, _, rfl, c.ins, T.cl, T.nA, rfl, _, rfl, am, _, _, _, rfl, rfl, sqT_of c.am, at_last c.ok.last, q⟩
theorem ok_Cchk (T : ClT K mg C) (F : Fn0 K "check_remainder" "Cell.check_remainder" sCcheck_remainder f fd) (D1 : DOk P w K mg base 1 "is_between" ["value", "low", "high"] spBetween) :
    FnOk P w K mg base CX0 2 f fd ["self", "remainder"] (spChk C) := by
  refine F.ok scCcheck_remainder (fun vs H Q E h => ?_) (fun cdv A outer s H vs Q E hr h => ?_)
  · obtain ⟨p, row, r, rfl, _⟩ := h
    rfl
  · obtain ⟨p, row, r, rfl, ⟨dx, tb, am, kn, kvs, kns, c⟩, hlt, q⟩ := h
    refine ⟨_, PSs.nox (pss_one (ps_if (pt_not (pt_val (pe_d D1 hr (by rfl) (pa_cons (pv 1) (pa_cons pe_int (pa_cons (pe_op op_sub (pe_fld (pv 0) rfl) pe_int) pa_nil)))))) (pss_one ps_never) pss_nil)), ?_⟩
    exact ⟨_, rfl, _, rfl, p, C, dx, _, _, rfl, c.ins, T.cl, T.nM, rfl, _, _, rfl, rfl, _, _, _, rfl, by omega, by omega, true, rfl, iteF q⟩
theorem ok_Chas (T : ClT K mg C) (F : Fn0 K "has" "Cell.has" sChas f fd) (D1 : MOk P w K mg base 2 C "check_remainder" ["self", "remainder"] (spChk C)) :
    FnOk P w K mg base CX0 3 f fd ["self", "remainder"] (spHas C) := by
  refine F.ok scChas (fun vs H Q E h => ?_) (fun cdv A outer s H vs Q E hr h => ?_)
  · obtain ⟨p, row, r, rfl, _⟩ := h
    rfl
  · obtain ⟨p, row, r, rfl, ⟨dx, tb, am, kn, kvs, kns, c⟩, hlt, q⟩ := h
    refine ⟨_, PSs.nox (pss_cons (ps_expr (pe_m D1 (pv 0) T.cl hr (pa_cons (pv 1) pa_nil))) (pss_one (ps_ret (pe_cmp (pc_din (hu1 hr) (pv 1) (pe_fld (pv 0) rfl)))))), ?_⟩
    have dg : DGet H kn (vi r) (valV kns (Sum.inl (r : Int) : Key)) := .k (k := .inl (r : Int)) c.kn
    refine ⟨_, rfl, p, dx, _, rfl, c.ins, rfl, _, rfl, p, row, r, rfl, ⟨dx, tb, am, kn, kvs, kns, c⟩, hlt, ?_⟩
    refine ⟨_, rfl, _, rfl, p, C, dx, _, _, rfl, c.ins, T.cl, T.nK, rfl, kn, _, rfl, dg, ?_⟩
    rw [c.kr.has r]
    exact q
theorem srv_at {H : Hp} {kvs : List (Key × V)} {row : Row} (ok : RowOk row) (rel : TabRel H kvs (tab row.1 (mx row.2) row.2)) {r : Nat} (hlt : r < row.1) (hn : r ∉ row.2) :
    ∃ t, valV kvs (Sum.inl (r : Int) : Key) = some (.ref t) ∧ H t = some (.tup [vi (srv row r).1, vi (srv row r).2.1, vi (srv row r).2.2]) := by
  obtain ⟨c, l, m, k0, k1, _⟩ := ok.serve r hlt hn
  rcases rel.look r with ⟨e1, e2⟩ | ⟨c', l', m', t, e1, e2, e3⟩
  · rw [k0] at e1
    cases e1
  · rw [k0] at e1
    cases e1
    rw [k1]
    exact ⟨t, e2, e3⟩
theorem ok_Csrv (T : ClT K mg C) (F : Fn0 K "serving_pair" "Cell.serving_pair" sCserving_pair f fd) (D1 : MOk P w K mg base 3 C "has" ["self", "remainder"] (spHas C)) :
    FnOk P w K mg base CX0 4 f fd ["self", "remainder"] (spSrv C) := by
  refine F.ok scCserving_pair (fun vs H Q E h => ?_) (fun cdv A outer s H vs Q E hr h => ?_)
  · obtain ⟨p, row, r, rfl, _⟩ := h
    rfl
  · obtain ⟨p, row, r, rfl, ⟨dx, tb, am, kn, kvs, kns, c⟩, hlt, hn, q⟩ := h
    refine ⟨_, PSs.nox (pss_cons (ps_if (pt_val (pe_m D1 (pv 0) T.cl hr (pa_cons (pv 1) pa_nil))) (pss_one ps_never) pss_nil)
      (pss_one (ps_ret (pe_slice sl_tup (pe_dget (hu1 hr) (pe_fld (pv 0) rfl) (pv 1) (by intro _ _; rfl)) (po_some pe_int) po_none)))), ?_⟩
    obtain ⟨t, e1, e2⟩ := srv_at c.ok c.rel hlt hn
    have dg : DGet H tb (vi r) (valV kvs (Sum.inl (r : Int) : Key)) := .k (k := .inl (r : Int)) c.tb
    rw [e1] at dg
    refine ⟨_, rfl, p, dx, _, rfl, c.ins, rfl, _, rfl, p, row, r, rfl, ⟨dx, tb, am, kn, kvs, kns, c⟩, hlt, _, rfl, ?_⟩
    have hc : row.2.contains r = false := by
      cases e : row.2.contains r with
      | false => rfl
      | true => exact absurd (List.contains_iff_mem.mp e) hn
    rw [hc]
    refine iteF ?_
    refine ⟨_, rfl, p, C, dx, _, _, rfl, c.ins, T.cl, T.nT, rfl, _, rfl, tb, _, rfl, dg, ?_⟩
    refine ⟨_, rfl, t, _, rfl, sqT_of e2, ?_, fun l nl => q l nl⟩
    show ¬ (HT.sIx 3 0 (some 1) = 0 ∧ _)
    exact fun z => absurd z.1 (by decide)
theorem ok_Ccarry (T : ClT K mg C) (F : Fn0 K "carry" "Cell.carry" sCcarry f fd) (D1 : MOk P w K mg base 3 C "has" ["self", "remainder"] (spHas C)) :
    FnOk P w K mg base CX0 4 f fd ["self", "remainder"] (spCarry C) := by
  refine F.ok scCcarry (fun vs H Q E h => ?_) (fun cdv A outer s H vs Q E hr h => ?_)
  · obtain ⟨p, row, r, rfl, _⟩ := h
    rfl
  · obtain ⟨p, row, r, rfl, ⟨dx, tb, am, kn, kvs, kns, c⟩, hlt, hn, q⟩ := h
    refine ⟨_, PSs.nox (pss_cons (ps_if (pt_val (pe_m D1 (pv 0) T.cl hr (pa_cons (pv 1) pa_nil))) (pss_one ps_never) pss_nil)
      (pss_one (ps_ret (pe_ix ix_tup (pe_dget (hu1 hr) (pe_fld (pv 0) rfl) (pv 1) (by intro _ _; rfl)) pe_int (by intro _ _; rfl))))), ?_⟩
    obtain ⟨t, e1, e2⟩ := srv_at c.ok c.rel hlt hn
    have dg : DGet H tb (vi r) (valV kvs (Sum.inl (r : Int) : Key)) := .k (k := .inl (r : Int)) c.tb
    rw [e1] at dg
    refine ⟨_, rfl, p, dx, _, rfl, c.ins, rfl, _, rfl, p, row, r, rfl, ⟨dx, tb, am, kn, kvs, kns, c⟩, hlt, _, rfl, ?_⟩
    have hc : row.2.contains r = false := by
      cases e : row.2.contains r with
      | false => rfl
      | true => exact absurd (List.contains_iff_mem.mp e) hn
    rw [hc]
    refine iteF ?_
    exact ⟨_, rfl, p, C, dx, _, _, rfl, c.ins, T.cl, T.nT, rfl, _, rfl, tb, _, rfl, dg, t, _, _, _, rfl, rfl, sqT_of e2, rfl, q⟩
end
end Tf
/-! ### the class Stack -/
namespace Tf
open PySem PySem.Spec PyProof.Rows L2
structure StT (K : Fg) (mg : Str → Option Value) (S : Addr) : Prop where
  cl : Cls K S
  mgS : mg "Stack" = some (.ref S)
  rd : ClX.CRead K S (.type "type")
  mh : ∃ u, ClX.CVal K S (.type "type") "MAX_HEIGHT" (.int 100) u
  nL : NoAttr K S "layers"
abbrev refs (ps : List Addr) : List V := ps.map V.ref
def CellsAt (C : Addr) (H : Hp) (ps : List Addr) (rows : List Row) : Prop := Paired (fun p row => CellAt C H p row) ps rows
structure StackAs (C S : Addr) (H : Hp) (p : Addr) (rows : List Row) (dx la : Addr) (ps : List Addr) : Prop where
  ins : H p = some (.ins S dx [("layers", .ref la)])
  la : H la = some (.lst (refs ps))
  cells : CellsAt C H ps rows
def StackAt (C S : Addr) (H : Hp) (p : Addr) (rows : List Row) : Prop := ∃ dx la ps, StackAs C S H p rows dx la ps
theorem CellsAt.same {C : Addr} {H H' : Hp} {ps : List Addr} {rows : List Row} (s : Same H H') (h : CellsAt C H ps rows) : CellsAt C H' ps rows := Paired.mapP h fun _ _ => CellAt.same s
theorem StackAs.same {C S p dx la : Addr} {H H' : Hp} {ps : List Addr} {rows : List Row} (s : Same H H') (h : StackAs C S H p rows dx la ps) : StackAs C S H' p rows dx la ps :=
  ⟨s _ _ h.ins, s _ _ h.la, h.cells.same s⟩
theorem StackAt.same {C S p : Addr} {H H' : Hp} {rows : List Row} (s : Same H H') : StackAt C S H p rows → StackAt C S H' p rows := fun ⟨dx, la, ps, h⟩ => ⟨dx, la, ps, h.same s⟩
theorem StackAt.lawD {C S p d : Addr} {H H' : Hp} {rows : List Row} (ld : LawD H d) (s : SameX d H H') : StackAt C S H p rows → StackAt C S H' p rows := fun ⟨dx, la, ps, h⟩ => by
  refine ⟨dx, la, ps, s _ _ ?_ h.ins, s _ _ ?_ h.la, Paired.mapP h.cells fun _ _ => CellAt.lawD ld s⟩
  · rintro rfl
    obtain ⟨x, v, r, hd, _⟩ := ld
    exact absurd (hd.symm.trans h.ins) (by intro z; cases z)
  · rintro rfl
    obtain ⟨x, v, r, hd, _⟩ := ld
    exact absurd (hd.symm.trans h.la) (by intro z; cases z)
/-- an instance of another class, or a list, changes: the cells stay -/
def NotCell (C : Addr) (H : Hp) (d : Addr) : Prop := (∃ S dx fs, H d = some (.ins S dx fs) ∧ fs.length < 4) ∨ ∃ xs, H d = some (.lst xs)
theorem NotCell.ne {C d b : Addr} {H : Hp} (n : NotCell C H d) : (∀ xs, H b = some (.tup xs) → b ≠ d) ∧ (∀ xs, H b = some (.dK xs) → b ≠ d) ∧ ∀ S dx fs, H b = some (.ins S dx fs) → 4 ≤ fs.length → b ≠ d := by
  refine ⟨?_, ?_, ?_⟩
  · rintro xs h rfl
    rcases n with ⟨S, dx, fs, e, _⟩ | ⟨ys, e⟩
    · exact absurd (h.symm.trans e) (by intro z; cases z)
    · exact absurd (h.symm.trans e) (by intro z; cases z)
  · rintro xs h rfl
    rcases n with ⟨S, dx, fs, e, _⟩ | ⟨ys, e⟩
    · exact absurd (h.symm.trans e) (by intro z; cases z)
    · exact absurd (h.symm.trans e) (by intro z; cases z)
  · rintro S dx fs h hl rfl
    rcases n with ⟨S2, dx2, fs2, e, l2⟩ | ⟨ys, e⟩
    · have e2 := Option.some.inj (h.symm.trans e)
      injection e2 with _ _ e3
      rw [e3] at hl
      omega
    · exact absurd (h.symm.trans e) (by intro z; cases z)
theorem CellAt.sx {C p d : Addr} {H H' : Hp} {row : Row} (n : NotCell C H d) (s : SameX d H H') : CellAt C H p row → CellAt C H' p row := fun ⟨dx, tb, am, kn, kvs, kns, c⟩ =>
  ⟨dx, tb, am, kn, kvs, kns, s _ _ ((NotCell.ne n).2.2 _ _ _ c.ins (Nat.le_refl 4)) c.ins, s _ _ ((NotCell.ne n).2.1 _ c.tb) c.tb,
    Paired.mapP c.rel fun _ _ ⟨e, t, e2, ht⟩ => ⟨e, t, e2, s _ _ ((NotCell.ne n).1 _ ht) ht⟩, s _ _ ((NotCell.ne n).1 _ c.am) c.am, s _ _ ((NotCell.ne n).2.1 _ c.kn) c.kn, c.kr, c.ok⟩
theorem CellsAt.sx {C d : Addr} {H H' : Hp} {ps : List Addr} {rows : List Row} (n : NotCell C H d) (s : SameX d H H') (h : CellsAt C H ps rows) : CellsAt C H' ps rows := Paired.mapP h fun _ _ => CellAt.sx n s
theorem CellsAt.at_ {C : Addr} {H : Hp} : ∀ {ps : List Addr} {rows : List Row}, CellsAt C H ps rows → ∀ {i : Nat} {x : V}, (refs ps)[i]? = some x → ∃ p row, x = .ref p ∧ ps[i]? = some p ∧ rows[i]? = some row ∧ CellAt C H p row
  | _, _, .nil, i, x, h => by cases h
  | _ :: _, _ :: _, .cons c r, 0, x, h => ⟨_, _, (Option.some.inj h).symm, rfl, rfl, c⟩
  | _ :: _, _ :: _, .cons c r, i + 1, x, h => CellsAt.at_ r (i := i) h
theorem paired_app {α β : Type} {R : α → β → Prop} : ∀ {a : List α} {b : List β} {a2 : List α} {b2 : List β}, Paired R a b → Paired R a2 b2 → Paired R (a ++ a2) (b ++ b2)
  | _, _, _, _, .nil, h => h
  | _, _, _, _, .cons x r, h => .cons x (paired_app r h)
/-! #### what the methods promise -/
def spCells (C : Addr) : Sp := fun vs H Q _ => ∃ (t : Addr) (ps : List Addr) (rows : List Row), vs = [.ref t] ∧ H t = some (.tup (refs ps)) ∧ CellsAt C H ps rows ∧ ∀ H', Same H H' → Q .non H'
def spIsCount : Sp := fun vs H Q _ => ∃ n : Nat, vs = [vi n] ∧ Q (.bl true) H
def spCount : Sp := fun vs H Q _ => ∃ n : Nat, vs = [vi n] ∧ Q .non H
/-- a promise of a def with a star parameter -/
def spStar (sp : Sp) : Sp := fun vs H Q E => ∃ ws rest, vs = ws ++ rest ∧ ws.length = 1 ∧ rest.length ≤ sizeLine ∧ ∀ p, H p = none → sp (ws ++ [V.ref p]) (upd H p (.tup rest)) Q E
def spPush (C S : Addr) : Sp := fun vs H Q _ => ∃ (p t dx la : Addr) (ps cs : List Addr) (rows rows2 : List Row), vs = [.ref p, .ref t] ∧ H t = some (.tup (refs cs)) ∧ StackAs C S H p rows dx la ps ∧ CellsAt C H cs rows2 ∧
  rows.length + rows2.length ≤ 100 ∧ ∀ H', SameX la H H' → StackAs C S H' p (rows ++ rows2) dx la (ps ++ cs) → Q .non H'
def spSInit (C S : Addr) : Sp := fun vs H Q _ => ∃ (p t dx : Addr) (cs : List Addr) (rows : List Row), vs = [.ref p, .ref t] ∧ H p = some (.ins S dx []) ∧ H t = some (.tup (refs cs)) ∧ CellsAt C H cs rows ∧
  rows.length ≤ 100 ∧ ∀ H', SameX p H H' → (∃ dx la ps, H la = none ∧ StackAs C S H' p rows dx la ps) → Q .non H'
def spGetS (C S : Addr) (g : List Row → Nat) : Sp := fun vs H Q _ => ∃ (p : Addr) (rows : List Row), vs = [.ref p] ∧ StackAt C S H p rows ∧ ∀ H', Same H H' → Q (vi (g rows)) H'
def spRems (C S : Addr) : Sp := fun vs H Q _ => ∃ (p : Addr) (rows : List Row) (x : Nat), vs = [.ref p, vi x] ∧ StackAt C S H p rows ∧ rows.length ≤ 100 ∧
  ∀ t l H', Same H H' → H' t = some (.tup [.ref l, vi (restN rows x)]) → H' l = some (.lst (vis (rems rows x))) → Q (.ref t) H'
def spFrom (C S : Addr) : Sp := fun vs H Q _ => ∃ (p l : Addr) (rows : List Row) (rs : List Nat) (z : Nat), vs = [.ref p, .ref l, vi z] ∧ StackAt C S H p rows ∧ H l = some (.lst (vis rs)) ∧ rs.length = rows.length ∧
  ∀ H', Same H H' → Q (vi (glue rows rs z)) H'
def spRank (C S : Addr) : Sp := fun vs H Q _ => ∃ (p : Addr) (rows : List Row) (x : Nat), vs = [.ref p, vi x] ∧ StackAt C S H p rows ∧ rows.length ≤ 100 ∧ x < 2 ^ 1000 ∧ isPl (restN rows x) = true ∧
  ∀ H', Same H H' → Q (vi (rankF rows x).1) H'
/-- an answer of composed_pair -/
def PairV (H : Hp) (o : Option (Nat × Nat)) (v : V) : Prop :=
  match o with
  | none => v = .non
  | some (y, z) => ∃ t, v = .ref t ∧ H t = some (.tup [vi y, vi z])
def spComp (C S : Addr) : Sp := fun vs H Q _ => ∃ (p : Addr) (rows : List Row) (x : Nat), vs = [.ref p, vi x] ∧ StackAt C S H p rows ∧ rows.length ≤ 100 ∧ x < 2 ^ 1000 ∧
  ∀ v H', Same H H' → PairV H' (comp rows x) v → Q v H'
section
variable {P : Program} {w : World} {K : Fg} {mg : Str → Option Value} {base : Heap} {f C S : Addr} {fd : FuncData}
theorem ok_check_cells (B : Bt mg) (T : ClT K mg C) (F : Fn0 K "check_cells" "check_cells" scheck_cells f fd) : FnOk P w K mg base CX0 1 f fd ["values"] (spCells C) := by
  refine F.ok sccheck_cells (fun vs H Q E h => ?_) (fun cdv A outer s H vs Q E hr h => ?_)
  · obtain ⟨t, ps, rows, rfl, _⟩ := h
    rfl
  · obtain ⟨t, ps, rows, rfl, ht, hc, q⟩ := h
    refine ⟨_, PSs.nox (pss_one (ps_for PassesOwn.never rfl (pi_enT (by rfl) B.enum (pa_cons (pv 0) pa_nil)) (pg_tup rfl (pgs_cons (pg_name (i := 1) sccheck_cells.nd rfl (.inl rfl)) (pgs_cons (pg_name (i := 2) sccheck_cells.nd rfl (.inl rfl)) pgs_nil)))
        (pss_one (ps_if (pt_not (pt_val (pe_isi B (pv 2) (pe_glob (v := .ref C) (by rfl) T.mgC rfl)))) (pss_one ps_never) pss_nil)))), ?_⟩
    refine ⟨_, rfl, t, _, rfl, sqT_of ht, for_it walk_enT (fun i σ H3 => ∃ (y1 y2 : Option V), σ = [some (.ref t), y1, y2] ∧ Same H H3)
      ⟨none, none, rfl, fun _ _ e => e⟩ (fun i σ H3 _ ⟨_, _, _, e⟩ => sqT_of (e _ _ ht)) ?_ ?_⟩
    · rintro i x σ H3 H4 hi ⟨y1, y2, rfl, s3⟩ ⟨T0, x1, x2, rfl, n0, rfl, e1, e2⟩
      obtain ⟨p, row, rfl, hp, hrow, cell⟩ := hc.at_ e2
      obtain rfl := Option.some.inj e1
      refine ⟨T0, _, rfl, sqT_of upd_same, rfl, _, _, rfl, _, _, rfl, rfl, ?_⟩
      obtain ⟨dx, tb, am, kn, kvs, kns, c⟩ := (cell.same s3).same (same_new n0 (o := .tup [.int (i : Nat), .ref p]))
      refine ⟨_, rfl, _, _, _, _, true, rfl, .own C, .base (.ins c.ins T.cl T.is_.ha T.is_.hn T.is_.tk T.is_.mr), T.is_.kit, true, rfl, iteF ?_⟩
      exact ⟨_, _, rfl, fun b x z => same_new n0 b x (s3 b x z)⟩
    · rintro σ H3 ⟨y1, y2, rfl, s3⟩
      exact q H3 s3
theorem ok_is_count (B : Bt mg) (F : Fn0 K "is_count" "is_count" sis_count f fd) : FnOk P w K mg base CX0 1 f fd ["value"] spIsCount := by
  refine F.ok scis_count (fun vs H Q E h => ?_) (fun cdv A outer s H vs Q E hr h => ?_)
  · obtain ⟨n, rfl, _⟩ := h
    rfl
  · obtain ⟨n, rfl, q⟩ := h
    refine ⟨_, PSs.nox (pss_one (ps_ret (pe_and (pe_isi B (pv 0) (pe_tyInt B)) (pe_and (pe_not (pe_isi B (pv 0) (pe_tyBool B))) (pe_one (pe_cmpR op_ge (pv 0) pe_int (nomark _))))))), ?_⟩
    refine ⟨_, rfl, _, _, _, _, true, rfl, .ty "int", .base (.int _), kInt, true, rfl, iteT ?_⟩
    refine ⟨_, rfl, _, _, _, _, false, rfl, .ty "bool", .base (.int _), kBool, false, rfl, _, rfl, iteT ?_⟩
    refine ⟨_, rfl, _, _, rfl, rfl, ?_⟩
    show Q (V.bl (decide ((0 : Int) ≤ (n : Int)))) H
    rw [decide_eq_true (Int.natCast_nonneg n)]
    exact q
theorem ok_check_count (F : Fn0 K "check_count" "check_count" scheck_count f fd) (D1 : DOk P w K mg base 1 "is_count" ["value"] spIsCount) : FnOk P w K mg base CX0 2 f fd ["value"] spCount := by
  refine F.ok sccheck_count (fun vs H Q E h => ?_) (fun cdv A outer s H vs Q E hr h => ?_)
  · obtain ⟨n, rfl, _⟩ := h
    rfl
  · obtain ⟨n, rfl, q⟩ := h
    refine ⟨_, PSs.nox (pss_one (ps_if (pt_not (pt_val (pe_d D1 hr (by rfl) (pa_cons (pv 0) pa_nil)))) (pss_one ps_never) pss_nil)), ?_⟩
    exact ⟨_, rfl, n, rfl, true, rfl, iteF q⟩
theorem ok_Smodulus (T : StT K mg S) (U : ClT K mg C) (F : Fn0 K "modulus" "Stack.modulus" sSmodulus f fd) (D1 : POk P w K mg base 1 C "modulus" (spGet C fun row => row.1)) :
    FnOk P w K mg base CX0 3 f fd ["self"] (spGetS C S prodN) := by
  refine F.ok scSmodulus (fun vs H Q E h => ?_) (fun cdv A outer s H vs Q E hr h => ?_)
  · obtain ⟨p, rows, rfl, _⟩ := h
    rfl
  · obtain ⟨p, rows, rfl, ⟨dx, la, ps, c⟩, q⟩ := h
    refine ⟨_, PSs.nox (pss_cons (ps_set (i := 1) scSmodulus.nd rfl (.inl rfl) pe_int)
      (pss_cons (ps_for PassesOwn.never rfl (pi_list (pe_fld (pv 0) rfl)) (pg_name (i := 2) scSmodulus.nd rfl (.inl rfl))
        (pss_one (ps_set (i := 1) scSmodulus.nd rfl (.inl rfl) (pe_op op_mul (pv 1) (pe_p D1 (pv 2) U.cl hr)))))
      (pss_one (ps_ret (pv 1))))), ?_⟩
    refine ⟨_, rfl, p, S, dx, _, _, rfl, c.ins, T.cl, T.nL, rfl, la, rfl, ⟨_, sqL_of c.la⟩, for_list (K := K) (a := la) (xs := refs ps)
      (fun i σ H3 => ∃ y : Option V, σ = [some (.ref p), some (vi (prodN (rows.take i))), y] ∧ H3 = H) ⟨none, rfl, rfl⟩ (fun i σ H3 _ ⟨_, _, e⟩ => by rw [e]; exact sqL_of c.la) ?_ ?_⟩
    · rintro i x σ H3 hi ⟨y, rfl, rfl⟩
      obtain ⟨cp, row, rfl, hp, hrow, cell⟩ := c.cells.at_ hi
      have ok := cell.ok
      have cell2 := cell
      obtain ⟨dx2, tb, am, kn, kvs, kns, cc⟩ := cell2
      refine ⟨_, rfl, _, rfl, cp, _, _, rfl, cc.ins, cp, row, rfl, cell, _, _, rfl, rfl, .inr (small64 ok.ten), ?_⟩
      refine ⟨some (.ref cp), ?_, rfl⟩
      rw [prod_take hrow]
      rfl
    · rintro σ H3 ⟨y, rfl, rfl⟩
      refine ⟨_, rfl, ?_⟩
      have e : rows.take (refs ps).length = rows := by
        have := Paired.length c.cells
        rw [List.length_map, this, List.take_length]
      rw [e]
      exact q H3 fun _ _ e => e
theorem ok_Sgreatest (T : StT K mg S) (U : ClT K mg C) (F : Fn0 K "greatest" "Stack.greatest" sSgreatest f fd) (D1 : POk P w K mg base 1 C "modulus" (spGet C fun row => row.1))
    (D2 : POk P w K mg base 1 C "greatest" (spGet C fun row => mx row.2)) : FnOk P w K mg base CX0 3 f fd ["self"] (spGetS C S great) := by
  refine F.ok scSgreatest (fun vs H Q E h => ?_) (fun cdv A outer s H vs Q E hr h => ?_)
  · obtain ⟨p, rows, rfl, _⟩ := h
    rfl
  · obtain ⟨p, rows, rfl, ⟨dx, la, ps, c⟩, q⟩ := h
    refine ⟨_, PSs.nox (pss_cons (ps_set (i := 1) scSgreatest.nd rfl (.inl rfl) pe_int)
      (pss_cons (ps_for PassesOwn.never rfl (pi_list (pe_revL (pe_fld (pv 0) rfl))) (pg_name (i := 2) scSgreatest.nd rfl (.inl rfl))
        (pss_one (ps_set (i := 1) scSgreatest.nd rfl (.inl rfl) (pe_op op_add (pe_p D2 (pv 2) U.cl hr) (pe_op op_mul (pe_p D1 (pv 2) U.cl hr) (pv 1))))))
      (pss_one (ps_ret (pv 1))))), ?_⟩
    have hln := Paired.length c.cells
    have hd : great (rows.drop (rows.length - 0)) = 0 := by
      rw [Nat.sub_zero, List.drop_length]
      rfl
    refine ⟨_, rfl, p, S, dx, _, _, rfl, c.ins, T.cl, T.nL, rfl, la, _, rfl, sqL_of c.la, fun r nr => ⟨r, rfl, ⟨_, sqL_of upd_same⟩, for_list (K := K) (a := r) (xs := (refs ps).reverse)
      (fun i σ H3 => ∃ y : Option V, σ = [some (.ref p), some (vi (great (rows.drop (rows.length - i)))), y] ∧ H3 = upd H r (.lst (refs ps).reverse)) ⟨none, by rw [hd]; rfl, rfl⟩ (fun i σ H3 _ ⟨_, _, e⟩ => by rw [e]; exact sqL_of upd_same) ?_ ?_⟩⟩
    · rintro i x σ H3 hi ⟨y, rfl, rfl⟩
      obtain ⟨j, hj, hx⟩ := rev_at hi
      obtain ⟨cp, row, rfl, hp, hrow, cell0⟩ := c.cells.at_ hx
      have cell := cell0.same (same_new nr (o := .lst (refs ps).reverse))
      have ok := cell.ok
      have cell2 := cell
      obtain ⟨dx2, tb, am, kn, kvs, kns, cc⟩ := cell2
      refine ⟨_, rfl, cp, _, _, rfl, cc.ins, cp, row, rfl, cell, ?_⟩
      refine ⟨_, rfl, cp, _, _, rfl, cc.ins, cp, row, rfl, cell, _, rfl, _, _, rfl, rfl, .inl (small64 ok.ten), _, _, rfl, rfl, ?_⟩
      refine ⟨some (.ref cp), ?_, rfl⟩
      rw [List.length_map] at hj
      have e1 : rows.length - i = j + 1 := by omega
      have e2 : rows.length - (i + 1) = j := by omega
      rw [e1, e2, great_step hrow]
      rfl
    · rintro σ H3 ⟨y, rfl, rfl⟩
      refine ⟨_, rfl, ?_⟩
      have e : rows.length - (refs ps).reverse.length = 0 := by
        rw [List.length_reverse, List.length_map, hln, Nat.sub_self]
      rw [e, List.drop_zero]
      exact q _ (same_new nr)
theorem okStar {k : Nat} {x q : Str} {st : Stmt} {N : List Str} {sp : Sp} (F : Fn0 K x q st f fd) (S : FnScope N ["self", "cells"] (defScope st))
    (hb : ∀ (kV doc pm : Value) (an : Option Addr) (cdv ct : Value) (us rest : List Value), us.length = ([("self" : Str)]).length → bindArgs (PySem.W.fnOf x q (defArgs st) (defBody st) (defScope st) .none kV doc pm an cdv ct) ⟨us ++ rest, []⟩ =
      (newTuple rest >>= fun t => pure ([("self" : Str)].zip us ++ [(("cells" : Str), t)])))
    (hbody : ∀ (cdv : Value) (A : Around) (outer : List Env) (s : Shared) (H : Hp) (vs : List V) (Q : VK) (E : XK), Room k (A.deeper (envOfC q (defScope st) s.heap.objs.size f cdv)) → sp vs H Q E →
      ∃ t, PSs (cxOf CX0 P w K mg base N q (defScope st) f cdv A outer s H E) (defBody st) t ∧ t { nx := fun _ H' => Q .non H', rt := Q } (start N vs) H) :
    FnR P w K mg base CX0 (k + 1) f (spStar sp) := by
  obtain ⟨oc, od, dV, kV, doc, pm, an, cdv, ct, osl, rfl, lk, hcd, hD, hK⟩ := F.ex
  rcases hD with ⟨_, rfl⟩ | ⟨e, _⟩
  · exact StX.fn_star (ps := ["self"]) lk hcd S StX.cxUp_none (hb kV doc pm an cdv ct) fun A outer s H vs Q E hr hsp => hbody cdv A outer s H vs Q E hr hsp
  · exact absurd rfl e
theorem ok_Spush (B : Bt mg) (T : StT K mg S) (U : ClT K mg C) (F : Fn0 K "push" "Stack.push" sSpush f fd) (D1 : DOk P w K mg base 1 "check_cells" ["values"] (spCells C)) :
    FnR P w K mg base CX0 2 f (spStar (spPush C S)) := by
  refine okStar F scSpush (fun kV doc pm an cdv ct us rest hl => by
    match us, rest, hl with
    | [a], [], _ => rfl
    | [a], r :: rs, _ => rfl) fun cdv A outer s H vs Q E hr h => ?_
  obtain ⟨p, t, dx, la, ps, cs, rows, rows2, rfl, ht, c, c2, hl, q⟩ := h
  obtain ⟨u1, mh⟩ := T.mh
  refine ⟨_, PSs.nox (pss_cons (ps_expr (pe_d D1 hr (by rfl) (pa_cons (pv 1) pa_nil)))
    (pss_cons (ps_if (pt_cmpR op_gt (pe_op op_add (pe_callB call_len (by rfl) B.len boot_len (pa_cons (pe_fld (pv 0) rfl) pa_nil)) (pe_callB call_len (by rfl) B.len boot_len (pa_cons (pv 1) pa_nil)))
        (ClX.pe_cval (pe_glob (v := .ref S) (by rfl) T.mgS rfl) (by rfl)) (nomark _)) (pss_one ps_never) pss_nil)
    (pss_one (ps_expr (pe_bm PySem.F.plainAttrs_list PySem.F.slot_list_extend PySem.F.type_list_extend mt_extT (pe_fld (pv 0) rfl) (pa_cons (pv 1) pa_nil)))))), ?_⟩
  have l1 := Paired.length c.cells
  have l2 := Paired.length c2
  refine ⟨_, rfl, t, cs, rows2, rfl, ht, c2, fun H1 s1 => ?_⟩
  have c1 := c.same s1
  have ht1 := s1 _ _ ht
  refine ⟨_, rfl, p, S, dx, _, _, rfl, c1.ins, T.cl, T.nL, rfl, .ref la, ps.length, rfl, .inl ⟨_, sqL_of c1.la, (List.length_map ..).symm⟩, ?_⟩
  refine ⟨_, rfl, .ref t, cs.length, rfl, .inr ⟨_, sqT_of ht1, (List.length_map ..).symm⟩, _, _, rfl, rfl, ?_⟩
  refine ⟨S, _, _, u1, rfl, T.rd, mh, _, _, rfl, rfl, _, rfl, ?_⟩
  refine ite2 (fun z => ?_) (fun _ => ?_)
  · have := of_decide_eq_true z
    omega
  · refine ⟨_, rfl, p, S, dx, _, _, rfl, c1.ins, T.cl, T.nL, rfl, .inl ⟨rfl, _, sqL_of c1.la⟩, _, rfl, la, t, _, _, rfl, rfl, c1.la, sqT_of ht1, ?_, ?_⟩
    · rw [List.length_map, List.length_map]
      exact Nat.le_of_lt (small1000 (by omega))
    · have x1 : SameX la H1 (upd H1 la (.lst (refs ps ++ refs cs))) := sameX_upd
      have nc : NotCell C H1 la := .inr ⟨_, c1.la⟩
      refine q _ ((Same.x s1 la).trans x1) ⟨x1 _ _ ?_ c1.ins, ?_, paired_app (c1.cells.sx nc x1) ((c2.same s1).sx nc x1)⟩
      · rintro rfl
        exact absurd (c1.ins.symm.trans c1.la) (by intro z; cases z)
      · rw [upd_same]
        unfold refs
        rw [List.map_append]
theorem ok_Sinit (T : StT K mg S) (U : ClT K mg C) {g : Addr} (F : Fn0 K "__init__" "Stack.__init__" sSinit f fd) (G : FnR P w K mg base CX0 2 g (spStar (spPush C S))) (M : BMeth K S "push" g) :
    FnR P w K mg base CX0 3 f (spStar (spSInit C S)) := by
  refine okStar F scSinit (fun kV doc pm an cdv ct us rest hl => by
    match us, rest, hl with
    | [a], [], _ => rfl
    | [a], r :: rs, _ => rfl) fun cdv A outer s H vs Q E hr h => ?_
  obtain ⟨p, t, dx, cs, rows, rfl, hp, ht, c2, hl, q⟩ := h
  refine ⟨_, PSs.nox (pss_cons (ps_fld (pv 0) (pe_lst pa_nil) rfl) (pss_one (ps_expr (pe_methS (pv 0) T.cl M G hr pass0 (pv 1))))), ?_⟩
  have l2 := Paired.length c2
  refine ⟨Nat.zero_le _, fun la nla => ⟨_, rfl, p, S, dx, [], rfl, same_new nla _ _ hp, T.cl, T.nL, by decide, ?_⟩⟩
  have npl : p ≠ la := ne_of_none hp nla
  have xp : SameX p H (upd (upd H la (.lst [])) p (.ins S dx (putF "layers" (.ref la) []))) := fun b x n e => by
    rw [upd_ne n, upd_ne (ne_of_none e nla)]
    exact e
  have nc : NotCell C H p := .inl ⟨S, dx, [], hp, by decide⟩
  generalize hH2 : upd (upd H la (.lst [])) p (.ins S dx (putF "layers" (.ref la) [])) = H2 at xp ⊢
  have hp2 : H2 p = some (.ins S dx [("layers", .ref la)]) := by
    rw [← hH2, upd_same]
    rfl
  have hla2 : H2 la = some (.lst []) := by
    rw [← hH2, upd_ne (Ne.symm npl), upd_same]
  have ntp : t ≠ p := by
    rintro rfl
    exact absurd (ht.symm.trans hp) (by intro z; cases z)
  have ht2 := xp _ _ ntp ht
  have c3 := c2.sx nc xp
  refine ⟨_, rfl, p, dx, _, rfl, hp2, rfl, fun m nm => ⟨_, rfl, t, _, rfl, sqT_of (same_new nm _ _ ht2), upd_same, ?_⟩⟩
  refine ⟨[.ref p], refs cs, rfl, rfl, by rw [List.length_map, l2]; exact Nat.le_of_lt (small1000 (by omega)), fun t2 nt2 => ?_⟩
  have sm : Same H2 (upd (upd H2 m (.met g p)) t2 (.tup (refs cs))) := fun b x z => by
    have z1 := same_new nm (o := .met g p) b x z
    exact same_new nt2 b x z1
  refine ⟨p, t2, dx, la, [], cs, [], rows, rfl, upd_same, ⟨sm _ _ hp2, sm _ _ hla2, .nil⟩, c3.same sm, by rw [List.length_nil]; omega, fun H' sx st => ?_⟩
  refine q H' (fun b x n e => ?_) ⟨dx, la, cs, nla, st⟩
  exact sx b x (ne_of_none e nla) (sm _ _ (xp _ _ n e))
end
end Tf
/-! ### the class Stack: remainders, ranks, composed pairs -/
namespace Tf
open PySem PySem.Spec PyProof.Rows L2
section
variable {P : Program} {w : World} {K : Fg} {mg : Str → Option Value} {base : Heap} {f C S : Addr} {fd : FuncData}
theorem ok_Srems (T : StT K mg S) (U : ClT K mg C) (F : Fn0 K "remainders" "Stack.remainders" sSremainders f fd) (D1 : POk P w K mg base 1 C "modulus" (spGet C fun row => row.1)) :
    FnOk P w K mg base CX0 3 f fd ["self", "x"] (spRems C S) := by
  refine F.ok scSremainders (fun vs H Q E h => ?_) (fun cdv A outer s H vs Q E hr h => ?_)
  · obtain ⟨p, rows, x, rfl, _⟩ := h
    rfl
  · obtain ⟨p, rows, x, rfl, ⟨dx, la, ps, c⟩, hl, q⟩ := h
    refine ⟨_, PSs.nox (pss_cons (ps_par (i := 2) (j := 3) rfl scSremainders.nd rfl rfl (by decide) rfl rfl (pa_cons (pe_lst pa_nil) (pa_cons (pv 1) pa_nil)) (by rfl))
      (pss_cons (ps_for PassesOwn.never rfl (pi_list (pe_fld (pv 0) rfl)) (pg_name (i := 4) scSremainders.nd rfl (.inl rfl))
        (pss_cons (ps_expr (pe_bm PySem.F.plainAttrs_list PySem.F.slot_list_append PySem.F.type_list_append mt_append (pv 2) (pa_cons (pe_op op_mod (pv 3) (pe_p D1 (pv 4) U.cl hr)) pa_nil)))
        (pss_one (ps_set (i := 3) scSremainders.nd rfl (.inl rfl) (pe_op op_fdiv (pv 3) (pe_p D1 (pv 4) U.cl hr))))))
      (pss_one (ps_ret (pe_tup (pa_cons (pv 2) (pa_cons (pv 3) pa_nil))))))), ?_⟩
    have hln := Paired.length c.cells
    refine ⟨Nat.zero_le _, fun o no => ⟨_, rfl, _, _, rfl, ?_⟩⟩
    have s0 : Same H (upd H o (.lst [])) := same_new no
    refine ⟨_, rfl, p, S, dx, _, _, rfl, s0 _ _ c.ins, T.cl, T.nL, rfl, la, rfl, ⟨_, sqL_of (s0 _ _ c.la)⟩, for_list (K := K) (a := la) (xs := refs ps)
      (fun i σ H3 => ∃ y : Option V, σ = [some (.ref p), some (vi x), some (.ref o), some (vi (restN (rows.take i) x)), y] ∧ Same H H3 ∧ H3 o = some (.lst (vis ((rems rows x).take i))))
      ⟨none, rfl, s0, upd_same⟩ (fun i σ H3 _ ⟨_, _, e, _⟩ => sqL_of (e _ _ c.la)) ?_ ?_⟩
    · rintro i z σ H3 hi ⟨y, rfl, s3, ho⟩
      obtain ⟨cp, row, rfl, hp, hrow, cell0⟩ := c.cells.at_ hi
      have cell := cell0.same s3
      have ok := cell.ok
      have hN : (0 : Int) < (row.1 : Int) := Int.natCast_pos.mpr ok.pos
      have h10 := ok.ten
      have hi2 : i < rows.length := (List.getElem?_eq_some_iff.mp hrow).1
      have ne : cp ≠ o := by
        obtain ⟨dx2, tb, am, kn, kvs, kns, cc⟩ := cell0
        exact ne_of_none cc.ins no
      have cell2 := cell
      obtain ⟨dx2, tb, am, kn, kvs, kns, cc⟩ := cell2
      refine ⟨_, rfl, .inl ⟨rfl, _, sqL_of ho⟩, _, rfl, _, rfl, cp, _, _, rfl, cc.ins, cp, row, rfl, cell, _, _, rfl, rfl, hN, o, _, _, rfl, rfl, ho, ?_, ?_⟩
      · rw [vis_len, List.length_take, rems_len]
        exact small1000 (Nat.le_trans (Nat.min_le_left _ _) (by omega))
      · have s4 : Same H (upd H3 o (.lst (vis ((rems rows x).take i) ++ [.int ((restN (rows.take i) x : Nat) % (row.1 : Nat))]))) := same_own s3 no
        have cell4 := cell0.same s4
        have cell5 := cell4
        obtain ⟨dx3, tb3, am3, kn3, kvs3, kns3, cc3⟩ := cell5
        refine ⟨_, rfl, _, rfl, cp, _, _, rfl, cc3.ins, cp, row, rfl, cell4, _, _, rfl, rfl, ⟨hN, by show (row.1 : Int) < 1073741824; omega⟩, ?_⟩
        refine ⟨some (.ref cp), ?_, s4, ?_⟩
        · rw [restN_step rows x i row hrow]
          rfl
        · rw [upd_same, List.take_add_one, rems_at rows x i row hrow]
          unfold vis
          rw [List.map_append]
          rfl
    · rintro σ H3 ⟨y, rfl, s3, ho⟩
      have e : rows.take (refs ps).length = rows := by rw [List.length_map, hln, List.take_length]
      have e2 : (rems rows x).take (refs ps).length = rems rows x := by rw [List.length_map, hln, ← rems_len rows x, List.take_length]
      rw [e]
      rw [e2] at ho
      refine ⟨_, rfl, _, rfl, by show 2 ≤ sizeLine; decide, fun t nt => ?_⟩
      exact q t o _ (fun b z e => same_new nt b z (s3 b z e)) upd_same (same_new nt _ _ ho)
theorem ok_Sfrom (B : Bt mg) (T : StT K mg S) (U : ClT K mg C) (F : Fn0 K "from_remainders" "Stack.from_remainders" sSfrom_remainders f fd) (D1 : POk P w K mg base 1 C "modulus" (spGet C fun row => row.1)) :
    FnOk P w K mg base CX0 3 f fd ["self", "remainders", "rest"] (spFrom C S) := by
  refine F.ok scSfrom_remainders (fun vs H Q E h => ?_) (fun cdv A outer s H vs Q E hr h => ?_)
  · obtain ⟨p, l, rows, rs, z, rfl, _⟩ := h
    rfl
  · obtain ⟨p, l, rows, rs, z, rfl, ⟨dx, la, ps, c⟩, hL, hl, q⟩ := h
    refine ⟨_, PSs.nox (pss_cons (ps_set (i := 3) scSfrom_remainders.nd rfl (.inl rfl) (pv 2))
      (pss_cons (ps_for PassesOwn.never rfl (pi_list (pe_revL (pe_lstZip rfl (by rfl) B.list (by rfl) B.zip (pa_cons (pe_fld (pv 0) rfl) (pa_cons (pv 1) pa_nil)))))
          (pg_tup rfl (pgs_cons (pg_name (i := 4) scSfrom_remainders.nd rfl (.inl rfl)) (pgs_cons (pg_name (i := 5) scSfrom_remainders.nd rfl (.inl rfl)) pgs_nil)))
        (pss_one (ps_set (i := 3) scSfrom_remainders.nd rfl (.inl rfl) (pe_op op_add (pv 5) (pe_op op_mul (pe_p D1 (pv 4) U.cl hr) (pv 3))))))
      (pss_one (ps_ret (pv 3))))), ?_⟩
    have hln := Paired.length c.cells
    refine ⟨_, rfl, ?_⟩
    refine ⟨_, rfl, p, S, dx, _, _, rfl, c.ins, T.cl, T.nL, rfl, _, rfl, la, l, _, _, rfl, sqL_of c.la, sqL_of hL, ?_, fun zp ts H1 s1 nz hz lz hT => ?_⟩
    · rw [List.length_map, vis_len, hln, hl]
    refine ⟨zp, _, rfl, sqL_of hz, fun r nr => ?_⟩
    have s2 : Same H (upd H1 r (.lst (refs ts).reverse)) := fun b x e => same_new nr b x (s1 b x e)
    rw [List.length_map] at lz
    have hd : glue (rows.drop (rows.length - 0)) (rs.drop (rows.length - 0)) z = z := by
      rw [Nat.sub_zero, List.drop_length]
      rfl
    refine ⟨r, rfl, ⟨_, sqL_of upd_same⟩, for_list (K := K) (a := r) (xs := (refs ts).reverse)
      (fun i σ H3 => ∃ y1 y2 : Option V, σ = [some (.ref p), some (.ref l), some (vi z), some (vi (glue (rows.drop (rows.length - i)) (rs.drop (rows.length - i)) z)), y1, y2] ∧ H3 = upd H1 r (.lst (refs ts).reverse))
      ⟨none, none, by rw [hd]; rfl, rfl⟩ (fun i σ H3 _ ⟨_, _, _, e⟩ => by rw [e]; exact sqL_of upd_same) ?_ ?_⟩
    · rintro i x σ H3 hi ⟨y1, y2, rfl, rfl⟩
      obtain ⟨j, hj, hx⟩ := rev_at hi
      rw [List.length_map] at hj
      have hjr : j < rows.length := by omega
      obtain ⟨row, hrow⟩ : ∃ row, rows[j]? = some row := ⟨_, List.getElem?_eq_getElem hjr⟩
      obtain ⟨rr, hrr⟩ : ∃ rr, rs[j]? = some rr := ⟨_, List.getElem?_eq_getElem (by omega)⟩
      obtain ⟨cp, hcp⟩ : ∃ cp, ps[j]? = some cp := ⟨_, List.getElem?_eq_getElem (by omega)⟩
      have hx1 : (refs ps)[j]? = some (.ref cp) := by
        rw [List.getElem?_map, hcp]
        rfl
      obtain ⟨TT, hTT, hTv⟩ := hT j (.ref cp) (vi rr) hx1 (vis_get hrr)
      have hx2 : (refs ts)[j]? = some (.ref TT) := by
        rw [List.getElem?_map, hTT]
        rfl
      rw [hx] at hx2
      cases hx2
      obtain ⟨cp2, row2, e1, hp2, hrow2, cell0⟩ := c.cells.at_ hx1
      cases e1
      rw [hrow] at hrow2
      cases hrow2
      have cell := cell0.same s2
      have ok := cell.ok
      have cell2 := cell
      obtain ⟨dx2, tb, am, kn, kvs, kns, cc⟩ := cell2
      refine ⟨TT, _, rfl, sqT_of (same_new nr _ _ hTv), rfl, _, _, rfl, _, _, rfl, rfl, ?_⟩
      refine ⟨_, rfl, _, rfl, cp, _, _, rfl, cc.ins, cp, row, rfl, cell, _, rfl, _, _, rfl, rfl, .inl (small64 ok.ten), _, _, rfl, rfl, ?_⟩
      refine ⟨some (.ref cp), some (vi rr), ?_, rfl⟩
      have e1 : rows.length - i = j + 1 := by omega
      have e2 : rows.length - (i + 1) = j := by omega
      rw [e1, e2, glue_step hrow hrr]
      rfl
    · rintro σ H3 ⟨y1, y2, rfl, rfl⟩
      refine ⟨_, rfl, ?_⟩
      have e : rows.length - (refs ts).reverse.length = 0 := by
        rw [List.length_reverse, List.length_map]
        omega
      rw [e, List.drop_zero, List.drop_zero]
      exact q _ s2
theorem ok_Srank (B : Bt mg) (T : StT K mg S) (U : ClT K mg C) (F : Fn0 K "rank" "Stack.rank" sSrank f fd) (D0 : DOk P w K mg base 2 "check_count" ["value"] spCount)
    (D1 : MOk P w K mg base 3 S "remainders" ["self", "x"] (spRems C S)) (D2 : DOk P w K mg base 3 "base_rank" ["x"] spRkOf) (D3 : DOk P w K mg base 3 "in_base" ["x"] spInBase)
    (D4 : POk P w K mg base 1 C "size" (spGet C fun row => row.2.length)) (D5 : POk P w K mg base 1 C "members" (spMembers C)) (D6 : MOk P w K mg base 3 C "has" ["self", "remainder"] (spHas C)) :
    FnOk P w K mg base CX0 4 f fd ["self", "x"] (spRank C S) := by
  refine F.ok scSrank (fun vs H Q E h => ?_) (fun cdv A outer s H vs Q E hr h => ?_)
  · obtain ⟨p, rows, x, rfl, _⟩ := h
    rfl
  · obtain ⟨p, rows, x, rfl, st, hl, hx, hpl, q⟩ := h
    have hr2 : Room 2 _ := hr.mono (by decide)
    refine ⟨_, PSs.nox (pss_cons (ps_expr (pe_d D0 hr2 (by rfl) (pa_cons (pv 1) pa_nil)))
      (pss_cons (ps_asg (pe_m D1 (pv 0) T.cl hr (pa_cons (pv 1) pa_nil)) (pg_tup rfl (pgs_cons (pg_name (i := 2) scSrank.nd rfl (.inl rfl)) (pgs_cons (pg_name (i := 3) scSrank.nd rfl (.inl rfl)) pgs_nil))))
      (pss_cons (ps_par (i := 4) (j := 5) rfl scSrank.nd rfl rfl (by decide) rfl rfl (pa_cons (pe_d D2 hr (by rfl) (pa_cons (pv 3) pa_nil)) (pa_cons (pe_d D3 hr (by rfl) (pa_cons (pv 3) pa_nil)) pa_nil)) (by rfl))
      (pss_cons (ps_for PassesOwn.never rfl (pi_list (pe_revL (pe_lstZip rfl (by rfl) B.list (by rfl) B.zip (pa_cons (pe_fld (pv 0) rfl) (pa_cons (pv 2) pa_nil)))))
          (pg_tup rfl (pgs_cons (pg_name (i := 6) scSrank.nd rfl (.inl rfl)) (pgs_cons (pg_name (i := 7) scSrank.nd rfl (.inr rfl)) pgs_nil)))
        (pss_cons (ps_set (i := 4) scSrank.nd rfl (.inl rfl) (pe_op op_mul (pv 4) (pe_p D4 (pv 6) U.cl hr2)))
        (pss_cons (ps_if (pt_val (pv 5)) (pss_one (ps_aug (i := 4) scSrank.nd rfl (.inl rfl) (pe_callB call_len (by rfl) B.len boot_len (pa_cons
            (pe_lc (own := [("member", 8)]) rfl scSrank.nd (pi_tup (pe_p D5 (pv 6) U.cl hr2)) (blkOk_by (N := nnSrank) (sc := defScope sSrank) (by decide +kernel)) (fun _ _ _ _ _ => pg_name (i := 8) scSrank.nd rfl (.inl rfl))
              (fun _ _ _ _ _ => pts_one (pt_cmp (pc_lt (pv 8) (pv 7)))) (fun _ _ _ _ _ => pv 8)) pa_nil)) ip_add)) pss_nil)
        (pss_one (ps_set (i := 5) scSrank.nd rfl (.inl rfl) (pe_and (pv 5) (pe_one (pe_m D6 (pv 6) U.cl hr (pa_cons (pv 7) pa_nil)))))))))
      (pss_one (ps_ret (pv 4))))))), ?_⟩
    have st0 := st
    obtain ⟨dx, la, ps, c⟩ := st0
    have hln := Paired.length c.cells
    refine ⟨_, rfl, x, rfl, ?_⟩
    refine ⟨_, rfl, p, dx, _, rfl, c.ins, rfl, _, rfl, p, rows, x, rfl, st, hl, fun t l H1 s1 ht hL => ?_⟩
    refine ⟨t, _, rfl, sqT_of ht, rfl, _, _, rfl, _, _, rfl, rfl, ?_⟩
    have hq : restN rows x < 2 ^ 1000 := Nat.lt_of_le_of_lt (restN_le _ _) hx
    refine ⟨_, rfl, _, rfl, hq, hpl, fun H2 s2 => ⟨_, rfl, _, rfl, hq, fun H3 s3 => ⟨_, _, rfl, ?_⟩⟩⟩
    have s03 : Same H H3 := fun b z e => s3 b z (s2 b z (s1 b z e))
    have c3 := c.same s03
    have hL3 := s3 _ _ (s2 _ _ hL)
    refine ⟨_, rfl, p, S, dx, _, _, rfl, c3.ins, T.cl, T.nL, rfl, _, rfl, la, l, _, _, rfl, sqL_of c3.la, sqL_of hL3, ?_, fun zp ts H4 s4 nz hz lz hT => ?_⟩
    · rw [List.length_map, vis_len, hln, rems_len]
    refine ⟨zp, _, rfl, sqL_of hz, fun r nr => ?_⟩
    have s5 : Same H (upd H4 r (.lst (refs ts).reverse)) := fun b x e => same_new nr b x (s4 b x (s03 b x e))
    rw [List.length_map] at lz
    have hrow0 : rankF (rows.drop (rows.length - 0)) (restN (rows.take (rows.length - 0)) x) = (rk (restN rows x), isPl (restN rows x)) := by
      rw [Nat.sub_zero, List.drop_length, List.take_length]
      rfl
    refine ⟨r, rfl, ⟨_, sqL_of upd_same⟩, for_list (K := K) (a := r) (xs := (refs ts).reverse)
      (fun i σ H6 => ∃ y1 y2 : Option V, σ = [some (.ref p), some (vi x), some (.ref l), some (vi (restN rows x)), some (vi (rankF (rows.drop (rows.length - i)) (restN (rows.take (rows.length - i)) x)).1),
          some (.bl (rankF (rows.drop (rows.length - i)) (restN (rows.take (rows.length - i)) x)).2), y1, y2, none] ∧ Same (upd H4 r (.lst (refs ts).reverse)) H6)
      ⟨none, none, by rw [hrow0]; rfl, fun _ _ e => e⟩ (fun i σ H3 _ ⟨_, _, _, e⟩ => sqL_of (e _ _ upd_same)) ?_ ?_⟩
    · rintro i z σ H6 hi ⟨y1, y2, rfl, s6⟩
      obtain ⟨j, hj, hx2⟩ := rev_at hi
      rw [List.length_map] at hj
      have hjr : j < rows.length := by omega
      obtain ⟨row, hrow⟩ : ∃ row, rows[j]? = some row := ⟨_, List.getElem?_eq_getElem hjr⟩
      obtain ⟨cp, hcp⟩ : ∃ cp, ps[j]? = some cp := ⟨_, List.getElem?_eq_getElem (by omega)⟩
      have hx1 : (refs ps)[j]? = some (.ref cp) := by
        rw [List.getElem?_map, hcp]
        rfl
      have hrr := rems_at rows x j row hrow
      obtain ⟨TT, hTT, hTv⟩ := hT j (.ref cp) _ hx1 (vis_get hrr)
      have hx3 : (refs ts)[j]? = some (.ref TT) := by
        rw [List.getElem?_map, hTT]
        rfl
      rw [hx2] at hx3
      cases hx3
      obtain ⟨cp2, row2, e1, hp2, hrow2, cell0⟩ := c.cells.at_ hx1
      cases e1
      rw [hrow] at hrow2
      cases hrow2
      have cell := (cell0.same s5).same s6
      have ok := cell.ok
      have h4 := ok.four
      have hlt : restN (rows.take j) x % row.1 < row.1 := Nat.mod_lt _ ok.pos
      have e1 : rows.length - i = j + 1 := by omega
      have e2 : rows.length - (i + 1) = j := by omega
      rw [e1, e2, rank_step hrow]
      generalize rankF (rows.drop (j + 1)) (restN (rows.take (j + 1)) x) = ff
      generalize restN (rows.take j) x % row.1 = rr at hTv hlt ⊢
      obtain ⟨fo, eq⟩ := ff
      have cell2 := cell
      obtain ⟨dx2, tb, am, kn, kvs, kns, cc⟩ := cell2
      refine ⟨TT, _, rfl, sqT_of (s6 _ _ (same_new nr _ _ hTv)), rfl, _, _, rfl, _, _, rfl, rfl, ?_⟩
      refine ⟨_, rfl, _, rfl, cp, _, _, rfl, cc.ins, cp, row, rfl, cell, _, _, rfl, rfl, .inr (small64 (by show row.2.length ≤ 10; omega)), ?_⟩
      refine ⟨_, rfl, eq, rfl, ?_⟩
      cases eq with
      | true =>
        refine iteT ?_
        refine ⟨_, rfl, _, rfl, cp, _, _, rfl, cc.ins, cp, row, rfl, cell, fun a ha => ⟨a, rfl, ⟨_, sqT_of ha⟩, fun D nD => ?_⟩⟩
        refine lc_tup (K := K) (a := a) (xs := vis row.2) (fun i H7 => Same H6 H7 ∧ H7 D = some (.lst (vis ((row.2.take i).filter fun a => decide (a < rr)))))
          ⟨same_new nD, by rw [upd_same]; rfl⟩ (fun i H7 _ e => sqT_of (e.1 _ _ ha)) ?_ ?_
        · rintro m v H7 hm ⟨s7, h7⟩
          obtain ⟨d, hd, rfl⟩ := vis_at hm
          refine ⟨rfl, _, rfl, _, rfl, _, _, rfl, rfl, _, rfl, ?_⟩
          have e0 : decide ((d : Int) < (rr : Int)) = decide (d < rr) := by
            by_cases z : d < rr
            · rw [decide_eq_true z, decide_eq_true (Int.ofNat_lt.mpr z)]
            · rw [decide_eq_false z, decide_eq_false fun y => z (Int.ofNat_lt.mp y)]
          have et : (row.2.take (m + 1)).filter (fun a => decide (a < rr)) = (row.2.take m).filter (fun a => decide (a < rr)) ++ if d < rr then [d] else [] := by
            rw [List.take_add_one, hd, List.filter_append]
            by_cases z : d < rr
            · simp [z]
            · simp [z]
          refine ite2 (fun z => ?_) (fun z => ?_)
          · have z2 : d < rr := Int.ofNat_lt.mp (of_decide_eq_true z)
            rw [if_pos z2] at et
            refine ⟨_, rfl, _, h7, ?_, same_own s7 nD, ?_⟩
            · rw [vis_len]
              exact small1000 (Nat.le_trans (List.length_filter_le _ _) (by rw [List.length_take]; omega))
            · rw [upd_same, et]
              unfold vis
              rw [List.map_append]
              rfl
          · have z2 : ¬ d < rr := fun y => z (decide_eq_true (Int.ofNat_lt.mpr y))
            rw [if_neg z2, List.append_nil] at et
            exact ⟨s7, by rw [et]; exact h7⟩
        · rintro H7 ⟨s7, h7⟩
          rw [vis_len, List.take_length] at h7
          refine ⟨.ref D, _, rfl, .inl ⟨_, sqL_of h7, rfl⟩, _, _, rfl, rfl, ?_⟩
          have cell7 := cell.same s7
          refine ⟨_, rfl, true, rfl, iteT ?_⟩
          refine ⟨_, rfl, cp, dx2, _, rfl, s7 _ _ cc.ins, rfl, _, rfl, cp, row, rr, rfl, cell7, hlt, ?_⟩
          refine ⟨some (.ref cp), some (vi rr), ?_, fun b z e => s7 b z (s6 b z e)⟩
          rw [if_pos rfl, ← vis_len ((row.2.filter fun a => decide (a < rr)))]
          rfl
      | false =>
        refine iteF ?_
        refine ⟨_, rfl, false, rfl, iteF ?_⟩
        refine ⟨some (.ref cp), some (vi rr), ?_, s6⟩
        rw [if_neg (fun z => by cases z), Nat.add_zero]
        rfl
    · rintro σ H6 ⟨y1, y2, rfl, s6⟩
      refine ⟨_, rfl, ?_⟩
      have e : rows.length - (refs ts).reverse.length = 0 := by
        rw [List.length_reverse, List.length_map]
        omega
      rw [e]
      exact q _ fun b z e => s6 b z (s5 b z e)
theorem ok_Scomp (T : StT K mg S) (U : ClT K mg C) (F : Fn0 K "composed_pair" "Stack.composed_pair" sScomposed_pair f fd) (D0 : DOk P w K mg base 2 "check_count" ["value"] spCount)
    (D1 : POk P w K mg base 1 C "modulus" (spGet C fun row => row.1)) (D2 : MOk P w K mg base 3 C "has" ["self", "remainder"] (spHas C)) (D3 : MOk P w K mg base 4 C "serving_pair" ["self", "remainder"] (spSrv C))
    (D4 : MOk P w K mg base 4 C "carry" ["self", "remainder"] (spCarry C)) (D5 : DOk P w K mg base 3 "plain_pair" ["m"] spPair) (D6 : MOk P w K mg base 3 S "from_remainders" ["self", "remainders", "rest"] (spFrom C S)) :
    FnOk P w K mg base CX0 5 f fd ["self", "x"] (spComp C S) := by
  refine F.ok scScomposed_pair (fun vs H Q E h => ?_) (fun cdv A outer s H vs Q E hr h => ?_)
  · obtain ⟨p, rows, x, rfl, _⟩ := h
    rfl
  · obtain ⟨p, rows, x, rfl, ⟨dx, la, ps, c⟩, hl, hx, q⟩ := h
    have hr2 : Room 2 _ := hr.mono (by decide)
    have hr3 : Room 3 _ := hr.mono (by decide)
    have hln := Paired.length c.cells
    refine ⟨_, PSs.nox (pss_cons (ps_expr (pe_d D0 hr2 (by rfl) (pa_cons (pv 1) pa_nil)))
      (pss_cons (ps_par3 (i := 2) (j := 3) (l := 4) rfl scScomposed_pair.nd rfl rfl rfl (by decide) (by decide) (by decide) rfl rfl rfl (pa_cons (pe_lst pa_nil) (pa_cons (pe_lst pa_nil) (pa_cons (pv 1) pa_nil))) (by rfl))
      (pss_cons (ps_for PassesOwn.never rfl (pi_list (pe_fld (pv 0) rfl)) (pg_name (i := 5) scScomposed_pair.nd rfl (.inl rfl))
        (pss_cons (ps_par (i := 6) (j := 4) rfl scScomposed_pair.nd rfl rfl (by decide) rfl rfl (pa_cons (pe_op op_mod (pv 4) (pe_p D1 (pv 5) U.cl hr2)) (pa_cons (pe_op op_fdiv (pv 4) (pe_p D1 (pv 5) U.cl hr2)) pa_nil)) (by rfl))
        (pss_cons (ps_if (pt_val (pe_m D2 (pv 5) U.cl hr3 (pa_cons (pv 6) pa_nil)))
            (pss_one (ps_set (i := 7) scScomposed_pair.nd rfl (.inl rfl) (pe_tup (pa_cons (pv 6) (pa_cons (pv 6) pa_nil)))))
            (pss_one (ps_par (i := 7) (j := 4) rfl scScomposed_pair.nd rfl rfl (by decide) rfl rfl (pa_cons (pe_m D3 (pv 5) U.cl hr (pa_cons (pv 6) pa_nil)) (pa_cons (pe_op op_sub (pv 4) (pe_m D4 (pv 5) U.cl hr (pa_cons (pv 6) pa_nil))) pa_nil)) (by rfl))))
        (pss_cons (ps_if (pt_cmp (pc_lt (pv 4) pe_int)) (pss_one (ps_ret pe_non)) pss_nil)
        (pss_cons (ps_expr (pe_bm PySem.F.plainAttrs_list PySem.F.slot_list_append PySem.F.type_list_append mt_append (pv 2) (pa_cons (pe_ix ix_tup (pv 7) pe_int (by intro _ _; rfl)) pa_nil)))
        (pss_one (ps_expr (pe_bm PySem.F.plainAttrs_list PySem.F.slot_list_append PySem.F.type_list_append mt_append (pv 3) (pa_cons (pe_ix ix_tup (pv 7) pe_int (by intro _ _; rfl)) pa_nil)))))))))
      (pss_cons (ps_asg (pe_d D5 hr3 (by rfl) (pa_cons (pv 4) pa_nil)) (pg_tup rfl (pgs_cons (pg_name (i := 8) scScomposed_pair.nd rfl (.inl rfl)) (pgs_cons (pg_name (i := 9) scScomposed_pair.nd rfl (.inl rfl)) pgs_nil))))
      (pss_one (ps_ret (pe_tup (pa_cons (pe_m D6 (pv 0) T.cl hr3 (pa_cons (pv 2) (pa_cons (pv 8) pa_nil))) (pa_cons (pe_m D6 (pv 0) T.cl hr3 (pa_cons (pv 3) (pa_cons (pv 9) pa_nil))) pa_nil))))))))), ?_⟩
    refine ⟨_, rfl, x, rfl, Nat.zero_le _, fun lo_ nlo => ⟨Nat.zero_le _, fun up_ nup1 => ⟨_, rfl, _, _, _, rfl, ?_⟩⟩⟩
    have nlu : lo_ ≠ up_ := by
      rintro rfl
      rw [upd_same] at nup1
      cases nup1
    have nup : H up_ = none := by
      rwa [upd_ne (Ne.symm nlu)] at nup1
    have s0 : Same H (upd (upd H lo_ (.lst [])) up_ (.lst [])) := same_own (same_new nlo) nup
    refine ⟨_, rfl, p, S, dx, _, _, rfl, s0 _ _ c.ins, T.cl, T.nL, rfl, la, rfl, ⟨_, sqL_of (s0 _ _ c.la)⟩, for_list (K := K) (a := la) (xs := refs ps)
      (fun i σ H3 => ∃ (lo up : List Nat) (q : Nat) (y5 y6 y7 : Option V), σ = [some (.ref p), some (vi x), some (.ref lo_), some (.ref up_), some (vi q), y5, y6, y7, none, none] ∧ cfwd (rows.take i) x = some (lo, up, q) ∧
        Same H H3 ∧ H3 lo_ = some (.lst (vis lo)) ∧ H3 up_ = some (.lst (vis up)))
      ⟨[], [], x, none, none, none, rfl, rfl, s0, by rw [upd_ne nlu, upd_same]; rfl, by rw [upd_same]; rfl⟩ (fun i σ H3 _ ⟨_, _, _, _, _, _, _, _, e, _⟩ => sqL_of (e _ _ c.la)) ?_ ?_⟩
    · rintro i z σ H3 hi ⟨lo, up, q2, y5, y6, y7, rfl, hf, s3, hlo3, hup3⟩
      obtain ⟨cp, row, rfl, hp, hrow, cell0⟩ := c.cells.at_ hi
      have cell := cell0.same s3
      have ok := cell.ok
      have hi2 : i < rows.length := (List.getElem?_eq_some_iff.mp hrow).1
      have lf := cfwd_le _ _ _ hf
      have l1 : lo.length ≤ 100 := by
        have := lf.2.1
        rw [List.length_take] at this
        have z := Nat.min_le_left i rows.length
        show lo.length ≤ 100
        have e : lo.length = min i rows.length := this
        omega
      have l2 : up.length ≤ 100 := by
        have e : up.length = min i rows.length := by rw [← List.length_take]; exact lf.2.2
        have z := Nat.min_le_left i rows.length
        omega
      have hN : (0 : Int) < (row.1 : Int) := Int.natCast_pos.mpr ok.pos
      have h10 := ok.ten
      have hlt : q2 % row.1 < row.1 := Nat.mod_lt _ ok.pos
      have cell2 := cell
      obtain ⟨dx2, tb, am, kn, kvs, kns, cc⟩ := cell2
      refine ⟨_, rfl, _, rfl, cp, _, _, rfl, cc.ins, cp, row, rfl, cell, _, _, rfl, rfl, hN, ?_⟩
      refine ⟨_, rfl, _, rfl, cp, _, _, rfl, cc.ins, cp, row, rfl, cell, _, _, rfl, rfl, ⟨hN, by show (row.1 : Int) < 1073741824; omega⟩, ?_⟩
      refine ⟨vi (q2 % row.1), vi (q2 / row.1), rfl, ?_⟩
      refine ⟨_, rfl, cp, _, _, rfl, cc.ins, rfl, _, rfl, cp, row, _, rfl, cell, hlt, _, rfl, ?_⟩
      refine ite2 (fun hin => ?_) (fun hin => ?_)
      · have hin2 := List.contains_iff_mem.mp hin
        have hcs : cstep row q2 = some (q2 % row.1, q2 % row.1, q2 / row.1) := by
          unfold cstep
          rw [if_pos hin2]
        refine ⟨_, rfl, _, rfl, by show 2 ≤ sizeLine; decide, fun t nt => ?_⟩
        have s5 : Same H (upd H3 t (.tup [vi (q2 % row.1), vi (q2 % row.1)])) := fun b x e => same_new nt b x (s3 b x e)
        have hlo := same_new nt (o := .tup [vi (q2 % row.1), vi (q2 % row.1)]) _ _ hlo3
        have hup := same_new nt (o := .tup [vi (q2 % row.1), vi (q2 % row.1)]) _ _ hup3
        have ht : upd H3 t (.tup [vi (q2 % row.1), vi (q2 % row.1)]) t = some (.tup [vi (q2 % row.1), vi (q2 % row.1)]) := upd_same
        generalize upd H3 t (.tup [vi (q2 % row.1), vi (q2 % row.1)]) = H5 at s5 hlo hup ht ⊢
        refine ⟨_, rfl, _, _, rfl, rfl, _, rfl, ?_⟩
        refine ite2 (fun z => ?_) (fun _ => ?_)
        · have := of_decide_eq_true z
          have z2 : (0 : Int) ≤ ((q2 / row.1 : Nat) : Int) := Int.natCast_nonneg _
          omega
        refine ⟨_, rfl, .inl ⟨rfl, _, sqL_of hlo⟩, _, rfl, t, _, _, _, rfl, rfl, sqT_of ht, rfl, lo_, _, _, rfl, rfl, hlo, by rw [vis_len]; exact small1000 (by omega), ?_⟩
        have nlt : lo_ ≠ t := by
          rintro rfl
          exact absurd (hlo.symm.trans ht) (by intro z; cases z)
        have x6 : ∀ o, SameX lo_ H5 (upd H5 lo_ o) := fun _ => sameX_upd
        have hup6 := x6 (.lst (vis lo ++ [vi (q2 % row.1)])) _ _ (Ne.symm nlu) hup
        have ht6 := x6 (.lst (vis lo ++ [vi (q2 % row.1)])) _ _ (Ne.symm nlt) ht
        refine ⟨_, rfl, .inl ⟨rfl, _, sqL_of hup6⟩, _, rfl, t, _, _, _, rfl, rfl, sqT_of ht6, rfl, up_, _, _, rfl, rfl, hup6, by rw [vis_len]; exact small1000 (by omega), ?_⟩
        refine ⟨lo ++ [(q2 % row.1)], up ++ [(q2 % row.1)], q2 / row.1, some (.ref cp), some (vi (q2 % row.1)), some (.ref t), rfl, ?_, same_own (same_own s5 nlo) nup, ?_, ?_⟩
        · rw [cfwd_step hrow hf, hcs]
          rfl
        · rw [upd_ne nlu, upd_same]
          unfold vis
          rw [List.map_append]
          rfl
        · rw [upd_same]
          unfold vis
          rw [List.map_append]
          rfl
      · have hin2 : q2 % row.1 ∉ row.2 := fun z => hin (List.contains_iff_mem.mpr z)
        refine ⟨_, rfl, cp, _, _, rfl, cc.ins, rfl, _, rfl, cp, row, _, rfl, cell, hlt, hin2, fun t nt => ?_⟩
        have s5 : Same H (upd H3 t (.tup [vi (srv row (q2 % row.1)).2.1, vi (srv row (q2 % row.1)).2.2])) := fun b x e => same_new nt b x (s3 b x e)
        have hlo := same_new nt (o := .tup [vi (srv row (q2 % row.1)).2.1, vi (srv row (q2 % row.1)).2.2]) _ _ hlo3
        have hup := same_new nt (o := .tup [vi (srv row (q2 % row.1)).2.1, vi (srv row (q2 % row.1)).2.2]) _ _ hup3
        have cell5 := cell.same (same_new nt (o := .tup [vi (srv row (q2 % row.1)).2.1, vi (srv row (q2 % row.1)).2.2]))
        have ht : upd H3 t (.tup [vi (srv row (q2 % row.1)).2.1, vi (srv row (q2 % row.1)).2.2]) t = some (.tup [vi (srv row (q2 % row.1)).2.1, vi (srv row (q2 % row.1)).2.2]) := upd_same
        generalize upd H3 t (.tup [vi (srv row (q2 % row.1)).2.1, vi (srv row (q2 % row.1)).2.2]) = H5 at s5 hlo hup ht cell5 ⊢
        have cell6 := cell5
        obtain ⟨dx2, tb, am, kn, kvs, kns, cc⟩ := cell6
        refine ⟨_, rfl, _, rfl, cp, _, _, rfl, cc.ins, rfl, _, rfl, cp, row, _, rfl, cell5, hlt, hin2, _, _, rfl, rfl, ?_⟩
        by_cases hneg : q2 / row.1 < (srv row (q2 % row.1)).1
        · refine ⟨_, _, rfl, ?_⟩
          refine ⟨_, rfl, _, _, rfl, rfl, _, rfl, ?_⟩
          refine ite2 (fun _ => ?_) (fun z => ?_)
          · have hcs : cstep row q2 = none := by
              unfold cstep
              rw [if_neg hin2, if_pos hneg]
            have hnone : comp rows x = none := cfwd_dead (i := i + 1) (by rw [cfwd_step hrow hf, hcs]; rfl)
            exact q _ _ s5 (by rw [hnone]; rfl)
          · exact absurd (decide_eq_true (by
              show (((q2 / row.1 : Nat) : Int) - ((srv row (q2 % row.1)).1 : Int)) < 0
              omega)) z
        · have hcs : cstep row q2 = some ((srv row (q2 % row.1)).2.1, (srv row (q2 % row.1)).2.2, q2 / row.1 - (srv row (q2 % row.1)).1) := by
            unfold cstep
            rw [if_neg hin2, if_neg hneg]
          refine ⟨.ref t, vi (q2 / row.1 - (srv row (q2 % row.1)).1), ?_, ?_⟩
          · show [V.ref t, V.int (((q2 / row.1 : Nat) : Int) - ((srv row (q2 % row.1)).1 : Int))] = _
            rw [← Int.ofNat_sub (Nat.le_of_not_lt hneg)]
          refine ⟨_, rfl, _, _, rfl, rfl, _, rfl, ?_⟩
          refine ite2 (fun z => ?_) (fun _ => ?_)
          · have := of_decide_eq_true z
            omega
          refine ⟨_, rfl, .inl ⟨rfl, _, sqL_of hlo⟩, _, rfl, t, _, _, _, rfl, rfl, sqT_of ht, rfl, lo_, _, _, rfl, rfl, hlo, by rw [vis_len]; exact small1000 (by omega), ?_⟩
          have nlt : lo_ ≠ t := by
            rintro rfl
            exact absurd (hlo.symm.trans ht) (by intro z; cases z)
          have x6 : ∀ o, SameX lo_ H5 (upd H5 lo_ o) := fun _ => sameX_upd
          have hup6 := x6 (.lst (vis lo ++ [vi (srv row (q2 % row.1)).2.1])) _ _ (Ne.symm nlu) hup
          have ht6 := x6 (.lst (vis lo ++ [vi (srv row (q2 % row.1)).2.1])) _ _ (Ne.symm nlt) ht
          refine ⟨_, rfl, .inl ⟨rfl, _, sqL_of hup6⟩, _, rfl, t, _, _, _, rfl, rfl, sqT_of ht6, rfl, up_, _, _, rfl, rfl, hup6, by rw [vis_len]; exact small1000 (by omega), ?_⟩
          refine ⟨lo ++ [(srv row (q2 % row.1)).2.1], up ++ [(srv row (q2 % row.1)).2.2], q2 / row.1 - (srv row (q2 % row.1)).1, some (.ref cp), some (vi (q2 % row.1)), some (.ref t), rfl, ?_, same_own (same_own s5 nlo) nup, ?_, ?_⟩
          · rw [cfwd_step hrow hf, hcs]
            rfl
          · rw [upd_ne nlu, upd_same]
            unfold vis
            rw [List.map_append]
            rfl
          · rw [upd_same]
            unfold vis
            rw [List.map_append]
            rfl
    · rintro σ H3 ⟨lo, up, q2, y5, y6, y7, rfl, hf, s3, hlo3, hup3⟩
      have e : rows.take (refs ps).length = rows := by rw [List.length_map, hln, List.take_length]
      rw [e] at hf
      obtain ⟨f1, f2, f3⟩ := cfwd_le _ _ _ hf
      refine ⟨_, rfl, q2, rfl, Nat.lt_of_le_of_lt f1 hx, fun t H4 s4 n4 h4 => ?_⟩
      have st4 : StackAt C S H4 p rows := ⟨dx, la, ps, (c.same s3).same s4⟩
      have ins4 := s4 _ _ (s3 _ _ c.ins)
      refine ⟨t, _, rfl, sqT_of h4, rfl, _, _, rfl, _, _, rfl, rfl, ?_⟩
      refine ⟨_, rfl, p, dx, _, rfl, ins4, rfl, _, rfl, _, rfl, p, lo_, rows, lo, plo q2, rfl, st4, s4 _ _ hlo3, f2, fun H6 s6 => ?_⟩
      refine ⟨_, rfl, p, dx, _, rfl, s6 _ _ ins4, rfl, _, rfl, _, rfl, p, up_, rows, up, pup q2, rfl, st4.same s6, s6 _ _ (s4 _ _ hup3), f3, fun H7 s7 => ?_⟩
      refine ⟨by show 2 ≤ sizeLine; decide, fun u nu => q _ _ (fun b z e => same_new nu b z (s7 b z (s6 b z (s4 b z (s3 b z e))))) ?_⟩
      rw [comp_cfwd, hf]
      exact ⟨u, rfl, upd_same⟩
end
end Tf
/-! ### the law's own small defs -/
namespace Tf
open PySem PySem.Spec PyProof.Rows L2
theorem pos2 : (0 : Int) < 2 := by decide
theorem pos3 : (0 : Int) < 3 := by decide
def spLbase : Sp := fun vs H Q _ => ∃ n : Nat, vs = [vi n] ∧ ∀ H', Same H H' → Q (vi (bs n)) H'
def spLisp : Sp := fun vs H Q _ => ∃ n : Nat, vs = [vi n] ∧ Q (.bl (isPl n)) H
def spLplain : Sp := fun vs H Q _ => ∃ n : Nat, vs = [vi n] ∧ ∀ t H', Same H H' → H' t = some (.tup [vi (plo n), vi (pup n)]) → Q (.ref t) H'
/-- one row, rows -/
def RowAt (H : Hp) (t : Addr) (row : Row) : Prop := ∃ m, H t = some (.tup [vi row.1, .ref m]) ∧ H m = some (.tup (vis row.2))
structure RowsAt (H : Hp) (a : Addr) (ts : List Addr) (rows : List Row) : Prop where
  lst : H a = some (.lst (refs ts))
  rows : Paired (RowAt H) ts rows
theorem RowAt.same {H H' : Hp} {t : Addr} {row : Row} (s : Same H H') : RowAt H t row → RowAt H' t row := fun ⟨m, h1, h2⟩ => ⟨m, s _ _ h1, s _ _ h2⟩
theorem RowsAt.same {H H' : Hp} {a : Addr} {ts : List Addr} {rows : List Row} (s : Same H H') (h : RowsAt H a ts rows) : RowsAt H' a ts rows := ⟨s _ _ h.lst, Paired.mapP h.rows fun _ _ => RowAt.same s⟩
theorem RowAt.sx {H H' : Hp} {t d : Addr} {row : Row} (hd : ∀ xs, H d ≠ some (.tup xs)) (s : SameX d H H') : RowAt H t row → RowAt H' t row := fun ⟨m, h1, h2⟩ =>
  ⟨m, s _ _ (fun z => hd _ (z ▸ h1)) h1, s _ _ (fun z => hd _ (z ▸ h2)) h2⟩
theorem LawD.noTup {H : Hp} {d : Addr} (h : LawD H d) : ∀ xs, H d ≠ some (.tup xs) := fun xs e => by
  obtain ⟨x, v, r, hd, _⟩ := h
  exact absurd (hd.symm.trans e) (by intro z; cases z)
theorem LawD.noLst {H : Hp} {d : Addr} (h : LawD H d) : ∀ xs, H d ≠ some (.lst xs) := fun xs e => by
  obtain ⟨x, v, r, hd, _⟩ := h
  exact absurd (hd.symm.trans e) (by intro z; cases z)
theorem RowsAt.lawD {H H' : Hp} {a d : Addr} {ts : List Addr} {rows : List Row} (ld : LawD H d) (s : SameX d H H') (h : RowsAt H a ts rows) : RowsAt H' a ts rows :=
  ⟨s _ _ (fun z => ld.noLst _ (z ▸ h.lst)) h.lst, Paired.mapP h.rows fun _ _ => RowAt.sx ld.noTup s⟩
theorem paired_at {α β : Type} {R : α → β → Prop} : ∀ {a : List α} {b : List β}, Paired R a b → ∀ {i : Nat} {x : α}, a[i]? = some x → ∃ y, b[i]? = some y ∧ R x y
  | _, _, .nil, i, x, h => by cases h
  | _ :: _, _ :: _, .cons c r, 0, x, h => ⟨_, rfl, (Option.some.inj h) ▸ c⟩
  | _ :: _, _ :: _, .cons c r, i + 1, x, h => paired_at r (i := i) h
theorem RowsAt.at_ {H : Hp} {a : Addr} {ts : List Addr} {rows : List Row} (h : RowsAt H a ts rows) {i : Nat} {x : V} (e : (refs ts)[i]? = some x) : ∃ t row, x = .ref t ∧ rows[i]? = some row ∧ RowAt H t row := by
  rw [List.getElem?_map] at e
  cases e2 : ts[i]? with
  | none =>
    rw [e2] at e
    cases e
  | some t =>
    rw [e2] at e
    obtain ⟨row, h1, h2⟩ := paired_at h.rows e2
    exact ⟨t, row, (Option.some.inj e).symm, h1, h2⟩
theorem RowsAt.len {H : Hp} {a : Addr} {ts : List Addr} {rows : List Row} (h : RowsAt H a ts rows) : ts.length = rows.length := Paired.length h.rows
def spLmember : Sp := fun vs H Q _ => ∃ (a : Addr) (ts : List Addr) (rows : List Row) (n : Nat), vs = [.ref a, vi n] ∧ RowsAt H a ts rows ∧ (∀ row ∈ rows, RowOk row) ∧ rows.length ≤ 8 ∧ ∀ H', Same H H' → Q (vi (memb rows n)) H'
def spLhas : Sp := fun vs H Q _ => ∃ (a : Addr) (ts : List Addr) (rows : List Row) (n : Nat), vs = [.ref a, vi n] ∧ RowsAt H a ts rows ∧ (∀ row ∈ rows, RowOk row) ∧ Q (.bl (has rows n)) H
section
variable {P : Program} {w : World} {K : Fg} {mg : Str → Option Value} {base : Heap} {f C S : Addr} {fd : FuncData}
theorem ok_Lbase (F : Fn0 K "_law_base" "_law_base" sLbase f fd) : FnOk P w K mg base CX0 1 f fd ["_law_label"] spLbase := by
  refine F.ok scLbase (fun vs H Q E h => ?_) (fun cdv A outer s H vs Q E hr h => ?_)
  · obtain ⟨n, rfl, _⟩ := h
    rfl
  · obtain ⟨n, rfl, q⟩ := h
    refine ⟨_, PSs.nox (pss_cons (ps_asg (pe_tup (pa_cons pe_int (pa_cons pe_int pa_nil))) (pg_tup rfl (pgs_cons (pg_name (i := 1) scLbase.nd rfl (.inl rfl)) (pgs_cons (pg_name (i := 2) scLbase.nd rfl (.inl rfl)) pgs_nil))))
      (pss_cons (ps_while PassesOwn.never (pt_cmpR op_gt (pv 0) pe_int (nomark _))
        (pss_one (ps_par3 (i := 1) (j := 0) (l := 2) rfl scLbase.nd rfl rfl rfl (by decide) (by decide) (by decide) rfl rfl rfl
          (pa_cons (pe_op op_add (pv 1) (pe_op op_mul (pe_op op_mod (pv 0) pe_int) (pv 2))) (pa_cons (pe_op op_fdiv (pv 0) pe_int) (pa_cons (pe_op op_mul pe_int (pv 2)) pa_nil))) (by rfl))))
      (pss_one (ps_ret (pv 1))))), ?_⟩
    refine ⟨by show 2 ≤ sizeLine; decide, fun T nT => ⟨T, _, rfl, sqT_of upd_same, rfl, _, _, rfl, _, _, rfl, rfl, ?_⟩⟩
    refine while_by (fun σ H3 => ∃ m fo st : Nat, σ = [some (vi m), some (vi fo), some (vi st)] ∧ fo + st * bs m = bs n ∧ H3 = upd H T (.tup [.int 0, .int 1]))
      (fun σ _ => match σ with
        | some (.int m) :: _ => m.toNat
        | _ => 0) ⟨n, 0, 1, rfl, by rw [Nat.zero_add, Nat.one_mul], rfl⟩ ?_ ?_
    · rintro σ H3 ⟨m, fo, st, rfl, e, rfl⟩
      refine ⟨_, rfl, _, _, rfl, rfl, _, rfl, ?_⟩
      refine ite2 (fun hm => ?_) (fun hm => ?_)
      · have hm0 : m ≠ 0 := by
          intro z
          subst z
          exact absurd (of_decide_eq_true hm) (by decide)
        refine ⟨_, rfl, _, rfl, _, _, rfl, rfl, pos2, _, rfl, _, _, rfl, rfl, .inl ⟨by show -(2 ^ 64) < (m : Int) % 2; omega, by show (m : Int) % 2 < 2 ^ 64; omega⟩, _, _, rfl, rfl, ?_⟩
        refine ⟨_, rfl, _, _, rfl, rfl, ⟨by decide, by decide⟩, _, rfl, _, _, rfl, rfl, .inl (by decide), _, _, _, rfl, ?_⟩
        refine ⟨⟨m / 2, fo + m % 2 * st, 3 * st, rfl, ?_, rfl⟩, ?_⟩
        · rw [← e, bs_pos hm0, Nat.mul_add, Nat.mul_comm st (m % 2), Nat.mul_comm 3 st, Nat.mul_assoc, Nat.add_assoc]
        · show ((m / 2 : Nat) : Int).toNat < (m : Int).toNat
          rw [Int.toNat_natCast, Int.toNat_natCast]
          exact Nat.div_lt_self (Nat.pos_of_ne_zero hm0) (by decide)
      · have hm0 : m = 0 := by
          have hm2 : ¬ ((0 : Int) < (m : Int)) := fun z => hm (decide_eq_true z)
          omega
        subst hm0
        rw [bs_zero, Nat.mul_zero, Nat.add_zero] at e
        subst e
        exact ⟨_, rfl, q _ (same_new nT)⟩
    · rintro σ H3 R R' himp ⟨v, hv, i, j, e1, e2, c, e3, hR⟩
      exact ⟨v, hv, i, j, e1, e2, c, e3, himp _ _ hR⟩
theorem ok_Lisp (F : Fn0 K "_law_is_plain" "_law_is_plain" sLis_plain f fd) : FnOk P w K mg base CX0 1 f fd ["_law_place"] spLisp := by
  refine F.ok scLis_plain (fun vs H Q E h => ?_) (fun cdv A outer s H vs Q E hr h => ?_)
  · obtain ⟨n, rfl, _⟩ := h
    rfl
  · obtain ⟨n, rfl, q⟩ := h
    refine ⟨_, PSs.nox (pss_cons (ps_while PassesOwn.never (PW.pt (pw_and (pt_cmpR op_gt (pv 0) pe_int (nomark _)) (pw_and1 (pt_cmpR op_lt (pe_op op_mod (pv 0) pe_int) pe_int (nomark _)))))
        (pss_one (ps_set (i := 0) scLis_plain.nd rfl (.inl rfl) (pe_op op_fdiv (pv 0) pe_int))))
      (pss_one (ps_ret (pe_cmpR op_eq (pv 0) pe_int (nomark _))))), ?_⟩
    refine while_by (fun σ H3 => ∃ m : Nat, σ = [some (vi m)] ∧ isPl m = isPl n ∧ H3 = H)
      (fun σ _ => match σ with
        | some (.int m) :: _ => m.toNat
        | _ => 0) ⟨n, rfl, rfl, rfl⟩ ?_ ?_
    · rintro σ H3 ⟨m, rfl, e, rfl⟩
      refine ⟨_, rfl, _, _, rfl, rfl, _, rfl, ?_⟩
      refine ite2 (fun hm => ?_) (fun hm => ?_)
      · have hm0 : m ≠ 0 := by
          intro z
          subst z
          exact absurd (of_decide_eq_true hm) (by decide)
        refine ⟨_, rfl, _, _, rfl, rfl, pos3, _, _, rfl, rfl, _, rfl, ?_⟩
        refine ite2 (fun h2 => ?_) (fun h2 => ?_)
        · have h2 := of_decide_eq_true h2
          refine ⟨_, rfl, _, _, rfl, rfl, ⟨by decide, by decide⟩, ?_⟩
          refine ⟨⟨m / 3, rfl, ?_, rfl⟩, ?_⟩
          · rw [← e, isPl_rec m, decide_eq_true (show m % 3 ≠ 2 by omega), Bool.true_and]
          · show ((m / 3 : Nat) : Int).toNat < (m : Int).toNat
            rw [Int.toNat_natCast, Int.toNat_natCast]
            exact Nat.div_lt_self (Nat.pos_of_ne_zero hm0) (by decide)
        · have h3 : ¬ ((m : Int) % 3 < 2) := fun z => h2 (decide_eq_true z)
          refine ⟨_, rfl, rfl, ?_⟩
          have e1 : decide (vi m = V.int 0) = false := decide_eq_false fun z => by
            have z2 : (m : Int) = 0 := V.int.inj z
            omega
          have e2 : isPl n = false := by
            rw [← e, isPl_rec m, decide_eq_false (show ¬ m % 3 ≠ 2 by omega), Bool.false_and]
          rw [e1]
          rw [e2] at q
          exact q
      · have hm0 : m = 0 := by
          have hm2 : ¬ ((0 : Int) < (m : Int)) := fun z => hm (decide_eq_true z)
          omega
        subst hm0
        refine ⟨_, rfl, rfl, ?_⟩
        rw [← e] at q
        have e2 : isPl 0 = true := by
          unfold isPl
          rw [dg_zero]
          rfl
        rw [e2] at q
        exact q
    · rintro σ H3 R R' himp ⟨v, hv, i, j, e1, e2, c, e3, hR⟩
      refine ⟨v, hv, i, j, e1, e2, c, e3, ?_⟩
      cases c with
      | false => exact himp _ _ hR
      | true =>
        obtain ⟨v2, hv2, i2, j2, e4, e5, e6, i3, j3, e7, e8, c2, e9, hR⟩ := hR
        exact ⟨v2, hv2, i2, j2, e4, e5, e6, i3, j3, e7, e8, c2, e9, himp _ _ hR⟩
theorem ok_Lplain (F : Fn0 K "_law_plain" "_law_plain" sLplain f fd) : FnOk P w K mg base CX0 1 f fd ["_law_place"] spLplain := by
  refine F.ok scLplain (fun vs H Q E h => ?_) (fun cdv A outer s H vs Q E hr h => ?_)
  · obtain ⟨n, rfl, _⟩ := h
    rfl
  · obtain ⟨n, rfl, q⟩ := h
    refine ⟨_, PSs.nox (pss_cons (ps_asg (pe_tup (pa_cons pe_int (pa_cons pe_int (pa_cons pe_int pa_nil)))) (pg_tup rfl (pgs_cons (pg_name (i := 1) scLplain.nd rfl (.inl rfl)) (pgs_cons (pg_name (i := 2) scLplain.nd rfl (.inl rfl)) (pgs_cons (pg_name (i := 3) scLplain.nd rfl (.inl rfl)) pgs_nil)))))
      (pss_cons (ps_while PassesOwn.never (pt_cmpR op_gt (pv 0) pe_int (nomark _))
        (pss_cons (ps_set (i := 4) scLplain.nd rfl (.inl rfl) (pe_op op_mod (pv 0) pe_int))
        (pss_cons (ps_set (i := 1) scLplain.nd rfl (.inl rfl) (pe_ifExp (pt_cmp (pc_eqI (pv 4) pe_int)) (pe_op op_add (pv 1) (pv 3)) (pv 1)))
        (pss_cons (ps_set (i := 2) scLplain.nd rfl (.inl rfl) (pe_ifExp (pt_cmpR op_gt (pv 4) pe_int (nomark _)) (pe_op op_add (pv 2) (pv 3)) (pv 2)))
        (pss_one (ps_par (i := 0) (j := 3) rfl scLplain.nd rfl rfl (by decide) rfl rfl (pa_cons (pe_op op_fdiv (pv 0) pe_int) (pa_cons (pe_op op_mul pe_int (pv 3)) pa_nil)) (by rfl)))))))
      (pss_one (ps_ret (pe_tup (pa_cons (pv 1) (pa_cons (pv 2) pa_nil))))))), ?_⟩
    refine ⟨by show 3 ≤ sizeLine; decide, fun T nT => ⟨T, _, rfl, sqT_of upd_same, rfl, _, _, rfl, _, _, rfl, _, _, rfl, rfl, ?_⟩⟩
    refine while_by (fun σ H3 => ∃ (m lo mi st : Nat) (y : Option V), σ = [some (vi m), some (vi lo), some (vi mi), some (vi st), y] ∧ lo + st * plo m = plo n ∧ mi + st * pup m = pup n ∧ H3 = upd H T (.tup [.int 0, .int 0, .int 1]))
      (fun σ _ => match σ with
        | some (.int m) :: _ => m.toNat
        | _ => 0) ⟨n, 0, 0, 1, none, rfl, by rw [Nat.zero_add, Nat.one_mul], by rw [Nat.zero_add, Nat.one_mul], rfl⟩ ?_ ?_
    · rintro σ H3 ⟨m, lo, mi, st, y, rfl, e1, e2, rfl⟩
      refine ⟨_, rfl, _, _, rfl, rfl, _, rfl, ?_⟩
      refine ite2 (fun hm => ?_) (fun hm => ?_)
      · have hm0 : m ≠ 0 := by
          intro z
          subst z
          exact absurd (of_decide_eq_true hm) (by decide)
        have less : ((m / 3 : Nat) : Int).toNat < (m : Int).toNat := by
          rw [Int.toNat_natCast, Int.toNat_natCast]
          exact Nat.div_lt_self (Nat.pos_of_ne_zero hm0) (by decide)
        refine ⟨_, rfl, _, _, rfl, rfl, pos3, ?_⟩
        refine ⟨_, rfl, _, _, rfl, rfl, _, rfl, ?_⟩
        refine ite2 (fun h1 => ?_) (fun h1 => ?_)
        · have h1 := of_decide_eq_true h1
          have h1n : m % 3 = 1 := by omega
          refine ⟨_, rfl, _, rfl, _, _, rfl, rfl, ?_⟩
          refine ⟨_, rfl, _, _, rfl, rfl, _, rfl, ?_⟩
          refine ite2 (fun h2 => ?_) (fun h2 => ?_)
          · refine ⟨_, rfl, _, rfl, _, _, rfl, rfl, ?_⟩
            refine ⟨_, rfl, _, _, rfl, rfl, ⟨by decide, by decide⟩, _, rfl, _, _, rfl, rfl, .inl (by decide), _, _, rfl, ?_⟩
            refine ⟨⟨m / 3, lo + st, mi + st, 3 * st, _, rfl, ?_, ?_, rfl⟩, less⟩
            · rw [← e1, plo_rec m, if_pos h1n, Nat.mul_add, Nat.mul_one, Nat.mul_comm 3 st, Nat.mul_assoc, Nat.add_assoc]
            · rw [← e2, pup_rec m, if_pos (by omega), Nat.mul_add, Nat.mul_one, Nat.mul_comm 3 st, Nat.mul_assoc, Nat.add_assoc]
          · exact absurd (decide_eq_true (show (0 : Int) < (m : Int) % 3 by omega)) h2
        · have h1 : ¬ ((m : Int) % 3 = 1) := fun z => h1 (decide_eq_true z)
          have h1n : ¬ m % 3 = 1 := by omega
          refine ⟨_, rfl, ?_⟩
          refine ⟨_, rfl, _, _, rfl, rfl, _, rfl, ?_⟩
          refine ite2 (fun h2 => ?_) (fun h2 => ?_)
          · have h2 : (0 : Int) < (m : Int) % 3 := of_decide_eq_true h2
            refine ⟨_, rfl, _, rfl, _, _, rfl, rfl, ?_⟩
            refine ⟨_, rfl, _, _, rfl, rfl, ⟨by decide, by decide⟩, _, rfl, _, _, rfl, rfl, .inl (by decide), _, _, rfl, ?_⟩
            refine ⟨⟨m / 3, lo, mi + st, 3 * st, _, rfl, ?_, ?_, rfl⟩, less⟩
            · rw [← e1, plo_rec m, if_neg h1n, Nat.zero_add, Nat.mul_comm 3 st, Nat.mul_assoc]
            · rw [← e2, pup_rec m, if_pos (by omega), Nat.mul_add, Nat.mul_one, Nat.mul_comm 3 st, Nat.mul_assoc, Nat.add_assoc]
          · have h2 : ¬ ((0 : Int) < (m : Int) % 3) := fun z => h2 (decide_eq_true z)
            refine ⟨_, rfl, ?_⟩
            refine ⟨_, rfl, _, _, rfl, rfl, ⟨by decide, by decide⟩, _, rfl, _, _, rfl, rfl, .inl (by decide), _, _, rfl, ?_⟩
            refine ⟨⟨m / 3, lo, mi, 3 * st, _, rfl, ?_, ?_, rfl⟩, less⟩
            · rw [← e1, plo_rec m, if_neg h1n, Nat.zero_add, Nat.mul_comm 3 st, Nat.mul_assoc]
            · rw [← e2, pup_rec m, if_neg (by omega), Nat.zero_add, Nat.mul_comm 3 st, Nat.mul_assoc]
      · have hm0 : m = 0 := by
          have hm2 : ¬ ((0 : Int) < (m : Int)) := fun z => hm (decide_eq_true z)
          omega
        subst hm0
        have z1 : plo 0 = 0 := by
          unfold plo
          rw [dg_zero]
          rfl
        have z2 : pup 0 = 0 := by
          unfold pup
          rw [dg_zero]
          rfl
        rw [z1, Nat.mul_zero, Nat.add_zero] at e1
        rw [z2, Nat.mul_zero, Nat.add_zero] at e2
        rw [← e1, ← e2] at q
        refine ⟨_, rfl, _, rfl, by show 2 ≤ sizeLine; decide, fun t nt => ?_⟩
        exact q t _ (fun b x z => same_new nt b x (same_new nT b x z)) upd_same
    · rintro σ H3 R R' himp ⟨v, hv, i, j, e1, e2, c, e3, hR⟩
      exact ⟨v, hv, i, j, e1, e2, c, e3, himp _ _ hR⟩
end
end Tf
/-! ### the law's defs over rows; its draws -/
namespace Tf
open PySem PySem.Spec PyProof.Rows L2
theorem prod_le : ∀ rows : List Row, (∀ row ∈ rows, RowOk row) → prodN rows ≤ 10 ^ rows.length
  | [], _ => Nat.le_refl 1
  | row :: rs, h => by
    have h1 := (h row (List.mem_cons_self ..)).ten
    have h2 := prod_le rs fun r hr => h r (List.mem_cons_of_mem _ hr)
    show row.1 * prodN rs ≤ 10 ^ (rs.length + 1)
    rw [Nat.pow_succ, Nat.mul_comm]
    exact Nat.mul_le_mul h2 h1
theorem Same.sql {K : Fg} {H H' : Hp} {a : Addr} {xs : List V} (e : Same H H') (h : SqL K H a xs) : SqL K H' a xs := by
  rcases h with (h | ⟨o, h⟩) | h
  · exact .inl (.inl (e _ _ h))
  · exact .inl (.inr ⟨o, e _ _ h⟩)
  · exact .inr h
/-- the law's state -/
abbrev stK (l m t : Int) : List (Key × V) := [(.inr "large", .int l), (.inr "mixed", .int m), (.inr "turn", .int t)]
def LawSt (H : Hp) (d : Addr) : Prop := ∃ l m t : Int, H d = some (.dK (stK l m t))
theorem LawSt.d {H : Hp} {d : Addr} : LawSt H d → LawD H d := fun ⟨l, m, t, h⟩ => ⟨_, _, _, h, fun q hq => by
  rcases List.mem_cons.mp hq with rfl | hq
  · exact ⟨_, rfl⟩
  · rcases List.mem_cons.mp hq with rfl | hq
    · exact ⟨_, rfl⟩
    · cases hq⟩
theorem LawSt.same {H H' : Hp} {d : Addr} (s : Same H H') : LawSt H d → LawSt H' d := fun ⟨l, m, t, h⟩ => ⟨l, m, t, s _ _ h⟩
theorem LawSt.sx5 {H H' : Hp} {d o : Addr} (n : d ≠ o) (s : SameX o H H') : LawSt H d → LawSt H' d := fun ⟨l, m, t, h⟩ => ⟨l, m, t, s _ _ n h⟩
theorem st_large (l m t : Int) : valV (stK l m t) (.inr "large" : Key) = some (.int l) := rfl
theorem st_mixed (l m t : Int) : valV (stK l m t) (.inr "mixed" : Key) = some (.int m) := rfl
theorem st_turn (l m t : Int) : valV (stK l m t) (.inr "turn" : Key) = some (.int t) := rfl
theorem put_large (l m t v : Int) : putK (stK l m t) (.inr "large" : Key) (.int v) = stK v m t := rfl
theorem put_mixed (l m t v : Int) : putK (stK l m t) (.inr "mixed" : Key) (.int v) = stK l v t := rfl
theorem put_turn (l m t v : Int) : putK (stK l m t) (.inr "turn" : Key) (.int v) = stK l m v := rfl
theorem st_merge (l m t : Int) : mergeK [] (stK l m t) = stK l m t := rfl
def spLbegin (K : Fg) : Sp := fun vs H Q _ => ∃ (a : Addr) (ns : List Int) (k : Nat), vs = [.ref a, vi k] ∧ SqL K H a (ns.map V.int) ∧ ns.length ≤ 63 ∧
  ∀ d H', Same H H' → H d = none → LawSt H' d → Q (.ref d) H'
def spLdraw : Sp := fun vs H Q _ => ∃ (d : Addr) (n : Nat), vs = [.ref d, vi n] ∧ LawSt H d ∧ 0 < n ∧ n < 1073741824 ∧ ∀ (r : Nat) H', r < n → SameX d H H' → LawSt H' d → Q (vi r) H'
def spLstock : Sp := fun vs H Q _ => vs = [] ∧ ∀ a ts H', Same H H' → H a = none → RowsAt H' a ts stock → Q (.ref a) H'
theorem has_snoc_int (r : Int) {n : Nat} (hn : 0 < n) : ∃ k : Nat, r % (n : Int) = (k : Int) ∧ k < n := by
  have h1 : (0 : Int) < (n : Int) := Int.natCast_pos.mpr hn
  have h2 := Int.emod_nonneg r (Int.ne_of_gt h1)
  have h3 := Int.emod_lt_of_pos r h1
  exact ⟨(r % (n : Int)).toNat, by omega, by omega⟩
theorem ints_lay : ∀ ns : List Int, PyData.canLayAll0 (ns.map PyData.int) = true
  | [] => by simp [PyData.canLayAll0]
  | n :: ns => by simp [PyData.canLayAll0, PyData.canLay0, ints_lay ns]
theorem ints_shaped (ns : List Int) : SeqAt.shaped (.list (ns.map PyData.int)) = true := by
  have h1 := deep_ints ns
  show (PyData.canLay0 (.list (ns.map PyData.int)) && decide (PyData.depth (.list (ns.map PyData.int)) ≤ 64)) = true
  rw [Bool.and_eq_true]
  refine ⟨by simp only [PyData.canLay0]; exact ints_lay ns, decide_eq_true ?_⟩
  simp only [PyData.depth]
  omega
theorem seq_asg {te : TE} {g : TG} {tb : TS} {D : Ends} {σ : L2.St} {H : Hp} (h : te σ H fun x H1 => g x σ H1 fun σ' H' => tb D σ' H') : tSeq (tAsg te g) tb D σ H := h
theorem lst_step {t : TA} {σ : L2.St} {H : Hp} {Q : VK} (h : t σ H fun xs H1 => xs.length ≤ sizeLine ∧ ∀ p, H1 p = none → Q (.ref p) (upd H1 p (.lst xs))) : tLst t σ H Q := h
theorem els_cons {te : TE} {tr : TA} {σ : L2.St} {H : Hp} {Q : List V → Hp → Prop} (h : te σ H fun x H1 => tr σ H1 fun xs H2 => Q (x :: xs) H2) : tCons te tr σ H Q := h
/-- one row, written out -/
theorem row_el {t : TA} {N : Nat} {A : List Nat} {σ : L2.St} {H : Hp} {Q : VK} (hA : ∀ (H : Hp) (R : List V → Hp → Prop), R (vis A) H → t σ H R) (hl : A.length ≤ 100)
    (q : ∀ t H', Same H H' → RowAt H' t (N, A) → Q (.ref t) H') : tTup (tCons (tC (.int (N : Int))) (tCons (tTup t) tNil)) σ H Q := by
  refine hA _ _ ⟨by rw [vis_len]; exact Nat.le_of_lt (small1000 (by omega)), fun m nm => ⟨by show 2 ≤ sizeLine; decide, fun r nr => ?_⟩⟩
  refine q r _ (fun b x z => same_new nr b x (same_new nm b x z)) ⟨m, upd_same, same_new nr _ _ upd_same⟩
section
variable {P : Program} {w : World} {K : Fg} {mg : Str → Option Value} {base : Heap} {f C S : Addr} {fd : FuncData}
theorem ok_Lmember (B : Bt mg) (F : Fn0 K "_law_member" "_law_member" sLmember f fd) (D1 : DOk P w K mg base 1 "_law_base" ["_law_label"] spLbase) : FnOk P w K mg base CX0 2 f fd ["_law_rows", "_law_label"] spLmember := by
  refine F.ok scLmember (fun vs H Q E h => ?_) (fun cdv A outer s H vs Q E hr h => ?_)
  · obtain ⟨a, ts, rows, n, rfl, _⟩ := h
    rfl
  · obtain ⟨a, ts, rows, n, rfl, ra, ok, hl, q⟩ := h
    refine ⟨_, PSs.nox (pss_cons (ps_asg (pe_tup (pa_cons pe_int (pa_cons pe_int pa_nil))) (pg_tup rfl (pgs_cons (pg_name (i := 2) scLmember.nd rfl (.inl rfl)) (pgs_cons (pg_name (i := 3) scLmember.nd rfl (.inl rfl)) pgs_nil))))
      (pss_cons (ps_for PassesOwn.never rfl (pi_list (pv 0)) (pg_tup rfl (pgs_cons (pg_name (i := 4) scLmember.nd rfl (.inl rfl)) (pgs_cons (pg_name (i := 5) scLmember.nd rfl (.inl rfl)) pgs_nil)))
        (pss_cons (ps_set (i := 2) scLmember.nd rfl (.inl rfl) (pe_op op_add (pv 2) (pe_op op_mul (pv 3) (pe_ix ix_tup (pv 5) (pe_op op_mod (pv 1) (pe_callB call_len (by rfl) B.len boot_len (pa_cons (pv 5) pa_nil))) (by intro _ _; rfl)))))
        (pss_one (ps_par (i := 1) (j := 3) rfl scLmember.nd rfl rfl (by decide) rfl rfl (pa_cons (pe_op op_fdiv (pv 1) (pe_callB call_len (by rfl) B.len boot_len (pa_cons (pv 5) pa_nil))) (pa_cons (pe_op op_mul (pv 3) (pv 4)) pa_nil)) (by rfl)))))
      (pss_one (ps_ret (pe_op op_add (pv 2) (pe_op op_mul (pv 3) (pe_d D1 hr (by rfl) (pa_cons (pv 1) pa_nil)))))))), ?_⟩
    refine ⟨by show 2 ≤ sizeLine; decide, fun T nT => ⟨T, _, rfl, sqT_of upd_same, rfl, _, _, rfl, _, _, rfl, rfl, ?_⟩⟩
    have s1 : Same H (upd H T (.tup [.int 0, .int 1])) := same_new nT
    have ra1 := ra.same s1
    generalize upd H T (.tup [.int 0, .int 1]) = H1 at s1 ra1 ⊢
    refine ⟨_, rfl, a, rfl, ⟨_, sqL_of ra1.lst⟩, for_list (K := K) (a := a) (xs := refs ts)
      (fun i σ H3 => ∃ (m fo wh : Nat) (y4 y5 : Option V), σ = [some (.ref a), some (vi m), some (vi fo), some (vi wh), y4, y5] ∧ wh = prodN (rows.take i) ∧ fo + wh * memb (rows.drop i) m = memb rows n ∧ H3 = H1)
      ⟨n, 0, 1, none, none, rfl, rfl, by rw [Nat.zero_add, Nat.one_mul]; rfl, rfl⟩ (fun i σ H3 _ ⟨_, _, _, _, _, _, _, _, e⟩ => by rw [e]; exact sqL_of ra1.lst) ?_ ?_⟩
    · rintro i x σ H3 hi ⟨m, fo, wh, y4, y5, rfl, e1, e2, rfl⟩
      obtain ⟨t, row, rfl, hrow, mt, h1, h2⟩ := ra1.at_ hi
      have o := ok row (List.mem_of_getElem? hrow)
      have hl4 := o.four
      have hl1 := o.some_
      have h10 := o.ten
      have hlt : m % row.2.length < row.2.length := Nat.mod_lt _ hl1
      have hat : row.2[m % row.2.length]? = some (row.2.getD (m % row.2.length) 0) := by
        rw [List.getD_eq_getElem?_getD, List.getElem?_eq_getElem hlt]
        rfl
      have hel : row.2.getD (m % row.2.length) 0 < row.1 := o.lt _ (List.mem_of_getElem? hat)
      refine ⟨t, _, rfl, sqT_of h1, rfl, _, _, rfl, _, _, rfl, rfl, ?_⟩
      refine ⟨_, rfl, _, rfl, _, rfl, _, rfl, _, rfl, .ref mt, row.2.length, rfl, .inr ⟨_, sqT_of h2, (vis_len _).symm⟩, _, _, rfl, rfl, Int.natCast_pos.mpr hl1, mt, _, _, _, rfl, rfl, sqT_of h2, atI_nat (vis_get hat), _, _, rfl, rfl,
        .inr (small64 (by omega)), _, _, rfl, rfl, ?_⟩
      refine ⟨_, rfl, _, rfl, .ref mt, row.2.length, rfl, .inr ⟨_, sqT_of h2, (vis_len _).symm⟩, _, _, rfl, rfl, ⟨Int.natCast_pos.mpr hl1, by show (row.2.length : Int) < 1073741824; omega⟩, _, rfl, _, rfl, _, _, rfl, rfl, .inr (small64 h10), _, _, rfl, ?_⟩
      refine ⟨m / row.2.length, fo + wh * row.2.getD (m % row.2.length) 0, wh * row.1, _, _, rfl, ?_, ?_, rfl⟩
      · rw [e1, prod_take hrow]
      · rw [← e2, drop_at hrow]
        show _ = fo + wh * (row.2.getD (m % row.2.length) 0 + row.1 * memb (rows.drop (i + 1)) (m / row.2.length))
        rw [Nat.mul_add, Nat.mul_assoc, Nat.add_assoc]
    · rintro σ H3 ⟨m, fo, wh, y4, y5, rfl, e1, e2, rfl⟩
      have hln : (refs ts).length = rows.length := by rw [List.length_map, ra.len]
      rw [hln, List.take_length] at e1
      rw [hln, List.drop_length] at e2
      have hp := prod_le rows ok
      have hp2 : 10 ^ rows.length ≤ 10 ^ 8 := Nat.pow_le_pow_right (by decide) hl
      rw [← e2] at q
      refine ⟨_, rfl, _, rfl, _, rfl, m, rfl, fun H4 s4 => ⟨_, _, rfl, rfl, .inl ⟨?_, ?_⟩, _, _, rfl, rfl, q _ fun b x e => s4 b x (s1 b x e)⟩⟩
      · show -(2 ^ 64) < (wh : Int)
        omega
      · show (wh : Int) < 2 ^ 64
        omega
theorem ok_Lhas (F : Fn0 K "_law_has" "_law_has" sLhas f fd) (D1 : DOk P w K mg base 1 "_law_is_plain" ["_law_place"] spLisp) : FnOk P w K mg base CX0 2 f fd ["_law_rows", "_law_place"] spLhas := by
  refine F.ok scLhas (fun vs H Q E h => ?_) (fun cdv A outer s H vs Q E hr h => ?_)
  · obtain ⟨a, ts, rows, n, rfl, _⟩ := h
    rfl
  · obtain ⟨a, ts, rows, n, rfl, ra, ok, q⟩ := h
    refine ⟨_, PSs.nox (pss_cons (ps_for PassesOwn.never rfl (pi_list (pv 0)) (pg_tup rfl (pgs_cons (pg_name (i := 2) scLhas.nd rfl (.inl rfl)) (pgs_cons (pg_name (i := 3) scLhas.nd rfl (.inl rfl)) pgs_nil)))
        (pss_cons (ps_if (pt_cmpR op_notIn_seq (pe_op op_mod (pv 1) (pv 2)) (pv 3) (by rfl)) (pss_one (ps_ret pe_bl)) pss_nil)
        (pss_one (ps_set (i := 1) scLhas.nd rfl (.inl rfl) (pe_op op_fdiv (pv 1) (pv 2))))))
      (pss_one (ps_ret (pe_d D1 hr (by rfl) (pa_cons (pv 1) pa_nil))))), ?_⟩
    refine ⟨_, rfl, a, rfl, ⟨_, sqL_of ra.lst⟩, for_list (K := K) (a := a) (xs := refs ts)
      (fun i σ H3 => ∃ (m : Nat) (y4 y5 : Option V), σ = [some (.ref a), some (vi m), y4, y5] ∧ has (rows.drop i) m = has rows n ∧ H3 = H)
      ⟨n, none, none, rfl, rfl, rfl⟩ (fun i σ H3 _ ⟨_, _, _, _, _, e⟩ => by rw [e]; exact sqL_of ra.lst) ?_ ?_⟩
    · rintro i x σ H3 hi ⟨m, y4, y5, rfl, e1, rfl⟩
      obtain ⟨t, row, rfl, hrow, mt, h1, h2⟩ := ra.at_ hi
      have o := ok row (List.mem_of_getElem? hrow)
      have h10 := o.ten
      have hN : (0 : Int) < (row.1 : Int) := Int.natCast_pos.mpr o.pos
      rw [drop_at hrow] at e1
      have e1 : (row.2.contains (m % row.1) && has (rows.drop (i + 1)) (m / row.1)) = has rows n := e1
      refine ⟨t, _, rfl, sqT_of h1, rfl, _, _, rfl, _, _, rfl, rfl, ?_⟩
      refine ⟨_, rfl, _, rfl, _, _, rfl, rfl, hN, _, rfl, mt, _, rfl, .inr (sqT_of h2), rfl, flat_vis _, _, rfl, ?_⟩
      have ei : inV (V.int ((m : Int) % (row.1 : Int))) (vis row.2) = row.2.contains (m % row.1) := inV_vis (m % row.1) row.2
      refine ite2 (fun hb => ?_) (fun hb => ?_)
      · have hb : (!inV (V.int ((m : Int) % (row.1 : Int))) (vis row.2)) = true := hb
        rw [ei, Bool.not_eq_true'] at hb
        rw [hb, Bool.false_and] at e1
        rw [← e1] at q
        exact q
      · have hb : ¬ (!inV (V.int ((m : Int) % (row.1 : Int))) (vis row.2)) = true := hb
        rw [ei, Bool.not_eq_true', Bool.not_eq_false] at hb
        rw [hb, Bool.true_and] at e1
        refine ⟨_, rfl, _, rfl, _, _, rfl, rfl, ⟨hN, by show (row.1 : Int) < 1073741824; omega⟩, ?_⟩
        exact ⟨m / row.1, _, _, rfl, e1, rfl⟩
    · rintro σ H3 ⟨m, y4, y5, rfl, e1, rfl⟩
      have hln : (refs ts).length = rows.length := by rw [List.length_map, ra.len]
      rw [hln, List.drop_length] at e1
      rw [← e1] at q
      exact ⟨_, rfl, m, rfl, q⟩
theorem ok_Ldraw (F : Fn0 K "_law_draw" "_law_draw" sLdraw f fd) : FnOk P w K mg base CX0 1 f fd ["_law_state", "_law_size"] spLdraw := by
  refine F.ok scLdraw (fun vs H Q E h => ?_) (fun cdv A outer s H vs Q E hr h => ?_)
  · obtain ⟨d, n, rfl, _⟩ := h
    rfl
  · obtain ⟨d, n, rfl, ⟨l, m, t, hd⟩, hn, hn2, q⟩ := h
    have hu := hu1 hr
    refine ⟨_, PSs.nox (pss_cons (ps_if (pt_cmpR op_gt (pe_dget hu (pv 0) pe_str (by intro _ _; rfl)) pe_int (nomark _))
        (pss_cons (ps_set (i := 2) scLdraw.nd rfl (.inl rfl) (pe_op op_mod (pe_dget hu (pv 0) pe_str (by intro _ _; rfl)) (pv 1)))
        (pss_cons (ps_dput hu (pv 0) pe_str (pe_op op_fdiv (pe_dget hu (pv 0) pe_str (by intro _ _; rfl)) (pv 1)) rfl)
        (pss_one (ps_ret (pv 2))))) pss_nil)
      (pss_cons (ps_dput hu (pv 0) pe_str (pe_op op_add (pe_dget hu (pv 0) pe_str (by intro _ _; rfl)) pe_int) rfl)
      (pss_cons (ps_dput hu (pv 0) pe_str (pe_op op_mod (pe_op op_add (pe_op op_add (pe_op op_mul (pe_dget hu (pv 0) pe_str (by intro _ _; rfl)) pe_int) (pe_op op_mul pe_int (pe_dget hu (pv 0) pe_str (by intro _ _; rfl)))) pe_int) pe_int) rfl)
      (pss_one (ps_ret (pe_op op_mod (pe_op op_fdiv (pe_dget hu (pv 0) pe_str (by intro _ _; rfl)) pe_int) (pv 1))))))), ?_⟩
    have g1 : DGet H d (.str "large") (some (.int l)) := .k (k := .inr "large") hd
    have g2 : DGet H d (.str "turn") (some (.int t)) := .k (k := .inr "turn") hd
    have hN : (0 : Int) < (n : Int) := Int.natCast_pos.mpr hn
    have hN2 : (n : Int) < 1073741824 := by omega
    refine ⟨_, rfl, d, _, rfl, g1, _, _, rfl, rfl, _, rfl, ?_⟩
    refine ite2 (fun hb => ?_) (fun hb => ?_)
    · obtain ⟨k, ek, hk⟩ := has_snoc_int l hn
      refine ⟨_, rfl, d, _, rfl, g1, _, rfl, _, _, rfl, rfl, hN, ?_⟩
      refine ⟨_, rfl, d, _, rfl, g1, _, rfl, _, _, rfl, rfl, ⟨hN, hN2⟩, _, rfl, d, _, rfl, DPut.k (k := .inr "large") hd (by show 3 < sizeLine; decide), ?_⟩
      refine ⟨_, rfl, ?_⟩
      have e : (V.int (l % (n : Int))) = vi k := by rw [ek]
      have q2 := q k (upd H d (.dK (putK (stK l m t) (.inr "large" : Key) (.int (l / (n : Int)))))) hk sameX_upd ⟨_, _, _, by rw [upd_same, put_large]⟩
      rw [← e] at q2
      exact q2
    · refine ⟨_, rfl, d, _, rfl, g2, _, _, rfl, rfl, _, rfl, d, _, rfl, DPut.k (k := .inr "turn") hd (by show 3 < sizeLine; decide), ?_⟩
      have x1 : SameX d H (upd H d (.dK (putK (stK l m t) (.inr "turn" : Key) (.int (t + 1))))) := sameX_upd
      have hd1 : upd H d (.dK (putK (stK l m t) (.inr "turn" : Key) (.int (t + 1)))) d = some (.dK (stK l m (t + 1))) := by rw [upd_same, put_turn]
      generalize upd H d (.dK (putK (stK l m t) (.inr "turn" : Key) (.int (t + 1)))) = H1 at x1 hd1 ⊢
      have g3 : DGet H1 d (.str "mixed") (some (.int m)) := .k (k := .inr "mixed") hd1
      have g4 : DGet H1 d (.str "turn") (some (.int (t + 1))) := .k (k := .inr "turn") hd1
      refine ⟨_, rfl, d, _, rfl, g3, _, _, rfl, rfl, .inr (by decide), _, rfl, d, _, rfl, g4, _, _, rfl, rfl, .inl (by decide), _, _, rfl, rfl, _, _, rfl, rfl, _, _, rfl, rfl, by show (0 : Int) < 2147483647; decide,
        _, rfl, d, _, rfl, DPut.k (k := .inr "mixed") hd1 (by show 3 < sizeLine; decide), ?_⟩
      have hd2 : upd H1 d (.dK (putK (stK l m (t + 1)) (.inr "mixed" : Key) (.int ((m * 69621 + 7 * (t + 1) + 127) % 2147483647)))) d = some (.dK (stK l ((m * 69621 + 7 * (t + 1) + 127) % 2147483647) (t + 1))) := by rw [upd_same, put_mixed]
      have x2 : SameX d H1 (upd H1 d (.dK (putK (stK l m (t + 1)) (.inr "mixed" : Key) (.int ((m * 69621 + 7 * (t + 1) + 127) % 2147483647))))) := sameX_upd
      have g5 := DGet.k (k := (.inr "mixed" : Key)) hd2
      rw [st_mixed] at g5
      obtain ⟨k, ek, hk⟩ := has_snoc_int (((m * 69621 + 7 * (t + 1) + 127) % 2147483647) / 37) hn
      have q2 := q k _ hk (x1.trans x2) ⟨_, _, _, hd2⟩
      have e : (V.int ((((m * 69621 + 7 * (t + 1) + 127) % 2147483647) / 37) % (n : Int))) = vi k := by rw [ek]
      rw [← e] at q2
      exact ⟨_, rfl, d, _, rfl, g5, _, _, rfl, rfl, ⟨by decide, by decide⟩, _, rfl, _, _, rfl, rfl, hN, q2⟩
theorem ok_Lbegin (B : Bt mg) (F : Fn0 K "_law_begin" "_law_begin" sLbegin f fd) : FnOk P w K mg base CX0 1 f fd ["_law_script", "_law_spot"] (spLbegin K) := by
  refine F.ok scLbegin (fun vs H Q E h => ?_) (fun cdv A outer s H vs Q E hr h => ?_)
  · obtain ⟨a, ns, k, rfl, _⟩ := h
    rfl
  · obtain ⟨a, ns, k, rfl, hS, hl, q⟩ := h
    refine ⟨_, PSs.nox (pss_cons (ps_set (i := 2) scLbegin.nd rfl (.inl rfl) (pe_ifExp (pt_cmpR (op_neD hr.units) (pv 0) (pe_lst pa_nil) (by rfl)) (pe_ix ix_list (pv 0) (pe_op op_mod (pv 1) (pe_callB call_len (by rfl) B.len boot_len (pa_cons (pv 0) pa_nil))) (by intro _ _; rfl)) pe_int))
      (pss_one (ps_ret (pe_disp (pps_cons pe_str (pe_ifExp (pt_cmpR op_ge (pv 2) (pe_op op_pow pe_int pe_int) (nomark _)) (pv 2) pe_int)
        (pps_cons pe_str (pe_op op_mod (pe_op op_add (pe_op op_add (pe_op op_mul pe_int (pv 2)) (pv 1)) pe_int) pe_int) (pps_cons pe_str pe_int pps_nil))) rfl rfl (by decide) (by decide))))), ?_⟩
    refine ⟨_, rfl, Nat.zero_le _, fun p np => ?_⟩
    have s1 : Same H (upd H p (.lst [])) := same_new np
    have hS1 := Same.sql s1 hS
    have fin : ∀ own : Int, (tRet (tDisp [(tC (.str "large"), tIf (tTest (tOp (rI0 fun i j => V.bl (decide (j ≤ i))) (tVar 2) (tOp (rI CPow fun i j => V.int (i ^ j.toNat)) (tC (.int 10)) (tC (.int 18))))) (tVar 2) (tC (.int 0))),
        (tC (.str "mixed"), tOp (rI (fun _ j => 0 < j) fun i j => V.int (i % j)) (tOp (rI0 fun i j => V.int (i + j)) (tOp (rI0 fun i j => V.int (i + j)) (tOp (rI CMul fun i j => V.int (i * j)) (tC (.int 3)) (tVar 2)) (tVar 1)) (tC (.int 1))) (tC (.int 998244353))),
        (tC (.str "turn"), tC (.int 0))])) { nx := fun _ H' => Q .non H', rt := Q } [some (.ref a), some (vi k), some (.int own)] (upd H p (.lst [])) := fun own => by
      intro d nd
      have s2 : Same H (upd (upd H p (.lst [])) d (.dK [])) := fun b x e => same_new nd b x (s1 b x e)
      have nd0 : H d = none := s1.free nd
      have last : ∀ lg : Int, ((tPairs [(tC (.str "mixed"), tOp (rI (fun _ j => 0 < j) fun i j => V.int (i % j)) (tOp (rI0 fun i j => V.int (i + j)) (tOp (rI0 fun i j => V.int (i + j)) (tOp (rI CMul fun i j => V.int (i * j)) (tC (.int 3)) (tVar 2)) (tVar 1)) (tC (.int 1))) (tC (.int 998244353))),
        (tC (.str "turn"), tC (.int 0))]) [some (.ref a), some (vi k), some (.int own)] (upd (upd H p (.lst [])) d (.dK []))
          fun ps H3 => H3 d = some (.dK []) ∧ ∃ kvs : List (Key × V), (V.str "large", V.int lg) :: ps = kvs.map (fun kv => (kV kv.1, kv.2)) ∧ kvs.length ≤ 15 ∧ Q (.ref d) (upd H3 d (.dK (mergeK [] kvs)))) := fun lg => by
        refine ⟨_, rfl, _, _, rfl, rfl, .inl (by decide), _, rfl, _, _, rfl, rfl, _, _, rfl, rfl, _, _, rfl, rfl, by show (0 : Int) < 998244353; decide, upd_same, stK lg ((3 * own + (k : Int) + 1) % 998244353) 0, rfl, by show 3 ≤ 15; decide, ?_⟩
        rw [st_merge]
        exact q d _ (same_own s2 nd0) nd0 ⟨_, _, _, upd_same⟩
      refine ⟨_, rfl, _, _, rfl, rfl, ⟨by decide, by decide, by decide⟩, _, _, rfl, rfl, _, rfl, ?_⟩
      refine ite2 (fun _ => ⟨_, rfl, last own⟩) (fun _ => last 0)
    have dn : Dp K (upd H p (.lst [])) (.ref a) (.list (ns.map PyData.int)) := .lst hS1 (dp_ints ns)
    have d0 : Dp K (upd H p (.lst [])) (.ref p) (.list []) := .lst (sqL_of upd_same) .nil
    refine ⟨_, _, dn, d0, ?_, ?_, _, rfl, ?_⟩
    · exact ints_shaped ns
    · exact ints_shaped []
    cases ns with
    | nil =>
      refine ite2 (fun z => ?_) (fun _ => fin 5)
      have e : PyData.eqv (.list (([] : List Int).map PyData.int)) (.list []) = true := by simp [PyData.eqv, PyData.eqvAll]
      rw [e] at z
      cases z
    | cons n0 nr =>
      refine ite2 (fun _ => ?_) (fun z => ?_)
      · have hlt : k % (n0 :: nr).length < (n0 :: nr).length := Nat.mod_lt _ (Nat.succ_pos _)
        have hat : ((n0 :: nr).map V.int)[k % (n0 :: nr).length]? = some (V.int ((n0 :: nr)[k % (n0 :: nr).length])) := by
          rw [List.getElem?_map, List.getElem?_eq_getElem hlt]
          rfl
        have hlen : (0 : Int) < ((n0 :: nr).length : Int) := Int.natCast_pos.mpr (Nat.succ_pos _)
        exact ⟨_, rfl, _, rfl, _, rfl, .ref a, (n0 :: nr).length, rfl, .inl ⟨_, hS1, (List.length_map ..).symm⟩, _, _, rfl, rfl, hlen, a, _, _, _, rfl, rfl, hS1, atI_nat hat, fin _⟩
      · have e : PyData.eqv (.list ((n0 :: nr).map PyData.int)) (.list []) = false := by simp [PyData.eqv, PyData.eqvAll]
        rw [e] at z
        exact absurd rfl z
theorem ok_Lstock (F : Fn0 K "_law_stock" "_law_stock" sLstock f fd) : FnOk P w K mg base CX0 1 f fd [] spLstock := by
  refine F.ok scLstock (fun vs H Q E h => ?_) (fun cdv A outer s H vs Q E hr h => ?_)
  · obtain ⟨rfl, _⟩ := h
    rfl
  · obtain ⟨rfl, q⟩ := h
    refine ⟨_, PSs.nox (pss_cons (ps_set (i := 0) scLstock.nd rfl (.inl rfl) (pe_lst
        (pa_cons (pe_tup (pa_cons pe_int (pa_cons (pe_tup (pa_cons pe_int pa_nil)) pa_nil)))
        (pa_cons (pe_tup (pa_cons pe_int (pa_cons (pe_tup (pa_cons pe_int (pa_cons pe_int pa_nil))) pa_nil)))
        (pa_cons (pe_tup (pa_cons pe_int (pa_cons (pe_tup (pa_cons pe_int (pa_cons pe_int pa_nil))) pa_nil)))
        (pa_cons (pe_tup (pa_cons pe_int (pa_cons (pe_tup (pa_cons pe_int (pa_cons pe_int pa_nil))) pa_nil)))
        (pa_cons (pe_tup (pa_cons pe_int (pa_cons (pe_tup (pa_cons pe_int (pa_cons pe_int (pa_cons pe_int (pa_cons pe_int pa_nil))))) pa_nil)))
        (pa_cons (pe_tup (pa_cons pe_int (pa_cons (pe_tup (pa_cons pe_int (pa_cons pe_int (pa_cons pe_int (pa_cons pe_int pa_nil))))) pa_nil))) pa_nil))))))))
      (pss_one (ps_ret (pe_op op_cat (pv 0) (pe_lst
        (pa_cons (pe_tup (pa_cons pe_int (pa_cons (pe_tup (pa_cons pe_int (pa_cons pe_int (pa_cons pe_int (pa_cons pe_int pa_nil))))) pa_nil)))
        (pa_cons (pe_tup (pa_cons pe_int (pa_cons (pe_tup (pa_cons pe_int (pa_cons pe_int (pa_cons pe_int (pa_cons pe_int pa_nil))))) pa_nil))) pa_nil))))))), ?_⟩
    refine seq_asg (lst_step (els_cons (row_el (N := 1) (A := [0]) (fun _ _ h => h) (by decide) fun t1 H1 s1 r1 => ?_)))
    refine els_cons (row_el (N := 3) (A := [0, 1]) (fun _ _ h => h) (by decide) fun t2 H2 s2 r2 => ?_)
    refine els_cons (row_el (N := 3) (A := [0, 2]) (fun _ _ h => h) (by decide) fun t3 H3 s3 r3 => ?_)
    refine els_cons (row_el (N := 3) (A := [1, 2]) (fun _ _ h => h) (by decide) fun t4 H4 s4 r4 => ?_)
    refine els_cons (row_el (N := 9) (A := [0, 1, 3, 4]) (fun _ _ h => h) (by decide) fun t5 H5 s5 r5 => ?_)
    refine els_cons (row_el (N := 10) (A := [0, 1, 7, 8]) (fun _ _ h => h) (by decide) fun t6 H6 s6 r6 => ?_)
    refine ⟨by show 6 ≤ sizeLine; decide, fun l1 nl1 => ⟨_, rfl, ?_⟩⟩
    refine lst_step (els_cons (row_el (N := 10) (A := [1, 2, 8, 9]) (fun _ _ h => h) (by decide) fun t7 H7 s7 r7 => ?_))
    refine els_cons (row_el (N := 9) (A := [1, 2, 4, 5]) (fun _ _ h => h) (by decide) fun t8 H8 s8 r8 => ?_)
    refine ⟨by show 2 ≤ sizeLine; decide, fun l2 nl2 => ?_⟩
    have s9 : Same H8 (upd H8 l2 (.lst [.ref t7, .ref t8])) := same_new nl2
    have hl1 := s9 _ _ (s8 _ _ (s7 _ _ upd_same))
    refine ⟨l1, l2, _, _, rfl, rfl, hl1, upd_same, by show 8 ≤ sizeLine; decide, fun p np => ?_⟩
    have s10 : Same H8 (upd (upd H8 l2 (.lst [.ref t7, .ref t8])) p (.lst ([.ref t1, .ref t2, .ref t3, .ref t4, .ref t5, .ref t6] ++ [.ref t7, .ref t8]))) := fun b x e => same_new np b x (s9 b x e)
    have sl : Same H6 (upd H6 l1 (.lst [.ref t1, .ref t2, .ref t3, .ref t4, .ref t5, .ref t6])) := same_new nl1
    have s68 : Same H6 (upd (upd H8 l2 (.lst [.ref t7, .ref t8])) p (.lst ([.ref t1, .ref t2, .ref t3, .ref t4, .ref t5, .ref t6] ++ [.ref t7, .ref t8]))) := fun b x e => s10 b x (s8 b x (s7 b x (sl b x e)))
    have sH6 : Same H H6 := fun b x e => s6 b x (s5 b x (s4 b x (s3 b x (s2 b x (s1 b x e)))))
    have sH : Same H (upd (upd H8 l2 (.lst [.ref t7, .ref t8])) p (.lst ([.ref t1, .ref t2, .ref t3, .ref t4, .ref t5, .ref t6] ++ [.ref t7, .ref t8]))) := fun b x e => s68 b x (sH6 b x e)
    have np0 : H p = none := Same.free (fun b x e => s9 b x (s8 b x (s7 b x (sl b x (sH6 b x e))))) np
    refine q p [t1, t2, t3, t4, t5, t6, t7, t8] _ sH np0 ⟨upd_same, ?_⟩
    have u5 := r5.same (fun b x e => s68 b x (s6 b x e))
    have u4 := r4.same (fun b x e => s68 b x (s6 b x (s5 b x e)))
    have u3 := r3.same (fun b x e => s68 b x (s6 b x (s5 b x (s4 b x e))))
    have u2 := r2.same (fun b x e => s68 b x (s6 b x (s5 b x (s4 b x (s3 b x e)))))
    have u1 := r1.same (fun b x e => s68 b x (s6 b x (s5 b x (s4 b x (s3 b x (s2 b x e))))))
    exact .cons u1 (.cons u2 (.cons u3 (.cons u4 (.cons u5 (.cons (r6.same s68) (.cons (r7.same fun b x e => s10 b x (s8 b x e)) (.cons (r8.same s10) .nil)))))))
/-- rows drawn by the law -/
structure Drawn (H : Hp) (a : Addr) (ts : List Addr) (rows : List Row) : Prop where
  at_ : RowsAt H a ts rows
  mem : ∀ row ∈ rows, row ∈ stock
  len : rows.length ≤ 5
  prod : prodN rows ≤ 3000
def spLdrawn : Sp := fun vs H Q _ => ∃ d : Addr, vs = [.ref d, vi 5, vi 3000] ∧ LawSt H d ∧ ∀ a ts rows H', SameX d H H' → LawSt H' d → Drawn H' a ts rows → Q (.ref a) H'
theorem stock_len {row : Row} {i : Nat} (h : stock[i]? = some row) : row ∈ stock := List.mem_of_getElem? h
theorem ok_Ldrawn (B : Bt mg) (F : Fn0 K "_law_drawn" "_law_drawn" sLdrawn f fd) (D1 : DOk P w K mg base 1 "_law_draw" ["_law_state", "_law_size"] spLdraw) (D2 : DOk P w K mg base 1 "_law_stock" [] spLstock) :
    FnOk P w K mg base CX0 2 f fd ["_law_state", "_law_most", "_law_bound"] spLdrawn := by
  refine F.ok scLdrawn (fun vs H Q E h => ?_) (fun cdv A outer s H vs Q E hr h => ?_)
  · obtain ⟨d, rfl, _⟩ := h
    rfl
  · obtain ⟨d, rfl, hd, q⟩ := h
    refine ⟨_, PSs.nox (pss_cons (ps_par3 (i := 3) (j := 4) (l := 5) rfl scLdrawn.nd rfl rfl rfl (by decide) (by decide) (by decide) rfl rfl rfl (pa_cons (pe_d0 D2 hr (by rfl)) (pa_cons (pe_lst pa_nil) (pa_cons pe_int pa_nil))) (by rfl))
      (pss_cons (ps_for PassesOwn.never rfl (pi_range1 (by rfl) B.range (pa_cons (pe_d D1 hr (by rfl) (pa_cons (pv 0) (pa_cons (pe_op op_add (pv 1) pe_int) pa_nil))) pa_nil)) (pg_name (i := 6) scLdrawn.nd rfl (.inl rfl))
        (pss_cons (ps_set (i := 7) scLdrawn.nd rfl (.inl rfl) (pe_ix ix_list (pv 3) (pe_d D1 hr (by rfl) (pa_cons (pv 0) (pa_cons (pe_callB call_len (by rfl) B.len boot_len (pa_cons (pv 3) pa_nil)) pa_nil))) (by intro _ _; rfl)))
        (pss_one (ps_if (pt_cmpR op_le (pe_op op_mul (pv 5) (pe_ix ix_tup (pv 7) pe_int (by intro _ _; rfl))) (pv 2) (nomark _))
          (pss_cons (ps_expr (pe_bm PySem.F.plainAttrs_list PySem.F.slot_list_append PySem.F.type_list_append mt_append (pv 4) (pa_cons (pv 7) pa_nil)))
          (pss_one (ps_set (i := 5) scLdrawn.nd rfl (.inl rfl) (pe_op op_mul (pv 5) (pe_ix ix_tup (pv 7) pe_int (by intro _ _; rfl)))))) pss_nil))))
      (pss_one (ps_ret (pv 4))))), ?_⟩
    refine ⟨rfl, fun sa sts H1 s1 nsa rs => ⟨Nat.zero_le _, fun o no => ⟨_, _, _, rfl, ?_⟩⟩⟩
    have s2 : Same H (upd H1 o (.lst [])) := fun b x e => same_new no b x (s1 b x e)
    have rs2 := rs.same (same_new no (o := .lst []))
    have ho2 : upd H1 o (.lst []) o = some (.lst []) := upd_same
    have noH : H o = none := Same.free s1 no
    have nod : o ≠ d := by
      rintro rfl
      obtain ⟨l, m, t, hh⟩ := hd
      rw [noH] at hh
      cases hh
    have hd2 := hd.same s2
    generalize upd H1 o (.lst []) = H2 at s2 rs2 ho2 hd2 ⊢
    refine ⟨_, rfl, _, rfl, _, _, rfl, rfl, d, 6, rfl, hd2, by decide, by decide, fun r H3 hr3 x3 hd3 => ?_⟩
    have ho3 := x3 _ _ nod ho2
    have rs3 := rs2.lawD hd2.d x3
    refine ⟨_, rfl, by omega, by omega, for_range (fun i σ H4 => ∃ (rows : List Row) (ts : List Addr) (y6 y7 : Option V), σ = [some (.ref d), some (vi 5), some (vi 3000), some (.ref sa), some (.ref o), some (vi (prodN rows)), y6, y7] ∧
        SameX d H H4 ∧ LawSt H4 d ∧ RowsAt H4 sa sts stock ∧ RowsAt H4 o ts rows ∧ (∀ row ∈ rows, row ∈ stock) ∧ rows.length ≤ i ∧ prodN rows ≤ 3000)
      ⟨[], [], none, none, rfl, (Same.x s2 d).trans x3, hd3, rs3, ⟨ho3, .nil⟩, (fun _ h => by cases h), Nat.le_refl _, by decide⟩ ?_ ?_⟩
    · rintro i σ H4 hi ⟨rows, ts, y6, y7, rfl, x4, hd4, rs4, ro4, hm, hl, hp⟩
      have hi : i < r := by
        have hi : i < ((r : Nat) : Int).toNat := hi
        rwa [Int.toNat_natCast] at hi
      have l8 : (refs sts).length = 8 := by
        rw [List.length_map, rs4.len]
        rfl
      refine ⟨_, rfl, _, rfl, _, rfl, .ref sa, 8, rfl, .inl ⟨_, sqL_of rs4.lst, l8.symm⟩, d, 8, rfl, hd4, by decide, by decide, fun k H5 hk x5 hd5 => ?_⟩
      have rs5 := rs4.lawD hd4.d x5
      have ro5 := ro4.lawD hd4.d x5
      have kl : k < (refs sts).length := by omega
      obtain ⟨tk, row, etk, hrow, mt, h1, h2⟩ := rs5.at_ (List.getElem?_eq_getElem kl)
      have hat : (refs sts)[k]? = some (.ref tk) := by rw [List.getElem?_eq_getElem kl, etk]
      have hst := stock_len hrow
      have o5 := RowOk.of hst
      refine ⟨sa, _, _, _, rfl, rfl, sqL_of rs5.lst, atI_nat hat, ?_⟩
      refine ⟨_, rfl, _, rfl, tk, _, _, vi row.1, rfl, rfl, sqT_of h1, rfl, _, _, rfl, rfl, .inr (small64 o5.ten), _, rfl, _, _, rfl, rfl, _, rfl, ?_⟩
      refine ite2 (fun hle => ?_) (fun _ => ?_)
      · have hle2 : prodN rows * row.1 ≤ 3000 := by
          have z := of_decide_eq_true hle
          have z2 : ((prodN rows * row.1 : Nat) : Int) ≤ ((3000 : Nat) : Int) := z
          exact Int.ofNat_le.mp z2
        have lts : ts.length = rows.length := ro5.len
        refine ⟨_, rfl, .inl ⟨rfl, _, sqL_of ro5.lst⟩, _, rfl, o, _, _, rfl, rfl, ro5.lst, by rw [List.length_map, lts]; exact small1000 (by omega), ?_⟩
        have x6 : SameX o H5 (upd H5 o (.lst (refs ts ++ [.ref tk]))) := sameX_upd
        have nt5 : ∀ xs, H5 o ≠ some (.tup xs) := fun xs e => by
          rw [ro5.lst] at e
          cases e
        have row6 : RowAt (upd H5 o (.lst (refs ts ++ [.ref tk]))) tk row := RowAt.sx nt5 x6 ⟨mt, h1, h2⟩
        have row6b := row6
        obtain ⟨mt2, h3, h4⟩ := row6b
        have nso : sa ≠ o := by
          rintro rfl
          have e1 := Option.some.inj (ro5.lst.symm.trans rs5.lst)
          injection e1 with e1
          have e2 : ts.length = sts.length := by
            have := congrArg List.length e1
            rwa [List.length_map, List.length_map] at this
          have e3 : rows.length = 8 := by
            rw [← lts, e2, rs5.len]
            rfl
          omega
        refine ⟨_, rfl, _, rfl, tk, _, _, vi row.1, rfl, rfl, sqT_of h3, rfl, _, _, rfl, rfl, .inr (small64 o5.ten), ?_⟩
        refine ⟨rows ++ [row], ts ++ [tk], some (.int (0 + (i : Int))), some (.ref tk), ?_, ?_, ?_, ⟨x6 _ _ nso rs5.lst, Paired.mapP rs5.rows fun _ _ => RowAt.sx nt5 x6⟩, ⟨?_, paired_app (Paired.mapP ro5.rows fun _ _ => RowAt.sx nt5 x6) (.cons row6 .nil)⟩, ?_, ?_, ?_⟩
        · rw [prod_snoc]
          rfl
        · exact fun b z n e => x6 _ _ (fun y => by rw [y, noH] at e; cases e) (x5 b z n (x4 b z n e))
        · exact LawSt.sx5 (Ne.symm nod) x6 hd5
        · rw [upd_same]
          unfold refs
          rw [List.map_append]
          rfl
        · intro r2 hr2
          rcases List.mem_append.mp hr2 with hr2 | hr2
          · exact hm _ hr2
          · rw [List.mem_singleton.mp hr2]
            exact hst
        · rw [List.length_append]
          show rows.length + 1 ≤ i + 1
          omega
        · rw [prod_snoc]
          exact hle2
      · exact ⟨rows, ts, _, _, rfl, x4.trans x5, hd5, rs5, ro5, hm, Nat.le_succ_of_le hl, hp⟩
    · rintro σ H4 ⟨rows, ts, y6, y7, rfl, x4, hd4, rs4, ro4, hm, hl, hp⟩
      have hl2 : rows.length ≤ r := by
        have hl : rows.length ≤ ((r : Nat) : Int).toNat := hl
        rwa [Int.toNat_natCast] at hl
      exact ⟨_, rfl, q o ts rows H4 x4 hd4 ⟨ro4, hm, by omega, hp⟩⟩
end
end Tf
/-! ### serving pairs, composed pairs by the law -/
namespace Tf
open PySem PySem.Spec PyProof.Rows L2
def cD (e : Srv) : PyData := .tuple [.int (e.1 : Int), .int (e.2.1 : Int), .int (e.2.2 : Int)]
theorem cD_inj {a b : Srv} (h : cD a = cD b) : a = b := by
  obtain ⟨a1, a2, a3⟩ := a
  obtain ⟨b1, b2, b3⟩ := b
  unfold cD at h
  injection h with h
  injection h with h1 h
  injection h with h2 h
  injection h with h3 h
  injection h1 with h1
  injection h2 with h2
  injection h3 with h3
  have e1 : a1 = b1 := Int.ofNat.inj h1
  have e2 : a2 = b2 := Int.ofNat.inj h2
  have e3 : a3 = b3 := Int.ofNat.inj h3
  rw [e1, e2, e3]
def minB (row : Row) : Bool := (List.range row.1).all fun r => row.2.contains r || match (cand row r).map cD with
  | [] => false
  | d :: ds => match PySem.W.minD d ds with
    | .tuple [.int a, .int b, .int c] => decide (a = ((srv row r).1 : Int)) && (decide (b = ((srv row r).2.1 : Int)) && decide (c = ((srv row r).2.2 : Int)))
    | _ => false
theorem stock_min : ∀ row ∈ stock, minB row = true := by decide +kernel
theorem min_fact {row : Row} (h : row ∈ stock) {r : Nat} (hr : r < row.1) (hn : r ∉ row.2) : ∃ d ds, (cand row r).map cD = d :: ds ∧ PySem.W.minD d ds = cD (srv row r) := by
  have b := List.all_eq_true.mp (stock_min row h) r (List.mem_range.mpr hr)
  have hc : row.2.contains r = false := by
    cases e : row.2.contains r with
    | false => rfl
    | true => exact absurd (List.contains_iff_mem.mp e) hn
  rw [hc, Bool.false_or] at b
  cases e : (cand row r).map cD with
  | nil =>
    rw [e] at b
    cases b
  | cons d ds =>
    rw [e] at b
    refine ⟨d, ds, rfl, ?_⟩
    have b2 : (match PySem.W.minD d ds with
      | .tuple [.int a, .int b, .int c] => decide (a = ((srv row r).1 : Int)) && (decide (b = ((srv row r).2.1 : Int)) && decide (c = ((srv row r).2.2 : Int)))
      | _ => false) = true := b
    split at b2
    · rename_i a b c em
      obtain ⟨h1, h2⟩ := andB b2
      obtain ⟨h2, h3⟩ := andB h2
      rw [em, of_decide_eq_true h1, of_decide_eq_true h2, of_decide_eq_true h3]
      rfl
    · cases b2
def EntAt (H : Hp) (t : Addr) (e : Srv) : Prop := H t = some (.tup [vi e.1, vi e.2.1, vi e.2.2])
def EntsAt (H : Hp) (ts : List Addr) (es : List Srv) : Prop := Paired (EntAt H) ts es
theorem EntsAt.same {H H' : Hp} {ts : List Addr} {es : List Srv} (s : Same H H') (h : EntsAt H ts es) : EntsAt H' ts es := Paired.mapP h fun _ _ e => s _ _ e
theorem EntsAt.sx {H H' : Hp} {d : Addr} (hd : ∀ xs, H d ≠ some (.tup xs)) {ts : List Addr} {es : List Srv} (s : SameX d H H') (h : EntsAt H ts es) : EntsAt H' ts es :=
  Paired.mapP h fun _ _ e => s _ _ (fun z => hd _ (z ▸ e)) e
theorem EntsAt.dp {K : Fg} {H : Hp} : ∀ {ts : List Addr} {es : List Srv}, EntsAt H ts es → DpAll K H (refs ts) (es.map cD)
  | _, _, .nil => .nil
  | _ :: _, _ :: _, .cons e r => .cons (.tup (sqT_of e) (.cons (.int _) (.cons (.int _) (.cons (.int _) .nil)))) (EntsAt.dp r)
theorem cD_alike (es : List Srv) : PySem.W.AlikeAll (es.map cD) := by
  refine ⟨fun x hx y hy => ?_, fun x hx => ?_⟩
  · obtain ⟨a, _, rfl⟩ := List.mem_map.mp hx
    obtain ⟨b, _, rfl⟩ := List.mem_map.mp hy
    simp [cD, PySem.W.alike, PySem.W.alikeAll]
  · obtain ⟨a, _, rfl⟩ := List.mem_map.mp hx
    intro z
    cases z
theorem cD_depth : ∀ es : List Srv, PyData.depthAll (es.map cD) ≤ 1
  | [] => by simp [PyData.depthAll]
  | e :: es => by
    have h1 := cD_depth es
    have h2 : (cD e).depth = 1 := by simp [cD, PyData.depth, PyData.depthAll]
    simp only [List.map_cons, PyData.depthAll]
    omega
def spLserving : Sp := fun vs H Q _ => ∃ (row : Row) (a : Addr) (r : Nat), vs = [vi row.1, .ref a, vi r] ∧ H a = some (.tup (vis row.2)) ∧ row ∈ stock ∧ r < row.1 ∧ r ∉ row.2 ∧
  ∀ t H', Same H H' → H' t = some (.tup [vi (srv row r).1, vi (srv row r).2.1, vi (srv row r).2.2]) → Q (.ref t) H'
def candF (row : Row) (r l m : Nat) : Option Srv := if l < m ∧ (2 * m - l) % row.1 = r ∧ (2 * m - l < row.1 ∨ r < mx row.2) then some ((2 * m - l) / row.1, l, m) else none
theorem cand_eq (row : Row) (r : Nat) : cand row r = row.2.flatMap fun l => row.2.filterMap (candF row r l) := rfl
theorem fm_step {α β : Type} {g : α → Option β} {l : List α} {j : Nat} {m : α} (h : l[j]? = some m) : (l.take (j + 1)).filterMap g = (l.take j).filterMap g ++ (g m).toList := by
  rw [List.take_add_one, h, List.filterMap_append]
  congr 1
theorem fl_step {α β : Type} {g : α → List β} {l : List α} {j : Nat} {m : α} (h : l[j]? = some m) : (l.take (j + 1)).flatMap g = (l.take j).flatMap g ++ g m := by
  rw [List.take_add_one, h, List.flatMap_append]
  congr 1
  simp
theorem fm_len {α β : Type} (g : α → Option β) (l : List α) : (l.filterMap g).length ≤ l.length := List.length_filterMap_le g l
theorem max_part {row : Row} (ok : RowOk row) : ∃ n ns, vis row.2 = (n :: ns).map V.int ∧ ns.foldl max n = ((mx row.2 : Nat) : Int) := by
  have h1 := ok.some_
  unfold mx
  cases e : row.2 with
  | nil =>
    rw [e] at h1
    cases h1
  | cons l0 r =>
    refine ⟨(l0 : Int), r.map fun x : Nat => (x : Int), ?_, ?_⟩
    · show vi l0 :: r.map vi = V.int l0 :: (r.map fun x : Nat => (x : Int)).map V.int
      rw [List.map_map]
      rfl
    · rw [foldl_max]
      show _ = ((r.foldl Nat.max (Nat.max 0 l0) : Nat) : Int)
      rw [show Nat.max 0 l0 = l0 from Nat.zero_max _]
section
variable {P : Program} {w : World} {K : Fg} {mg : Str → Option Value} {base : Heap} {f C S : Addr} {fd : FuncData}
theorem ok_Lserving (B : Bt mg) (F : Fn0 K "_law_serving" "_law_serving" sLserving f fd) : FnOk P w K mg base CX0 1 f fd ["_law_step", "_law_parts", "_law_rest"] spLserving := by
  refine F.ok scLserving (fun vs H Q E h => ?_) (fun cdv A outer s H vs Q E hr h => ?_)
  · obtain ⟨row, a, r, rfl, _⟩ := h
    rfl
  · obtain ⟨row, a, r, rfl, ha, hst, hr1, hn, q⟩ := h
    have ok := RowOk.of hst
    refine ⟨_, PSs.nox (pss_cons (ps_set (i := 3) scLserving.nd rfl (.inl rfl) (pe_lst pa_nil))
      (pss_cons (ps_for PassesOwn.never rfl (pi_tup (pv 1)) (pg_name (i := 4) scLserving.nd rfl (.inl rfl))
        (pss_one (ps_for PassesOwn.never rfl (pi_tup (pv 1)) (pg_name (i := 5) scLserving.nd rfl (.inl rfl))
          (pss_cons (ps_set (i := 6) scLserving.nd rfl (.inl rfl) (pe_op op_sub (pe_op op_mul pe_int (pv 5)) (pv 4)))
          (pss_one (ps_if (PW.pt (pw_and (pt_cmp (pc_lt (pv 4) (pv 5))) (pw_and (pt_cmp (pc_eqI (pe_op op_mod (pv 6) (pv 0)) (pv 2))) (pw_and1 (PW.pt (pw_or (pt_cmp (pc_lt (pv 6) (pv 0)))
              (pw_or1 (pt_cmp (pc_lt (pv 2) (pe_callB (call_maxT rfl (hu1 hr)) (by rfl) B.max boot_max (pa_cons (pv 1) pa_nil)))))))))))
            (pss_one (ps_expr (pe_bm PySem.F.plainAttrs_list PySem.F.slot_list_append PySem.F.type_list_append mt_append (pv 3) (pa_cons (pe_tup (pa_cons (pe_op op_fdiv (pv 6) (pv 0)) (pa_cons (pv 4) (pa_cons (pv 5) pa_nil)))) pa_nil)))) pss_nil))))))
      (pss_one (ps_ret (pe_callB (call_minD rfl hr.units) (by rfl) B.min boot_min (pa_cons (pv 3) pa_nil)))))), ?_⟩
    refine ⟨Nat.zero_le _, fun o no => ?_⟩
    have s0 : Same H (upd H o (.lst [])) := same_new no
    have h4 := ok.four
    have h10 := ok.ten
    have hN : (0 : Int) < (row.1 : Int) := Int.natCast_pos.mpr ok.pos
    obtain ⟨n0, ns, em1, em2⟩ := max_part ok
    refine ⟨_, rfl, a, rfl, ⟨_, sqT_of (s0 _ _ ha)⟩, for_tup (K := K) (a := a) (xs := vis row.2)
      (fun i σ H3 => ∃ (y4 y5 y6 : Option V) (ts : List Addr), σ = [some (vi row.1), some (.ref a), some (vi r), some (.ref o), y4, y5, y6] ∧ Same H H3 ∧ H3 o = some (.lst (refs ts)) ∧
        EntsAt H3 ts ((row.2.take i).flatMap fun l => row.2.filterMap (candF row r l)) ∧ ts.length ≤ 4 * i)
      ⟨none, none, none, [], rfl, s0, upd_same, .nil, Nat.zero_le _⟩ (fun i σ H3 _ ⟨_, _, _, _, _, e, _⟩ => sqT_of (e _ _ ha)) ?_ ?_⟩
    · rintro i x σ H3 hi ⟨y4, y5, y6, ts, rfl, s3, ho3, en3, l3⟩
      obtain ⟨l, hl, rfl⟩ := vis_at hi
      rw [fl_step hl]
      generalize (row.2.take i).flatMap (fun l => row.2.filterMap (candF row r l)) = E0 at en3 ⊢
      have li : i < row.2.length := (List.getElem?_eq_some_iff.mp hl).1
      refine ⟨_, rfl, a, rfl, ⟨_, sqT_of (s3 _ _ ha)⟩, for_tup (K := K) (a := a) (xs := vis row.2)
        (fun j σ H4 => ∃ (y5 y6 : Option V) (ts : List Addr), σ = [some (vi row.1), some (.ref a), some (vi r), some (.ref o), some (vi l), y5, y6] ∧ Same H H4 ∧ H4 o = some (.lst (refs ts)) ∧
          EntsAt H4 ts (E0 ++ (row.2.take j).filterMap (candF row r l)) ∧ ts.length ≤ 4 * i + j)
        ⟨_, _, ts, rfl, s3, ho3, by rw [List.take_zero, List.filterMap_nil, List.append_nil]; exact en3, l3⟩ (fun i σ H3 _ ⟨_, _, _, _, e, _⟩ => sqT_of (e _ _ ha)) ?_ ?_⟩
      · rintro j x σ H4 hj ⟨y5, y6, ts, rfl, s4, ho4, en4, l4⟩
        obtain ⟨m, hm, rfl⟩ := vis_at hj
        rw [fm_step hm]
        have lj : j < row.2.length := (List.getElem?_eq_some_iff.mp hm).1
        have ha4 := s4 _ _ ha
        refine ⟨_, rfl, _, _, rfl, rfl, .inl (by decide), _, rfl, _, _, rfl, rfl, ?_⟩
        by_cases hlm : l < m
        · obtain ⟨ec, er⟩ := int_step (N := row.1) (Nat.le_of_lt hlm)
          have eg : (2 * (m : Int) - (l : Int)) = ((2 * m - l : Nat) : Int) := by omega
          have cf : candF row r l m = if (2 * m - l) % row.1 = r ∧ (2 * m - l < row.1 ∨ r < mx row.2) then some ((2 * m - l) / row.1, l, m) else none := by
            unfold candF
            by_cases z : (2 * m - l) % row.1 = r ∧ (2 * m - l < row.1 ∨ r < mx row.2)
            · rw [if_pos ⟨hlm, z⟩, if_pos z]
            · rw [if_neg (fun y => z y.2), if_neg z]
          have stay : ¬ ((2 * m - l) % row.1 = r ∧ (2 * m - l < row.1 ∨ r < mx row.2)) → ∃ (y5 y6 : Option V) (ts : List Addr),
              [some (vi row.1), some (V.ref a), some (vi r), some (.ref o), some (vi l), some (vi m), some (.int (2 * (m : Int) - (l : Int)))] = [some (vi row.1), some (.ref a), some (vi r), some (.ref o), some (vi l), y5, y6] ∧ Same H H4 ∧ H4 o = some (.lst (refs ts)) ∧
              EntsAt H4 ts (E0 ++ ((row.2.take j).filterMap (candF row r l) ++ (candF row r l m).toList)) ∧ ts.length ≤ 4 * i + (j + 1) := fun z => by
            rw [cf, if_neg z]
            exact ⟨_, _, ts, rfl, s4, ho4, by rw [Option.toList_none, List.append_nil]; exact en4, Nat.le_succ_of_le l4⟩
          refine ⟨_, rfl, _, rfl, _, _, rfl, rfl, _, rfl, ?_⟩
          refine ite2 (fun _ => ?_) (fun z => absurd (decide_eq_true (Int.ofNat_lt.mpr hlm)) z)
          refine ⟨_, rfl, _, rfl, _, _, rfl, rfl, hN, _, rfl, _, _, rfl, rfl, _, rfl, ?_⟩
          refine ite2 (fun hmod => ?_) (fun hmod => stay ?_)
          · have hmod2 : (2 * m - l) % row.1 = r := by
              have z : (2 * (m : Int) - (l : Int)) % (row.1 : Int) = (r : Int) := of_decide_eq_true hmod
              rw [er] at z
              exact Int.ofNat.inj z
            refine tOr_bb (b1 := decide ((2 * (m : Int) - (l : Int)) < (row.1 : Int))) (b2 := decide ((r : Int) < ((mx row.2 : Nat) : Int))) (fun R h => ⟨_, rfl, _, rfl, _, _, rfl, rfl, _, rfl, h⟩)
              (fun _ R h => ⟨_, rfl, _, rfl, a, n0, ns, rfl, sqT_of (by rw [ha4, em1]), _, _, rfl, rfl, _, rfl, by rw [em2]; exact h⟩) ?_
            refine ite2 (fun hor => ?_) (fun hor => stay ?_)
            · have hor2 : 2 * m - l < row.1 ∨ r < mx row.2 := by
                rcases Bool.or_eq_true_iff.mp hor with z | z
                · have := of_decide_eq_true z
                  exact .inl (by omega)
                · exact .inr (Int.ofNat_lt.mp (of_decide_eq_true z))
              rw [cf, if_pos ⟨hmod2, hor2⟩]
              have e1 : V.int ((2 * (m : Int) - (l : Int)) / (row.1 : Int)) = vi ((2 * m - l) / row.1) := by rw [ec]
              refine ⟨_, rfl, .inl ⟨rfl, _, sqL_of ho4⟩, _, rfl, _, rfl, _, _, rfl, rfl, ⟨hN, by show (row.1 : Int) < 1073741824; omega⟩, _, rfl, _, rfl, by show 3 ≤ sizeLine; decide, fun t nt => ?_⟩
              have hot := same_new nt (o := .tup [.int ((2 * (m : Int) - (l : Int)) / (row.1 : Int)), vi l, vi m]) _ _ ho4
              refine ⟨o, _, _, rfl, rfl, hot, by rw [List.length_map]; exact small1000 (by omega), ?_⟩
              refine ⟨_, _, ts ++ [t], rfl, same_own (fun b x e => same_new nt b x (s4 b x e)) no, ?_, ?_, ?_⟩
              · rw [upd_same]
                unfold refs
                rw [List.map_append]
                rfl
              · rw [← List.append_assoc]
                refine paired_app ?_ (.cons ?_ .nil)
                · exact EntsAt.sx (fun xs z => by
                    rw [hot] at z
                    cases z) sameX_upd (en4.same (same_new nt))
                · show upd _ o _ t = _
                  have nto : t ≠ o := by
                    rintro rfl
                    rw [nt] at ho4
                    cases ho4
                  rw [upd_ne nto, upd_same]
                  show some (HO.tup [V.int ((2 * (m : Int) - (l : Int)) / (row.1 : Int)), vi l, vi m]) = _
                  rw [e1]
              · rw [List.length_append]
                show ts.length + 1 ≤ _
                omega
            · rintro ⟨_, z⟩
              refine hor (Bool.or_eq_true_iff.mpr ?_)
              rcases z with z | z
              · exact .inl (decide_eq_true (by omega))
              · exact .inr (decide_eq_true (Int.ofNat_lt.mpr z))
          · rintro ⟨z, _⟩
            refine hmod (decide_eq_true ?_)
            show (2 * (m : Int) - (l : Int)) % (row.1 : Int) = (r : Int)
            rw [er, z]
        · have cf : candF row r l m = none := by
            unfold candF
            rw [if_neg (fun y => hlm y.1)]
          refine ⟨_, rfl, _, rfl, _, _, rfl, rfl, _, rfl, ?_⟩
          refine ite2 (fun z => absurd (Int.ofNat_lt.mp (of_decide_eq_true z)) hlm) (fun _ => ?_)
          rw [cf]
          exact ⟨_, _, ts, rfl, s4, ho4, by rw [Option.toList_none, List.append_nil]; exact en4, Nat.le_succ_of_le l4⟩
      · rintro σ H4 ⟨y5, y6, ts, rfl, s4, ho4, en4, l4⟩
        rw [vis_len, List.take_length] at en4
        exact ⟨_, _, _, ts, rfl, s4, ho4, en4, by rw [vis_len] at l4; omega⟩
    · rintro σ H3 ⟨y4, y5, y6, ts, rfl, s3, ho3, en3, l3⟩
      rw [vis_len, List.take_length, ← cand_eq] at en3
      obtain ⟨d, ds, e1, e2⟩ := min_fact hst hr1 hn
      refine ⟨_, rfl, o, _, d, ds, rfl, sqL_of ho3, ?_, ?_, ?_, fun i v hv hd => ?_⟩
      · rw [← e1]
        exact en3.dp
      · rw [← e1]
        exact cD_alike _
      · rw [← e1]
        exact Nat.le_trans (cD_depth _) (by decide)
      · rw [List.getElem?_map] at hv
        cases ei : ts[i]? with
        | none =>
          rw [ei] at hv
          cases hv
        | some t =>
          rw [ei] at hv
          cases hv
          obtain ⟨e, he, het⟩ := paired_at en3 ei
          rw [← e1, List.getElem?_map, he, e2] at hd
          have := cD_inj (Option.some.inj hd)
          subst this
          exact q t H3 s3 het
end
end Tf
/-! ### composed pairs by the law -/
namespace Tf
open PySem PySem.Spec PyProof.Rows L2
def rowD (row : Row) : PyData := .tuple [.int (row.1 : Int), .tuple (row.2.map fun n : Nat => PyData.int (n : Int))]
theorem rowD_lay (row : Row) : (rowD row).canLay0 = true := by
  have h : ∀ l : List Nat, PyData.canLayAll0 (l.map fun n : Nat => PyData.int (n : Int)) = true := fun l => by
    induction l with
    | nil => simp [PyData.canLayAll0]
    | cons a l ih => simp [PyData.canLayAll0, PyData.canLay0, ih]
  simp [rowD, PyData.canLay0, PyData.canLayAll0, h]
theorem rowD_depth (row : Row) : (rowD row).depth ≤ 3 := by
  have h : ∀ l : List Nat, PyData.depthAll (l.map fun n : Nat => PyData.int (n : Int)) = 0 := fun l => by
    induction l with
    | nil => simp [PyData.depthAll]
    | cons a l ih => simp [PyData.depthAll, PyData.depth, ih]
  simp [rowD, PyData.depth, PyData.depthAll, h]
theorem rowsD_lay : ∀ rows : List Row, PyData.canLayAll0 (rows.map rowD) = true
  | [] => by simp [PyData.canLayAll0]
  | r :: rows => by simp [PyData.canLayAll0, rowD_lay r, rowsD_lay rows]
theorem rowsD_depth : ∀ rows : List Row, PyData.depthAll (rows.map rowD) ≤ 3
  | [] => by simp [PyData.depthAll]
  | r :: rows => by
    have h1 := rowsD_depth rows
    have h2 := rowD_depth r
    simp only [List.map_cons, PyData.depthAll]
    omega
theorem rowsD_shaped (rows : List Row) : SeqAt.shaped (.list (rows.map rowD)) = true := by
  have h1 := rowsD_depth rows
  show (PyData.canLay0 (.list (rows.map rowD)) && decide (PyData.depth (.list (rows.map rowD)) ≤ 64)) = true
  rw [Bool.and_eq_true]
  refine ⟨by simp only [PyData.canLay0]; exact rowsD_lay rows, decide_eq_true ?_⟩
  simp only [PyData.depth]
  omega
theorem ints_dp {K : Fg} {H : Hp} : ∀ l : List Nat, DpAll K H (vis l) (l.map fun n : Nat => PyData.int (n : Int))
  | [] => .nil
  | n :: l => .cons (.int _) (ints_dp l)
theorem rows_dp {K : Fg} {H : Hp} : ∀ {ts : List Addr} {rows : List Row}, Paired (RowAt H) ts rows → DpAll K H (refs ts) (rows.map rowD)
  | _, _, .nil => .nil
  | _ :: _, _ :: _, .cons ⟨m, h1, h2⟩ r => .cons (.tup (sqT_of h1) (.cons (.int _) (.cons (.tup (sqT_of h2) (ints_dp _)) .nil))) (rows_dp r)
theorem cut_tail (v : V) (vs : List V) : cutV (v :: vs) (some 1) none = vs := by
  unfold cutV
  have e1 : HT.sIx (v :: vs).length 0 (some 1) = 1 := by
    simp [HT.sIx]
  have e2 : HT.sIx (v :: vs).length (v :: vs).length none = vs.length + 1 := by
    simp [HT.sIx]
  rw [e1, e2]
  show (vs.take (vs.length + 1 - 1)) = vs
  rw [Nat.add_sub_cancel, List.take_length]
def spLcomp (n : Nat) : Sp := fun vs H Q _ => ∃ (a : Addr) (ts : List Addr) (rows : List Row) (x : Nat), vs = [.ref a, vi x] ∧ RowsAt H a ts rows ∧ (∀ row ∈ rows, row ∈ stock) ∧ rows.length < n ∧
  ∀ v H', Same H H' → PairV H' (comp rows x) v → Q v H'
section
variable {P : Program} {w : World} {K : Fg} {mg : Str → Option Value} {base : Heap} {f C S : Addr} {fd : FuncData}
theorem ok_Lcomp_step (F : Fn0 K "_law_composed" "_law_composed" sLcomposed f fd) (D1 : DOk P w K mg base 1 "_law_plain" ["_law_place"] spLplain) (D2 : DOk P w K mg base 1 "_law_serving" ["_law_step", "_law_parts", "_law_rest"] spLserving)
    {n : Nat} (D3 : DOk P w K mg base (n + 2) "_law_composed" ["_law_rows", "_law_place"] (spLcomp n)) : FnOk P w K mg base CX0 (n + 3) f fd ["_law_rows", "_law_place"] (spLcomp (n + 1)) := by
  refine F.ok scLcomposed (fun vs H Q E h => ?_) (fun cdv A outer s H vs Q E hr h => ?_)
  · obtain ⟨a, ts, rows, x, rfl, _⟩ := h
    rfl
  · obtain ⟨a, ts, rows, x, rfl, ra, hm, hl, q⟩ := h
    have hr1 : Room 1 _ := hr.mono (by omega)
    refine ⟨_, PSs.nox (pss_cons (ps_if (pt_cmpR (op_eqD hr.units) (pv 0) (pe_lst pa_nil) (by rfl)) (pss_one (ps_ret (pe_d D1 hr1 (by rfl) (pa_cons (pv 1) pa_nil)))) pss_nil)
      (pss_cons (ps_asg (pe_ix ix_list (pv 0) pe_int (by intro _ _; rfl)) (pg_tup rfl (pgs_cons (pg_name (i := 2) scLcomposed.nd rfl (.inl rfl)) (pgs_cons (pg_name (i := 3) scLcomposed.nd rfl (.inl rfl)) pgs_nil))))
      (pss_cons (ps_set (i := 4) scLcomposed.nd rfl (.inl rfl) (pe_op op_mod (pv 1) (pv 2)))
      (pss_cons (ps_par3 (i := 5) (j := 6) (l := 7) rfl scLcomposed.nd rfl rfl rfl (by decide) (by decide) (by decide) rfl rfl rfl (pa_cons (pv 4) (pa_cons (pv 4) (pa_cons pe_int pa_nil))) (by rfl))
      (pss_cons (ps_if (pt_cmpR op_notIn_seq (pv 4) (pv 3) (by rfl))
          (pss_one (ps_asg (pe_d D2 hr1 (by rfl) (pa_cons (pv 2) (pa_cons (pv 3) (pa_cons (pv 4) pa_nil)))) (pg_tup rfl (pgs_cons (pg_name (i := 7) scLcomposed.nd rfl (.inl rfl)) (pgs_cons (pg_name (i := 5) scLcomposed.nd rfl (.inl rfl)) (pgs_cons (pg_name (i := 6) scLcomposed.nd rfl (.inl rfl)) pgs_nil)))))) pss_nil)
      (pss_cons (ps_if (pt_cmp (pc_lt (pe_op op_fdiv (pv 1) (pv 2)) (pv 7))) (pss_one (ps_ret pe_non)) pss_nil)
      (pss_cons (ps_set (i := 8) scLcomposed.nd rfl (.inl rfl) (pe_d D3 hr (by rfl) (pa_cons (pe_slice sl_list (pv 0) (po_some pe_int) po_none) (pa_cons (pe_op op_sub (pe_op op_fdiv (pv 1) (pv 2)) (pv 7)) pa_nil))))
      (pss_cons (ps_if (pt_cmp (pc_isN (pv 8))) (pss_one (ps_ret pe_non)) pss_nil)
      (pss_one (ps_ret (pe_tup (pa_cons (pe_op op_add (pv 5) (pe_op op_mul (pv 2) (pe_ix ix_tup (pv 8) pe_int (by intro _ _; rfl)))) (pa_cons (pe_op op_add (pv 6) (pe_op op_mul (pv 2) (pe_ix ix_tup (pv 8) pe_int (by intro _ _; rfl)))) pa_nil))))))))))))), ?_⟩
    refine ⟨_, rfl, Nat.zero_le _, fun l0 nl0 => ?_⟩
    have s1 : Same H (upd H l0 (.lst [])) := same_new nl0
    have ra1 := ra.same s1
    have d0 : Dp K (upd H l0 (.lst [])) (.ref l0) (.list []) := .lst (sqL_of upd_same) .nil
    generalize upd H l0 (.lst []) = H1 at s1 ra1 d0 ⊢
    refine ⟨_, _, .lst (sqL_of ra1.lst) (rows_dp ra1.rows), d0, rowsD_shaped rows, rowsD_shaped [], _, rfl, ?_⟩
    cases rows with
    | nil =>
      have e : PyData.eqv (.list (([] : List Row).map rowD)) (.list []) = true := by simp [PyData.eqv, PyData.eqvAll]
      refine ite2 (fun _ => ?_) (fun z => absurd e z)
      exact ⟨_, rfl, x, rfl, fun t H2 s2 ht => q _ _ (fun b x e => s2 b x (s1 b x e)) ⟨t, rfl, ht⟩⟩
    | cons row rs =>
      have e : PyData.eqv (.list ((row :: rs).map rowD)) (.list []) = false := by simp [PyData.eqv, PyData.eqvAll]
      refine ite2 (fun z => by rw [e] at z; cases z) (fun _ => ?_)
      obtain ⟨rl, rr⟩ := ra
      cases rr with
      | @cons t _ ts _ hrow hrest =>
        have ra : RowsAt H a (t :: ts) (row :: rs) := ⟨rl, .cons hrow hrest⟩
        obtain ⟨m, h1, h2⟩ := hrow.same s1
        have hst := hm row (List.mem_cons_self ..)
        have ok := RowOk.of hst
        have h10 := ok.ten
        have hN : (0 : Int) < (row.1 : Int) := Int.natCast_pos.mpr ok.pos
        refine ⟨_, rfl, a, _, _, _, rfl, rfl, sqL_of ra1.lst, atI_nat (xs := refs (t :: ts)) (j := 0) rfl, t, _, rfl, sqT_of h1, rfl, _, _, rfl, _, _, rfl, rfl, ?_⟩
        refine ⟨_, rfl, _, rfl, _, _, rfl, rfl, hN, ?_⟩
        refine ⟨_, rfl, _, rfl, _, _, _, rfl, ?_⟩
        have ei : inV (V.int ((x : Int) % (row.1 : Int))) (vis row.2) = row.2.contains (x % row.1) := inV_vis (x % row.1) row.2
        refine ⟨_, rfl, _, rfl, m, _, rfl, .inr (sqT_of h2), rfl, flat_vis _, _, rfl, ?_⟩
        by_cases hin : x % row.1 ∈ row.2
        · refine ite2 (fun hb => ?_) (fun _ => ?_)
          · have hb : (!inV (V.int ((x : Int) % (row.1 : Int))) (vis row.2)) = true := hb
            rw [ei, List.contains_iff_mem.mpr hin] at hb
            cases hb
          · have hcs : cstep row x = if x / row.1 < 0 then none else some (x % row.1, x % row.1, x / row.1 - 0) := by
              unfold cstep
              rw [if_pos hin, if_neg (Nat.not_lt_zero _)]
              rfl
            have s5 := s1
            generalize H1 = H5 at s5 ⊢
            refine ⟨_, rfl, _, rfl, _, _, rfl, rfl, ⟨hN, by show (row.1 : Int) < 1073741824; omega⟩, _, rfl, _, _, rfl, rfl, _, rfl, ?_⟩
            have ea5 := ra.same s5
            by_cases hlt : x / row.1 < 0
            · have hlt2 : (((x / row.1 : Nat) : Int)) < ((0 : Nat) : Int) := Int.ofNat_lt.mpr hlt
              refine ite2 (fun _ => ?_) (fun z => absurd (decide_eq_true hlt2) z)
              have hnone : comp (row :: rs) x = none := by
                rw [comp_cstep, hcs, if_pos hlt]
                rfl
              exact q _ _ s5 (by rw [hnone]; rfl)
            · have hlt2 : ¬ (((x / row.1 : Nat) : Int)) < ((0 : Nat) : Int) := fun z => hlt (Int.ofNat_lt.mp z)
              refine ite2 (fun z => absurd (of_decide_eq_true z) hlt2) (fun _ => ?_)
              refine ⟨_, rfl, _, rfl, a, _, rfl, sqL_of ea5.lst, fun p np => ?_⟩
              rw [show refs (t :: ts) = V.ref t :: refs ts from rfl, cut_tail]
              have s6 : Same H5 (upd H5 p (.lst (refs ts))) := same_new np
              have rs6 : RowsAt (upd H5 p (.lst (refs ts))) p ts rs := ⟨upd_same, Paired.mapP hrest fun _ _ z => RowAt.same (fun b x e => s6 b x (s5 b x e)) z⟩
              refine ⟨_, rfl, _, rfl, _, _, rfl, rfl, ⟨hN, by show (row.1 : Int) < 1073741824; omega⟩, _, rfl, _, _, rfl, rfl, p, ts, rs, x / row.1 - 0, ?_, rs6, fun r hr => hm r (List.mem_cons_of_mem _ hr), by simp at hl; omega, fun v H7 s7 pv => ?_⟩
              · show [V.ref p, V.int (((x / row.1 : Nat) : Int) - ((0 : Nat) : Int))] = _
                rw [← Int.ofNat_sub (Nat.le_of_not_lt hlt)]
              have hcomp : comp (row :: rs) x = (comp rs (x / row.1 - 0)).map fun p => ((x % row.1) + row.1 * p.1, (x % row.1) + row.1 * p.2) := by
                rw [comp_cstep, hcs, if_neg hlt]
                rfl
              have s57 : Same H H7 := fun b x e => s7 b x (s6 b x (s5 b x e))
              refine ⟨_, rfl, _, rfl, ?_⟩
              cases hc : comp rs (x / row.1 - 0) with
              | none =>
                rw [hc] at pv hcomp
                cases pv
                refine ite2 (fun _ => ?_) (fun z => absurd (decide_eq_true rfl) z)
                exact q _ _ s57 (by rw [hcomp]; rfl)
              | some yz =>
                obtain ⟨y, z⟩ := yz
                rw [hc] at pv hcomp
                obtain ⟨u, rfl, hu⟩ := pv
                refine ite2 (fun w => absurd (of_decide_eq_true w) (by intro w2; cases w2)) (fun _ => ?_)
                refine ⟨_, rfl, _, rfl, _, rfl, u, _, _, _, rfl, rfl, sqT_of hu, rfl, _, _, rfl, rfl, .inl (small64 (by omega)), _, _, rfl, rfl, ?_⟩
                refine ⟨_, rfl, _, rfl, _, rfl, u, _, _, _, rfl, rfl, sqT_of hu, rfl, _, _, rfl, rfl, .inl (small64 (by omega)), _, _, rfl, rfl, by show 2 ≤ sizeLine; decide, fun k nk => ?_⟩
                refine q _ _ (fun b x e => same_new nk b x (s57 b x e)) ?_
                rw [hcomp]
                exact ⟨k, rfl, upd_same⟩
        · refine ite2 (fun _ => ?_) (fun hb => ?_)
          · have hcs : cstep row x = if x / row.1 < (srv row (x % row.1)).1 then none else some ((srv row (x % row.1)).2.1, (srv row (x % row.1)).2.2, x / row.1 - (srv row (x % row.1)).1) := by
              unfold cstep
              rw [if_neg hin]
            refine ⟨_, rfl, _, rfl, _, rfl, row, m, x % row.1, rfl, h2, hst, Nat.mod_lt _ ok.pos, hin, fun u H5 s4 hu => ?_⟩
            have s5 : Same H H5 := fun b x e => s4 b x (s1 b x e)
            refine ⟨u, _, rfl, sqT_of hu, rfl, _, _, rfl, _, _, rfl, _, _, rfl, rfl, ?_⟩
            refine ⟨_, rfl, _, rfl, _, _, rfl, rfl, ⟨hN, by show (row.1 : Int) < 1073741824; omega⟩, _, rfl, _, _, rfl, rfl, _, rfl, ?_⟩
            have ea5 := ra.same s5
            by_cases hlt : x / row.1 < (srv row (x % row.1)).1
            · have hlt2 : (((x / row.1 : Nat) : Int)) < (((srv row (x % row.1)).1 : Nat) : Int) := Int.ofNat_lt.mpr hlt
              refine ite2 (fun _ => ?_) (fun z => absurd (decide_eq_true hlt2) z)
              have hnone : comp (row :: rs) x = none := by
                rw [comp_cstep, hcs, if_pos hlt]
                rfl
              exact q _ _ s5 (by rw [hnone]; rfl)
            · have hlt2 : ¬ (((x / row.1 : Nat) : Int)) < (((srv row (x % row.1)).1 : Nat) : Int) := fun z => hlt (Int.ofNat_lt.mp z)
              refine ite2 (fun z => absurd (of_decide_eq_true z) hlt2) (fun _ => ?_)
              refine ⟨_, rfl, _, rfl, a, _, rfl, sqL_of ea5.lst, fun p np => ?_⟩
              rw [show refs (t :: ts) = V.ref t :: refs ts from rfl, cut_tail]
              have s6 : Same H5 (upd H5 p (.lst (refs ts))) := same_new np
              have rs6 : RowsAt (upd H5 p (.lst (refs ts))) p ts rs := ⟨upd_same, Paired.mapP hrest fun _ _ z => RowAt.same (fun b x e => s6 b x (s5 b x e)) z⟩
              refine ⟨_, rfl, _, rfl, _, _, rfl, rfl, ⟨hN, by show (row.1 : Int) < 1073741824; omega⟩, _, rfl, _, _, rfl, rfl, p, ts, rs, x / row.1 - (srv row (x % row.1)).1, ?_, rs6, fun r hr => hm r (List.mem_cons_of_mem _ hr), by simp at hl; omega, fun v H7 s7 pv => ?_⟩
              · show [V.ref p, V.int (((x / row.1 : Nat) : Int) - (((srv row (x % row.1)).1 : Nat) : Int))] = _
                rw [← Int.ofNat_sub (Nat.le_of_not_lt hlt)]
              have hcomp : comp (row :: rs) x = (comp rs (x / row.1 - (srv row (x % row.1)).1)).map fun p => ((srv row (x % row.1)).2.1 + row.1 * p.1, (srv row (x % row.1)).2.2 + row.1 * p.2) := by
                rw [comp_cstep, hcs, if_neg hlt]
                rfl
              have s57 : Same H H7 := fun b x e => s7 b x (s6 b x (s5 b x e))
              refine ⟨_, rfl, _, rfl, ?_⟩
              cases hc : comp rs (x / row.1 - (srv row (x % row.1)).1) with
              | none =>
                rw [hc] at pv hcomp
                cases pv
                refine ite2 (fun _ => ?_) (fun z => absurd (decide_eq_true rfl) z)
                exact q _ _ s57 (by rw [hcomp]; rfl)
              | some yz =>
                obtain ⟨y, z⟩ := yz
                rw [hc] at pv hcomp
                obtain ⟨u, rfl, hu⟩ := pv
                refine ite2 (fun w => absurd (of_decide_eq_true w) (by intro w2; cases w2)) (fun _ => ?_)
                refine ⟨_, rfl, _, rfl, _, rfl, u, _, _, _, rfl, rfl, sqT_of hu, rfl, _, _, rfl, rfl, .inl (small64 (by omega)), _, _, rfl, rfl, ?_⟩
                refine ⟨_, rfl, _, rfl, _, rfl, u, _, _, _, rfl, rfl, sqT_of hu, rfl, _, _, rfl, rfl, .inl (small64 (by omega)), _, _, rfl, rfl, by show 2 ≤ sizeLine; decide, fun k nk => ?_⟩
                refine q _ _ (fun b x e => same_new nk b x (s57 b x e)) ?_
                rw [hcomp]
                exact ⟨k, rfl, upd_same⟩
          · have hb : ¬ (!inV (V.int ((x : Int) % (row.1 : Int))) (vis row.2)) = true := hb
            rw [ei, Bool.not_eq_true', Bool.not_eq_false] at hb
            exact absurd (List.contains_iff_mem.mp hb) hin
theorem ok_Lcomp (F : Fn0 K "_law_composed" "_law_composed" sLcomposed f fd) (g : mg "_law_composed" = some (.ref f)) (b : Binds K fd ["_law_rows", "_law_place"] []) (D1 : DOk P w K mg base 1 "_law_plain" ["_law_place"] spLplain)
    (D2 : DOk P w K mg base 1 "_law_serving" ["_law_step", "_law_parts", "_law_rest"] spLserving) : ∀ n, DOk P w K mg base (n + 2) "_law_composed" ["_law_rows", "_law_place"] (spLcomp n)
  | 0 => ⟨f, fd, F.ok (k := 1) scLcomposed (fun vs H Q E h => by
      obtain ⟨a, ts, rows, x, _, _, _, hl, _⟩ := h
      exact absurd hl (Nat.not_lt_zero _)) (fun cdv A outer s H vs Q E hr h => by
      obtain ⟨a, ts, rows, x, _, _, _, hl, _⟩ := h
      exact absurd hl (Nat.not_lt_zero _)), g, F.kp, b⟩
  | n + 1 => ⟨f, fd, ok_Lcomp_step F D1 D2 (ok_Lcomp F g b D1 D2 n), g, F.kp, b⟩
end
end Tf
/-! ### the law's cells, stacks; one number -/
namespace Tf
open PySem PySem.Spec PyProof.Rows L2
/-- Cell(..), Stack(..) -/
structure CMk (P : Program) (w : World) (K : Fg) (mg : Str → Option Value) (base : Heap) (C : Addr) : Prop where
  ex : ∃ f fd, FnOk P w K mg base CX0 3 f fd ["self", "modulus", "members"] (spCInit C) ∧ Mk K C f ∧ Binds K fd ["self", "modulus", "members"] []
structure SMk (P : Program) (w : World) (K : Fg) (mg : Str → Option Value) (base : Heap) (C S : Addr) : Prop where
  ex : ∃ f, FnR P w K mg base CX0 3 f (spStar (spSInit C S)) ∧ Mk K S f
section
variable {X : Cx} {C S : Addr} {p pos : Pos} {e : Expr} {es : List Expr} {t : TA}
theorem pe_mkC (M : CMk X.prog X.w X.K X.mg X.base C) (T : ClT X.K X.mg C) (hr : Room 4 X.A) (hg : Gl X "Cell") (ha : PA X (e :: es) t)
    (he : starEach (e :: es) X.env = (false, eval e X.env) :: starEach es X.env := by rfl) (hpl : (backTo pos (starEach es X.env)).any (·.1) = false := by rfl) : PE X (.Call (.Name "Cell" p) (e :: es) [] pos) (tMake C (spCInit C) [] E0 t) := by
  obtain ⟨f, fd, F, m, b⟩ := M.ex
  exact pe_make m F hr hg T.mgC b .nil pass0 ha (by decide) he hpl
theorem pe_mkS (M : SMk X.prog X.w X.K X.mg X.base C S) (T : StT X.K X.mg S) (hr : Room 4 X.A) (hg : Gl X "Stack") (ha : PA X (e :: es) t)
    (he : starEach (e :: es) X.env = (false, eval e X.env) :: starEach es X.env := by rfl) (hpl : (backTo pos (starEach es X.env)).any (·.1) = false := by rfl) : PE X (.Call (.Name "Stack" p) (e :: es) [] pos) (StX.tMakeR S (spStar (spSInit C S)) E0 t) := by
  obtain ⟨f, F, m⟩ := M.ex
  exact StX.pe_makeR m F hr hg T.mgS pass0 ha (by decide) he hpl
theorem pe_mkS0 (M : SMk X.prog X.w X.K X.mg X.base C S) (T : StT X.K X.mg S) (hr : Room 4 X.A) (hg : Gl X "Stack") : PE X (.Call (.Name "Stack" p) [] [] pos) (StX.tMakeR S (spStar (spSInit C S)) E0 tNil) := by
  obtain ⟨f, F, m⟩ := M.ex
  exact pe_makeR0 m F hr hg T.mgS pass0
end
theorem fresh2 {H : Hp} {x dx : Addr} {o1 o2 : HO} (nx : H x = none) (ndx : H dx = none) : Same H (upd (upd H dx o1) x o2) := fun b z e => by
  rw [upd_ne (ne_of_none e nx), upd_ne (ne_of_none e ndx)]
  exact e
theorem SameX.fresh {H H1 H2 : Hp} {x : Addr} (s : Same H H1) (nx : H x = none) (t : SameX x H1 H2) : Same H H2 := fun b z e => t b z (ne_of_none e nx) (s b z e)
theorem mkC_ok {C x dx m : Addr} {H : Hp} {row : Row} {R : VK} {E : XK} (nx : H x = none) (ndx : H dx = none) (hm : H m = some (.tup (vis row.2))) (ok : RowOk row)
    (q : ∀ H', Same H H' → CellAt C H' x row → R .non H') : spCInit C [.ref x, vi row.1, .ref m] (upd (upd H dx (.own x)) x (.ins C dx [])) R E :=
  ⟨row, x, m, dx, rfl, upd_same, fresh2 nx ndx _ _ hm, ok, fun H' sx cell => q H' (SameX.fresh (fresh2 nx ndx) nx sx) cell⟩
theorem mkS_ok {C S x dx : Addr} {H : Hp} {cs : List Addr} {rows : List Row} {R : VK} {E : XK} (nx : H x = none) (ndx : H dx = none) (hc : CellsAt C H cs rows) (hl : rows.length ≤ 100)
    (q : ∀ H', Same H H' → (∃ dx la ps, H la = none ∧ StackAs C S H' x rows dx la ps) → R .non H') : spStar (spSInit C S) (.ref x :: refs cs) (upd (upd H dx (.own x)) x (.ins S dx [])) R E := by
  have l2 := Paired.length hc
  have s1 : Same H (upd (upd H dx (.own x)) x (.ins S dx [])) := fresh2 nx ndx
  have hx : upd (upd H dx (.own x)) x (.ins S dx []) x = some (.ins S dx []) := upd_same
  generalize upd (upd H dx (.own x)) x (.ins S dx []) = H1 at s1 hx ⊢
  refine ⟨[.ref x], refs cs, rfl, rfl, by rw [List.length_map, l2]; exact Nat.le_of_lt (small1000 (by omega)), fun t nt => ?_⟩
  have s2 : Same H (upd H1 t (.tup (refs cs))) := fun b z e => same_new nt b z (s1 b z e)
  refine ⟨x, t, dx, cs, rows, rfl, same_new nt _ _ hx, upd_same, hc.same s2, hl, fun H' sx ⟨dx2, la, ps, nla, st⟩ => ?_⟩
  exact q H' (SameX.fresh s2 nx sx) ⟨dx2, la, ps, Same.free s2 nla, st⟩
def spLcells (C : Addr) : Sp := fun vs H Q _ => ∃ (a : Addr) (ts : List Addr) (rows : List Row), vs = [.ref a] ∧ RowsAt H a ts rows ∧ (∀ row ∈ rows, row ∈ stock) ∧ rows.length ≤ 100 ∧
  ∀ p cs H', Same H H' → H p = none → H' p = some (.lst (refs cs)) → CellsAt C H' cs rows → Q (.ref p) H'
def spLstack (C S : Addr) : Sp := fun vs H Q _ => ∃ (a : Addr) (cs : List Addr) (rows : List Row), vs = [.ref a] ∧ H a = some (.lst (refs cs)) ∧ CellsAt C H cs rows ∧ rows.length ≤ 5 ∧
  ∀ p H', Same H H' → StackAt C S H' p rows → Q (.ref p) H'
def spNR (C S : Addr) : Sp := fun vs H Q _ => ∃ (p a : Addr) (ts : List Addr) (rows : List Row) (x : Nat), vs = [.ref p, .ref a, vi x] ∧ StackAt C S H p rows ∧ RowsAt H a ts rows ∧ (∀ row ∈ rows, row ∈ stock) ∧ rows.length ≤ 8 ∧ x < 2 ^ 1000 ∧
  ∀ H', Same H H' → Q (.bl true) H'
/-- composed_pair, called by place or by name -/
structure CpOk (P : Program) (w : World) (K : Fg) (mg : Str → Option Value) (base : Heap) (C S : Addr) : Prop where
  ex : ∃ f fd, FnOk P w K mg base CX0 5 f fd ["self", "x"] (spComp C S) ∧ Meth K S "composed_pair" f ∧ Binds K fd ["self", "x"] [] ∧ KBn K fd ["self", "x"] 1 ["x"] (fun us ws => us ++ ws) (fun vs zs => vs ++ zs)
theorem CpOk.m {P : Program} {w : World} {K : Fg} {mg : Str → Option Value} {base : Heap} {C S : Addr} (c : CpOk P w K mg base C S) : MOk P w K mg base 5 S "composed_pair" ["self", "x"] (spComp C S) := by
  obtain ⟨f, fd, F, m, b, _⟩ := c.ex
  exact ⟨f, fd, F, m, b⟩
theorem PairV.same {H H' : Hp} {o : Option (Nat × Nat)} {v : V} (s : Same H H') (h : PairV H o v) : PairV H' o v := by
  cases o with
  | none => exact h
  | some yz =>
    obtain ⟨t, e, ht⟩ := h
    exact ⟨t, e, s _ _ ht⟩
def pairD : Option (Nat × Nat) → PyData
  | none => .none
  | some (y, z) => .tuple [.int (y : Int), .int (z : Int)]
theorem PairV.dp {K : Fg} {H : Hp} {o : Option (Nat × Nat)} {v : V} (h : PairV H o v) : Dp K H v (pairD o) := by
  cases o with
  | none =>
    cases h
    exact .non
  | some yz =>
    obtain ⟨t, rfl, ht⟩ := h
    exact .tup (sqT_of ht) (.cons (.int _) (.cons (.int _) .nil))
theorem pairD_shaped (o : Option (Nat × Nat)) : SeqAt.shaped (pairD o) = true := by
  cases o with
  | none => simp [pairD, SeqAt.shaped, PyData.canLay0, PyData.depth]
  | some yz => simp [pairD, SeqAt.shaped, PyData.canLay0, PyData.canLayAll0, PyData.depth, PyData.depthAll]
theorem pairD_eqv (o : Option (Nat × Nat)) : PyData.eqv (pairD o) (pairD o) = true := by
  cases o with
  | none => simp [pairD, PyData.eqv]
  | some yz => simp [pairD, PyData.eqv, PyData.eqvAll]
section
variable {P : Program} {w : World} {K : Fg} {mg : Str → Option Value} {base : Heap} {f C S : Addr} {fd : FuncData}
theorem ok_Lcells (T : ClT K mg C) (M : CMk P w K mg base C) (F : Fn0 K "_law_cells" "_law_cells" sLcells f fd) : FnOk P w K mg base CX0 5 f fd ["_law_rows"] (spLcells C) := by
  refine F.ok scLcells (fun vs H Q E h => ?_) (fun cdv A outer s H vs Q E hr h => ?_)
  · obtain ⟨a, ts, rows, rfl, _⟩ := h
    rfl
  · obtain ⟨a, ts, rows, rfl, ra, hm, hl, q⟩ := h
    refine ⟨_, PSs.nox (pss_one (ps_ret (pe_lc (own := [("_law_row", 1)]) rfl scLcells.nd (pi_list (pv 0)) (blkOk_by (N := nnLcells) (sc := defScope sLcells) (by decide +kernel)) (fun _ _ _ _ _ => pg_name (i := 1) scLcells.nd rfl (.inl rfl)) (fun _ _ _ _ _ => pts_nil)
      (fun _ _ _ _ _ => pe_mkC M T hr (by rfl) (pa_cons (pe_ix (r := rIxT K) ix_tup (pv 1) pe_int (by intro _ _; rfl)) (pa_cons (pe_ix (r := rIxT K) ix_tup (pv 1) pe_int (by intro _ _; rfl)) pa_nil)))))), ?_⟩
    refine ⟨_, rfl, a, rfl, ⟨_, sqL_of ra.lst⟩, fun D nD => ?_⟩
    refine lc_list (K := K) (a := a) (xs := refs ts) (fun i H2 => ∃ cs, Same H H2 ∧ H2 D = some (.lst (refs cs)) ∧ CellsAt C H2 cs (rows.take i) ∧ cs.length = i)
      ⟨[], same_new nD, upd_same, .nil, rfl⟩ (fun i H2 _ ⟨_, e, _⟩ => sqL_of (e _ _ ra.lst)) ?_ ?_
    · rintro i v H2 hi ⟨cs, s2, h2, c2, l2⟩
      obtain ⟨t, row, rfl, hrow, m, h3, h4⟩ := (ra.same s2).at_ hi
      have ok := RowOk.of (hm row (List.mem_of_getElem? hrow))
      have li : i < rows.length := (List.getElem?_eq_some_iff.mp hrow).1
      refine ⟨rfl, _, rfl, t, _, _, _, rfl, rfl, sqT_of h3, rfl, _, rfl, t, _, _, _, rfl, rfl, sqT_of h3, rfl, fun x dx nx ndx ne => ?_⟩
      refine mkC_ok (row := row) nx ndx h4 ok fun H' s' cell => ⟨rfl, ?_⟩
      have hD := s' _ _ h2
      have nc : NotCell C H' D := .inr ⟨_, hD⟩
      refine ⟨_, hD, by rw [List.length_map, l2]; exact small1000 (by omega), cs ++ [x], same_own (fun b z e => s' b z (s2 b z e)) nD, ?_, ?_, by rw [List.length_append, l2]; rfl⟩
      · rw [upd_same]
        unfold refs
        rw [List.map_append]
        rfl
      · rw [List.take_add_one, hrow]
        exact paired_app ((c2.same s').sx nc sameX_upd) (.cons (cell.sx nc sameX_upd) .nil)
    · rintro H2 ⟨cs, s2, h2, c2, l2⟩
      rw [List.length_map, ra.len, List.take_length] at c2
      exact q D cs H2 s2 nD h2 c2
theorem ok_Lstack (B : Bt mg) (T : StT K mg S) (M : SMk P w K mg base C S) (F : Fn0 K "_law_stack" "_law_stack" sLstack f fd) : FnOk P w K mg base CX0 5 f fd ["_law_some"] (spLstack C S) := by
  refine F.ok scLstack (fun vs H Q E h => ?_) (fun cdv A outer s H vs Q E hr h => ?_)
  · obtain ⟨a, cs, rows, rfl, _⟩ := h
    rfl
  · obtain ⟨a, cs, rows, rfl, ha, hc, hl, q⟩ := h
    refine ⟨_, PSs.nox (pss_cons (ps_if (pt_cmp (pc_eqI (pe_callB call_len (by rfl) B.len boot_len (pa_cons (pv 0) pa_nil)) pe_int)) (pss_one (ps_ret (pe_mkS0 M T hr (by rfl)))) pss_nil)
      (pss_cons (ps_if (pt_cmp (pc_eqI (pe_callB call_len (by rfl) B.len boot_len (pa_cons (pv 0) pa_nil)) pe_int)) (pss_one (ps_ret (pe_mkS M T hr (by rfl) (pa_cons (pe_ix ix_list (pv 0) pe_int (by intro _ _; rfl)) pa_nil)))) pss_nil)
      (pss_cons (ps_if (pt_cmp (pc_eqI (pe_callB call_len (by rfl) B.len boot_len (pa_cons (pv 0) pa_nil)) pe_int)) (pss_one (ps_ret (pe_mkS M T hr (by rfl) (pa_cons (pe_ix ix_list (pv 0) pe_int (by intro _ _; rfl)) (pa_cons (pe_ix ix_list (pv 0) pe_int (by intro _ _; rfl)) pa_nil))))) pss_nil)
      (pss_cons (ps_if (pt_cmp (pc_eqI (pe_callB call_len (by rfl) B.len boot_len (pa_cons (pv 0) pa_nil)) pe_int)) (pss_one (ps_ret (pe_mkS M T hr (by rfl) (pa_cons (pe_ix ix_list (pv 0) pe_int (by intro _ _; rfl)) (pa_cons (pe_ix ix_list (pv 0) pe_int (by intro _ _; rfl)) (pa_cons (pe_ix ix_list (pv 0) pe_int (by intro _ _; rfl)) pa_nil)))))) pss_nil)
      (pss_cons (ps_if (pt_cmp (pc_eqI (pe_callB call_len (by rfl) B.len boot_len (pa_cons (pv 0) pa_nil)) pe_int)) (pss_one (ps_ret (pe_mkS M T hr (by rfl) (pa_cons (pe_ix ix_list (pv 0) pe_int (by intro _ _; rfl)) (pa_cons (pe_ix ix_list (pv 0) pe_int (by intro _ _; rfl)) (pa_cons (pe_ix ix_list (pv 0) pe_int (by intro _ _; rfl)) (pa_cons (pe_ix ix_list (pv 0) pe_int (by intro _ _; rfl)) pa_nil))))))) pss_nil)
      (pss_one (ps_ret (pe_mkS M T hr (by rfl) (pa_cons (pe_ix ix_list (pv 0) pe_int (by intro _ _; rfl)) (pa_cons (pe_ix ix_list (pv 0) pe_int (by intro _ _; rfl)) (pa_cons (pe_ix ix_list (pv 0) pe_int (by intro _ _; rfl)) (pa_cons (pe_ix ix_list (pv 0) pe_int (by intro _ _; rfl)) (pa_cons (pe_ix ix_list (pv 0) pe_int (by intro _ _; rfl)) pa_nil))))))))))))), ?_⟩
    have l2 : cs.length = rows.length := Paired.length hc
    have fin : ∀ p H', Same H H' → (∃ dx la ps, H la = none ∧ StackAs C S H' p rows dx la ps) → Q (.ref p) H' := fun p H' s' ⟨dx, la, ps, _, st⟩ => q p H' s' ⟨dx, la, ps, st⟩
    have hlen : ∀ k : Nat, cs.length = k → LenV K (.ref a) H k := fun k e => .inl ⟨_, sqL_of ha, by rw [List.length_map, e]⟩
    have hla := sqL_of (K := K) ha
    have hl100 : rows.length ≤ 100 := by omega
    match cs, l2, hlen, ha, hla, hc with
    | [], _, hlen, ha, hla, hc =>
      refine ⟨_, rfl, _, 0, rfl, hlen 0 rfl, _, _, rfl, rfl, _, rfl, ?_⟩
      exact iteT fun x dx nx ndx ne => mkS_ok nx ndx hc hl100 fun H' s' z => ⟨rfl, fin x H' s' z⟩
    | [c1], _, hlen, ha, hla, hc =>
      refine ⟨_, rfl, _, 1, rfl, hlen 1 rfl, _, _, rfl, rfl, _, rfl, iteF ?_⟩
      refine ⟨_, rfl, _, 1, rfl, hlen 1 rfl, _, _, rfl, rfl, _, rfl, iteT ?_⟩
      exact ⟨_, rfl, a, _, _, _, rfl, rfl, hla, rfl, fun x dx nx ndx ne => mkS_ok nx ndx hc hl100 fun H' s' z => ⟨rfl, fin x H' s' z⟩⟩
    | [c1, c2], _, hlen, ha, hla, hc =>
      refine ⟨_, rfl, _, 2, rfl, hlen 2 rfl, _, _, rfl, rfl, _, rfl, iteF ?_⟩
      refine ⟨_, rfl, _, 2, rfl, hlen 2 rfl, _, _, rfl, rfl, _, rfl, iteF ?_⟩
      refine ⟨_, rfl, _, 2, rfl, hlen 2 rfl, _, _, rfl, rfl, _, rfl, iteT ?_⟩
      exact ⟨_, rfl, a, _, _, _, rfl, rfl, hla, rfl, _, rfl, a, _, _, _, rfl, rfl, hla, rfl, fun x dx nx ndx ne => mkS_ok nx ndx hc hl100 fun H' s' z => ⟨rfl, fin x H' s' z⟩⟩
    | [c1, c2, c3], _, hlen, ha, hla, hc =>
      refine ⟨_, rfl, _, 3, rfl, hlen 3 rfl, _, _, rfl, rfl, _, rfl, iteF ?_⟩
      refine ⟨_, rfl, _, 3, rfl, hlen 3 rfl, _, _, rfl, rfl, _, rfl, iteF ?_⟩
      refine ⟨_, rfl, _, 3, rfl, hlen 3 rfl, _, _, rfl, rfl, _, rfl, iteF ?_⟩
      refine ⟨_, rfl, _, 3, rfl, hlen 3 rfl, _, _, rfl, rfl, _, rfl, iteT ?_⟩
      exact ⟨_, rfl, a, _, _, _, rfl, rfl, hla, rfl, _, rfl, a, _, _, _, rfl, rfl, hla, rfl, _, rfl, a, _, _, _, rfl, rfl, hla, rfl, fun x dx nx ndx ne => mkS_ok nx ndx hc hl100 fun H' s' z => ⟨rfl, fin x H' s' z⟩⟩
    | [c1, c2, c3, c4], _, hlen, ha, hla, hc =>
      refine ⟨_, rfl, _, 4, rfl, hlen 4 rfl, _, _, rfl, rfl, _, rfl, iteF ?_⟩
      refine ⟨_, rfl, _, 4, rfl, hlen 4 rfl, _, _, rfl, rfl, _, rfl, iteF ?_⟩
      refine ⟨_, rfl, _, 4, rfl, hlen 4 rfl, _, _, rfl, rfl, _, rfl, iteF ?_⟩
      refine ⟨_, rfl, _, 4, rfl, hlen 4 rfl, _, _, rfl, rfl, _, rfl, iteF ?_⟩
      refine ⟨_, rfl, _, 4, rfl, hlen 4 rfl, _, _, rfl, rfl, _, rfl, iteT ?_⟩
      exact ⟨_, rfl, a, _, _, _, rfl, rfl, hla, rfl, _, rfl, a, _, _, _, rfl, rfl, hla, rfl, _, rfl, a, _, _, _, rfl, rfl, hla, rfl, _, rfl, a, _, _, _, rfl, rfl, hla, rfl, fun x dx nx ndx ne => mkS_ok nx ndx hc hl100 fun H' s' z => ⟨rfl, fin x H' s' z⟩⟩
    | [c1, c2, c3, c4, c5], _, hlen, ha, hla, hc =>
      refine ⟨_, rfl, _, 5, rfl, hlen 5 rfl, _, _, rfl, rfl, _, rfl, iteF ?_⟩
      refine ⟨_, rfl, _, 5, rfl, hlen 5 rfl, _, _, rfl, rfl, _, rfl, iteF ?_⟩
      refine ⟨_, rfl, _, 5, rfl, hlen 5 rfl, _, _, rfl, rfl, _, rfl, iteF ?_⟩
      refine ⟨_, rfl, _, 5, rfl, hlen 5 rfl, _, _, rfl, rfl, _, rfl, iteF ?_⟩
      refine ⟨_, rfl, _, 5, rfl, hlen 5 rfl, _, _, rfl, rfl, _, rfl, iteF ?_⟩
      exact ⟨_, rfl, a, _, _, _, rfl, rfl, hla, rfl, _, rfl, a, _, _, _, rfl, rfl, hla, rfl, _, rfl, a, _, _, _, rfl, rfl, hla, rfl, _, rfl, a, _, _, _, rfl, rfl, hla, rfl, _, rfl, a, _, _, _, rfl, rfl, hla, rfl, fun x dx nx ndx ne => mkS_ok nx ndx hc hl100 fun H' s' z => ⟨rfl, fin x H' s' z⟩⟩
    | _ :: _ :: _ :: _ :: _ :: _ :: _, l2, hlen, ha, hla, hc =>
      simp only [List.length_cons] at l2
      omega
theorem pe_cpk {X : Cx} {o : Expr} {ta : TE} {kws : List Keyword} {tk : TA} {apos pos : Pos} {pl : Sem Bool} (D : CpOk X.prog X.w X.K X.mg X.base C S) (T : StT X.K X.mg S) (he : PE X o ta) (hr : Room 5 X.A) (hkw : PK X kws tk)
    (hall : (backToKw pos (keywordEach kws X.env)).all (·.1.isSome) = true := by rfl) (hks : (backToKw pos (keywordEach kws X.env)).filterMap (·.1) = [("x" : Str)] := by rfl)
    (hpl : ((backTo pos (starEach [] X.env)).any (·.1) || (backToKw pos (keywordEach kws X.env)).any (·.1.isNone)) = false := by rfl)
    (ht : eval (.Call (.Attribute o "composed_pair" apos) [] kws pos) X.env = (do
      let ov ← eval o X.env
      standAt apos.atName
      let (f, first) ← holding [ov] (getMethod ov "composed_pair" pl)
      callWith pos f first (backTo pos (starEach [] X.env)) (backToKw pos (keywordEach kws X.env))) := by rfl) :
    PE X (.Call (.Attribute o "composed_pair" apos) [] kws pos) (tMethN S "composed_pair" 1 (spComp C S) (fun vs zs => vs ++ zs) E0 ta tk) := by
  obtain ⟨f, fd, F, m, _, kb⟩ := D.ex
  exact pe_methN (pl := pl) he T.cl m F hr kb pass0 hkw hall hks hpl ht
theorem ok_LNR (T : StT K mg S) (F : Fn0 K "_law_number_right" "_law_number_right" sLnumber_right f fd) (D1 : DOk P w K mg base 11 "_law_composed" ["_law_rows", "_law_place"] (spLcomp 9)) (D2 : CpOk P w K mg base C S)
    (D3 : DOk P w K mg base 2 "_law_has" ["_law_rows", "_law_place"] spLhas) (D4 : POk P w K mg base 3 S "greatest" (spGetS C S great)) :
    FnOk P w K mg base CX0 12 f fd ["_law_line", "_law_rows", "_law_place"] (spNR C S) := by
  refine F.ok scLnumber_right (fun vs H Q E h => ?_) (fun cdv A outer s H vs Q E hr h => ?_)
  · obtain ⟨p, a, ts, rows, x, rfl, _⟩ := h
    rfl
  · obtain ⟨p, a, ts, rows, x, rfl, st, ra, hm, hl, hx, q⟩ := h
    have hr5 : Room 5 _ := hr.mono (by decide)
    have hr4 : Room 4 _ := hr.mono (by decide)
    have hr2 : Room 2 _ := hr.mono (by decide)
    refine ⟨_, PSs.nox (pss_cons (ps_set (i := 3) scLnumber_right.nd rfl (.inl rfl) (pe_d D1 hr (by rfl) (pa_cons (pv 1) (pa_cons (pv 2) pa_nil))))
      (pss_cons (ps_if (PW.pt (pw_or (pt_cmpR (op_neD hr.units) (pe_m D2.m (pv 0) T.cl hr5 (pa_cons (pv 2) pa_nil)) (pv 3) (by rfl)) (pw_or1 (pt_cmpR (op_neD hr.units) (pe_cpk D2 T (pv 0) hr5 (pk_cons (pv 2) pk_nil)) (pv 3) (by rfl))))) (pss_one (ps_ret pe_bl)) pss_nil)
      (pss_cons (ps_if (pt_cmp (pc_isN (pv 3))) (pss_one (ps_ret (pe_and (pe_cmpR op_lt (pv 2) (pe_p D4 (pv 0) T.cl hr4) (nomark _)) (pe_one (pe_not (pe_d D3 hr2 (by rfl) (pa_cons (pv 1) (pa_cons (pv 2) pa_nil)))))))) pss_nil)
      (pss_cons (ps_asg (pv 3) (pg_tup rfl (pgs_cons (pg_name (i := 4) scLnumber_right.nd rfl (.inl rfl)) (pgs_cons (pg_name (i := 5) scLnumber_right.nd rfl (.inl rfl)) pgs_nil))))
      (pss_cons (ps_if (PW.pt (pw_or (pt_cmp (pc_neI (pe_op op_sub (pe_op op_mul pe_int (pv 5)) (pv 4)) (pv 2))) (pw_or1 (pt_cmp (pc_gt (pv 4) (pv 5)))))) (pss_one (ps_ret pe_bl)) pss_nil)
      (pss_cons (ps_if (PW.pt (pw_or (pt_not (pt_val (pe_d D3 hr2 (by rfl) (pa_cons (pv 1) (pa_cons (pv 4) pa_nil))))) (pw_or1 (pt_not (pt_val (pe_d D3 hr2 (by rfl) (pa_cons (pv 1) (pa_cons (pv 5) pa_nil)))))))) (pss_one (ps_ret pe_bl)) pss_nil)
      (pss_one (ps_ret (pe_cmpR op_eq (pe_cmpR op_eq (pv 4) (pv 5) (nomark _)) (pe_d D3 hr2 (by rfl) (pa_cons (pv 1) (pa_cons (pv 2) pa_nil))) (by rfl)))))))))), ?_⟩
    have ok : ∀ row ∈ rows, RowOk row := fun row h => RowOk.of (hm row h)
    have right := comp_right rows ok x
    refine ⟨_, rfl, _, rfl, a, ts, rows, x, rfl, ra, hm, by omega, fun v H1 s1 pv1 => ?_⟩
    have st1 := st.same s1
    have st1b := st1
    obtain ⟨dx, la, ps, c1⟩ := st1b
    refine ⟨_, rfl, p, dx, _, rfl, c1.ins, rfl, _, rfl, p, rows, x, rfl, st1, by omega, hx, fun v2 H2 s2 pv2 => ?_⟩
    have pv12 := pv1.same s2
    have st2 := st1.same s2
    refine ⟨_, rfl, _, _, pv2.dp, pv12.dp, pairD_shaped _, pairD_shaped _, _, rfl, ?_⟩
    rw [pairD_eqv]
    refine iteF ?_
    have st2b := st2
    obtain ⟨dx2, la2, ps2, c2⟩ := st2b
    refine ⟨_, rfl, p, dx2, _, rfl, c2.ins, rfl, _, rfl, rfl, p, rows, x, rfl, st2, by omega, hx, fun v3 H3 s3 pv3 => ?_⟩
    have pv13 := pv12.same s3
    have st3 := st2.same s3
    refine ⟨_, rfl, _, _, pv3.dp, pv13.dp, pairD_shaped _, pairD_shaped _, _, rfl, ?_⟩
    rw [pairD_eqv]
    refine iteF ?_
    have s03 : Same H H3 := fun b z e => s3 b z (s2 b z (s1 b z e))
    have ra3 := ra.same s03
    refine ⟨_, rfl, _, rfl, ?_⟩
    cases hc : comp rows x with
    | none =>
      rw [hc] at pv13 right
      cases pv13
      obtain ⟨g1, g2⟩ := right
      refine ite2 (fun _ => ?_) (fun z => absurd (decide_eq_true rfl) z)
      have st3b := st3
      obtain ⟨dx3, la3, ps3, c3⟩ := st3b
      refine ⟨_, rfl, _, rfl, p, dx3, _, rfl, c3.ins, p, rows, rfl, st3, fun H4 s4 => ⟨_, _, rfl, rfl, _, rfl, ?_⟩⟩
      refine ite2 (fun _ => ?_) (fun z => absurd (decide_eq_true (Int.ofNat_lt.mpr g1)) z)
      refine ⟨_, rfl, _, rfl, a, ts, rows, x, rfl, ra3.same s4, ok, _, rfl, ?_⟩
      rw [g2]
      exact q _ fun b z e => s4 b z (s03 b z e)
    | some yz =>
      obtain ⟨y, z⟩ := yz
      rw [hc] at pv13 right
      obtain ⟨t, rfl, ht⟩ := pv13
      obtain ⟨g1, g2, g3, g4, g5⟩ := right
      refine ite2 (fun w => absurd (of_decide_eq_true w) (by intro w2; cases w2)) (fun _ => ?_)
      refine ⟨_, rfl, t, _, rfl, sqT_of ht, rfl, _, _, rfl, _, _, rfl, rfl, ?_⟩
      refine ⟨_, rfl, _, _, rfl, rfl, .inl (by decide), _, rfl, _, _, rfl, rfl, _, rfl, _, _, rfl, rfl, _, rfl, ?_⟩
      have e1 : (!decide ((2 * (z : Int) - (y : Int)) = (x : Int))) = false := by
        rw [decide_eq_true (show (2 * (z : Int) - (y : Int)) = (x : Int) by omega)]
        rfl
      refine ite2 (fun w => ?_) (fun _ => ?_)
      · have w : (!decide ((2 * (z : Int) - (y : Int)) = (x : Int))) = true := w
        rw [e1] at w
        cases w
      refine ⟨_, rfl, _, rfl, _, _, rfl, rfl, _, rfl, ?_⟩
      refine ite2 (fun w => ?_) (fun _ => ?_)
      · have w : decide ((z : Int) < (y : Int)) = true := w
        have := of_decide_eq_true w
        omega
      refine ⟨_, rfl, _, rfl, a, ts, rows, y, rfl, ra3, ok, _, rfl, ?_⟩
      rw [g3]
      refine iteF ?_
      refine ⟨_, rfl, _, rfl, a, ts, rows, z, rfl, ra3, ok, _, rfl, ?_⟩
      rw [g4]
      refine iteF ?_
      refine ⟨_, rfl, _, rfl, rfl, _, rfl, _, rfl, a, ts, rows, x, rfl, ra3, ok, rfl, ?_⟩
      have e2 : decide (vi y = vi z) = has rows x := by
        by_cases w : y = z
        · rw [g5.mp w, w]
          exact decide_eq_true rfl
        · have e3 : has rows x = false := by
            cases e4 : has rows x with
            | false => rfl
            | true => exact absurd (g5.mpr e4) w
          rw [e3]
          refine decide_eq_false fun v => w ?_
          have v2 : (y : Int) = (z : Int) := V.int.inj v
          omega
      rw [e2, decide_eq_true rfl]
      exact q _ s03
end
end Tf
/-! ### the law -/
namespace Tf
open PySem PySem.Spec PyProof.Rows L2
theorem pow_big {a b : Nat} (ha : a = 10 * 10) (hb : b = 100 * 10) : 10 ^ a < 2 ^ b := by
  rw [ha, hb, Nat.pow_mul, Nat.pow_mul]
  exact Nat.pow_lt_pow_left (by decide) (by decide)
theorem big1 {n : Nat} (h : n ≤ 10 ^ 100) : n < 2 ^ 1000 := Nat.lt_of_le_of_lt h (pow_big rfl rfl)
/-- a list of numbers, none too great -/
structure Nums (H : Hp) (l : Addr) (L : List Nat) : Prop where
  at_ : H l = some (.lst (vis L))
  le : ∀ x ∈ L, x ≤ 10 ^ 100
  len : L.length ≤ 100
theorem Nums.same {H H' : Hp} {l : Addr} {L : List Nat} (s : Same H H') (n : Nums H l L) : Nums H' l L := ⟨s _ _ n.at_, n.le, n.len⟩
theorem Nums.draw {H H' : Hp} {l d : Addr} {L : List Nat} (ld : LawSt H d) (s : SameX d H H') (n : Nums H l L) : Nums H' l L :=
  ⟨s _ _ (fun z => ld.d.noLst _ (z ▸ n.at_)) n.at_, n.le, n.len⟩
theorem vis_app (a b : List Nat) : vis a ++ vis b = vis (a ++ b) := (List.map_append ..).symm
theorem Nums.cl {H : Hp} {l b : Addr} {L M : List Nat} (n : Nums H l L) (m : Nums H b M) : (vis L).length + (vis M).length ≤ sizeLine := by
  rw [vis_len, vis_len]
  have h1 := n.len
  have h2 := m.len
  exact Nat.le_of_lt (small1000 (by omega))
theorem Nums.cat {H : Hp} {l b q : Addr} {L M : List Nat} (n : Nums H l L) (m : Nums H b M) (hl : L.length + M.length ≤ 100) (nq : H q = none) : Nums (upd H q (.lst (vis L ++ vis M))) q (L ++ M) :=
  ⟨by rw [upd_same, vis_app], fun x hx => by
    rcases List.mem_append.mp hx with hx | hx
    · exact n.le x hx
    · exact m.le x hx, by rw [List.length_append]; exact hl⟩
/-- what stands while the law looks at one stack; Hb: a heap behind its making -/
structure En (C S : Addr) (H0 Hb : Hp) (d p ra : Addr) (ts : List Addr) (rows : List Row) (H : Hp) : Prop where
  sm : Same H0 H
  ld : LawSt H d
  st : StackAt C S H p rows
  ra : RowsAt H ra ts rows
  sx : SameX d Hb H
section
variable {C S : Addr} {H0 Hb H H' : Hp} {d p ra : Addr} {ts : List Addr} {rows : List Row}
theorem En.same (s : Same H H') (n : En C S H0 Hb d p ra ts rows H) : En C S H0 Hb d p ra ts rows H' :=
  ⟨fun b z e => s b z (n.sm b z e), n.ld.same s, n.st.same s, n.ra.same s, n.sx.trans (Same.x s d)⟩
theorem En.draw (nd : H0 d = none) (s : SameX d H H') (l : LawSt H' d) (n : En C S H0 Hb d p ra ts rows H) : En C S H0 Hb d p ra ts rows H' :=
  ⟨fun b z e => s b z (ne_of_none e nd) (n.sm b z e), l, n.st.lawD n.ld.d s, n.ra.lawD n.ld.d s, n.sx.trans s⟩
theorem En.base (n : En C S H0 Hb d p ra ts rows H) : En C S H0 H d p ra ts rows H := ⟨n.sm, n.ld, n.st, n.ra, fun _ _ _ e => e⟩
theorem En.nd (n : En C S H0 Hb d p ra ts rows H) {q : Addr} (nq : H q = none) : q ≠ d := by
  rintro rfl
  obtain ⟨l, m, t, h⟩ := n.ld
  rw [nq] at h
  cases h
theorem En.free (n : En C S H0 Hb d p ra ts rows H) {q : Addr} (nq : H q = none) : Hb q = none := by
  cases e : Hb q with
  | none => rfl
  | some z =>
    have := n.sx q z (n.nd nq) e
    rw [nq] at this
    cases this
/-- a list of the law's own, made behind Hb, changes -/
theorem En.own (b : En C S H0 Hb d p ra ts rows Hb) (nd : H0 d = none) {q : Addr} {o : HO} (nq : Hb q = none) (n : En C S H0 Hb d p ra ts rows H) : En C S H0 Hb d p ra ts rows (upd H q o) := by
  have hqd : q ≠ d := b.nd nq
  have sx : SameX d Hb (upd H q o) := fun c z m e => by
    rw [upd_ne (ne_of_none e nq)]
    exact n.sx c z m e
  have ld : LawSt (upd H q o) d := by
    obtain ⟨l, m, t, h⟩ := n.ld
    exact ⟨l, m, t, by rw [upd_ne (Ne.symm hqd)]; exact h⟩
  exact ⟨fun c z e => sx c z (ne_of_none e nd) (b.sm c z e), ld, b.st.lawD b.ld.d sx, b.ra.lawD b.ld.d sx, sx⟩
end
theorem rg12 : rgV 0 12 = vis (List.range 12) := rfl
theorem great_le {rows : List Row} (ok : ∀ row ∈ rows, RowOk row) : great rows ≤ prodN rows := Nat.le_of_lt (great_lt rows ok)
theorem len1000 {n : Nat} (h : n ≤ 1000) : n ≤ sizeLine := Nat.le_of_lt (small1000 h)
theorem e9 : V.int ((10 : Int) ^ (9 : Int).toNat) = vi 1000000000 := rfl
theorem e30 (n : Nat) : V.int ((10 : Int) ^ (30 : Int).toNat + (n : Int)) = vi (10 ^ 30 + n) := rfl
theorem e60 (n : Nat) : V.int ((n : Int) * (10 : Int) ^ (60 : Int).toNat + 1) = vi (n * 10 ^ 60 + 1) := rfl
theorem rank_plain : ∀ (rows : List Row) (x : Nat), (rankF rows x).2 = true → isPl (restN rows x) = true
  | [], x, h => h
  | row :: rs, x, h => by
    have h : ((rankF rs (x / row.1)).2 && row.2.contains (x % row.1)) = true := h
    exact rank_plain rs _ (andB h).1
theorem stock_ok2 : ∀ row ∈ stock, RowOk row := fun row h => RowOk.of h
theorem stock_prod : prodN stock = 218700 := rfl
theorem eT (n g : Nat) : [V.int 0, V.int 5, V.int ((10 : Int) ^ (9 : Int).toNat + (n : Int)), vi g, V.int ((g : Int) + 1), V.int (7 * (10 : Int) ^ (30 : Int).toNat)] = vis [0, 5, 1000000000 + n, g, g + 1, 7 * 10 ^ 30] := by
  have e1 : (10 : Int) ^ (9 : Int).toNat + (n : Int) = ((1000000000 + n : Nat) : Int) := rfl
  have e2 : 7 * (10 : Int) ^ (30 : Int).toNat = ((7 * 10 ^ 30 : Nat) : Int) := rfl
  rw [e1, e2]
  rfl
theorem comp26 : comp [(3, [0, 1]), (10, [0, 1, 7, 8])] 26 = some (24, 25) := by
  have p0 : plo 0 = 0 := by
    unfold plo
    rw [dg_zero]
    rfl
  have u0 : pup 0 = 0 := by
    unfold pup
    rw [dg_zero]
    rfl
  have e : comp [(3, [0, 1]), (10, [0, 1, 7, 8])] 26 = some (0 + 3 * (8 + 10 * plo 0), 1 + 3 * (8 + 10 * pup 0)) := rfl
  rw [e, p0, u0]
theorem comp7 : comp [] 7 = some (1, 4) := by
  have e : comp [] 7 = some (plo 7, pup 7) := rfl
  rw [e, plo_rec 7, pup_rec 7]
  show some (1 + 3 * plo 2, 1 + 3 * pup 2) = _
  rw [plo_rec 2, pup_rec 2]
  have p0 : plo 0 = 0 := by
    unfold plo
    rw [dg_zero]
    rfl
  have u0 : pup 0 = 0 := by
    unfold pup
    rw [dg_zero]
    rfl
  show some (1 + 3 * (0 + 3 * plo 0), 1 + 3 * (1 + 3 * pup 0)) = _
  rw [p0, u0]
structure Lw (P : Program) (w : World) (K : Fg) (mg : Str → Option Value) (base : Heap) (C S : Addr) : Prop where
  B : Bt mg
  U : ClT K mg C
  T : StT K mg S
  dBegin : DOk P w K mg base 1 "_law_begin" ["_law_script", "_law_spot"] (spLbegin K)
  dDraw : DOk P w K mg base 1 "_law_draw" ["_law_state", "_law_size"] spLdraw
  dStock : DOk P w K mg base 1 "_law_stock" [] spLstock
  dDrawn : DOk P w K mg base 2 "_law_drawn" ["_law_state", "_law_most", "_law_bound"] spLdrawn
  dCells : DOk P w K mg base 5 "_law_cells" ["_law_rows"] (spLcells C)
  dStack : DOk P w K mg base 5 "_law_stack" ["_law_some"] (spLstack C S)
  dMember : DOk P w K mg base 2 "_law_member" ["_law_rows", "_law_label"] spLmember
  dNR : DOk P w K mg base 12 "_law_number_right" ["_law_line", "_law_rows", "_law_place"] (spNR C S)
  dGreat : POk P w K mg base 3 S "greatest" (spGetS C S great)
  dMod : POk P w K mg base 3 S "modulus" (spGetS C S prodN)
  dPush : ∃ f, FnR P w K mg base CX0 2 f (spStar (spPush C S)) ∧ Meth K S "push" f
  dRank : MOk P w K mg base 4 S "rank" ["self", "x"] (spRank C S)
  dComp : CpOk P w K mg base C S
  dC : CMk P w K mg base C
  dS : SMk P w K mg base C S
def spLaw (K : Fg) : Sp := fun vs H Q _ => ∃ (a : Addr) (ns : List Int), vs = [.ref a] ∧ SqL K H a (ns.map V.int) ∧ ns.length ≤ 63 ∧ ∀ H', Q (.bl true) H'
section
variable {P : Program} {w : World} {K : Fg} {mg : Str → Option Value} {base : Heap} {f C S : Addr} {fd : FuncData}
theorem ok_law (L : Lw P w K mg base C S) (F : Fn0 K "law" "law" slaw f fd) : FnOk P w K mg base CX0 13 f fd ["_law_script"] (spLaw K) := by
  refine F.ok sclaw (fun vs H Q E h => ?_) (fun cdv A outer s H vs Q E hr h => ?_)
  · obtain ⟨a, ns, rfl, _⟩ := h
    rfl
  · obtain ⟨a, ns, rfl, hS, hl, q⟩ := h
    obtain ⟨B, U, T, dBegin, dDraw, dStock, dDrawn, dCells, dStack, dMember, dNR, dGreat, dMod, ⟨fp, dPush, mPush⟩, dRank, dComp, dC, dS⟩ := L
    have hr1 : Room 1 _ := hr.mono (by decide)
    have hr2 : Room 2 _ := hr.mono (by decide)
    have hr4 : Room 4 _ := hr.mono (by decide)
    have hr5 : Room 5 _ := hr.mono (by decide)
    refine ⟨_, PSs.nox (pss_cons (ps_for PassesOwn.never rfl (pi_range1 (by rfl) B.range (pa_cons (pe_op op_add pe_int (pe_callB (call_min2 rfl) (by rfl) B.min boot_min (pa_cons pe_int (pa_cons (pe_callB call_len (by rfl) B.len boot_len (pa_cons (pv 0) pa_nil)) pa_nil)))) pa_nil)) (pg_name (i := 1) sclaw.nd rfl (.inl rfl))
        (pss_cons (ps_set (i := 2) sclaw.nd rfl (.inr rfl) (pe_d dBegin hr1 (by rfl) (pa_cons (pv 0) (pa_cons (pv 1) pa_nil))))
        (pss_one (ps_for PassesOwn.never rfl (pi_range1 (by rfl) B.range (pa_cons pe_int pa_nil)) (pg_name (i := 3) sclaw.nd rfl (.inl rfl))
          (pss_cons (ps_set (i := 4) sclaw.nd rfl (.inl rfl) (pe_d dDrawn hr2 (by rfl) (pa_cons (pv 2) (pa_cons pe_int (pa_cons pe_int pa_nil)))))
          (pss_cons (ps_asg (pe_tup (pa_cons (pe_d dStack hr5 (by rfl) (pa_cons (pe_d dCells hr5 (by rfl) (pa_cons (pv 4) pa_nil)) pa_nil)) (pa_cons (pe_d dDraw hr1 (by rfl) (pa_cons (pv 2) (pa_cons (pe_op op_pow pe_int pe_int) pa_nil))) pa_nil)))
              (pg_tup rfl (pgs_cons (pg_name (i := 5) sclaw.nd rfl (.inr rfl)) (pgs_cons (pg_name (i := 6) sclaw.nd rfl (.inl rfl)) pgs_nil))))
          (pss_cons (ps_set (i := 7) sclaw.nd rfl (.inl rfl) (pe_op op_cat (pe_op op_cat (pe_listRg rfl (by rfl) B.list (prg_1 (by rfl) B.range pe_int))
              (pe_lc (own := [("_law_k", 10)]) rfl sclaw.nd (pi_range1 (by rfl) B.range (pa_cons pe_int pa_nil)) (blkOk_by (N := nnlaw) (sc := defScope slaw) (by decide +kernel)) (fun _ _ _ _ _ => pg_name (i := 10) sclaw.nd rfl (.inl rfl)) (fun _ _ _ _ _ => pts_nil)
                (fun _ _ _ _ _ => pe_op op_add (pe_p dGreat (pv 5) T.cl hr4) (pv 10))))
              (pe_lst (pa_cons (pe_d dMember hr2 (by rfl) (pa_cons (pv 4) (pa_cons (pv 6) pa_nil))) pa_nil))))
          (pss_cons (ps_set (i := 7) sclaw.nd rfl (.inl rfl) (pe_op op_cat (pv 7) (pe_lst (pa_cons (pv 6) (pa_cons (pe_op op_add (pe_op op_pow pe_int pe_int) (pv 6)) (pa_cons (pe_op op_add (pe_op op_mul (pv 6) (pe_op op_pow pe_int pe_int)) pe_int) pa_nil))))))
          (pss_cons (ps_expr (pe_bm PySem.F.plainAttrs_list PySem.F.slot_list_append PySem.F.type_list_append mt_append (pv 7) (pa_cons (pe_op op_add (pe_op op_mul (pe_p dMod (pv 5) T.cl hr4) (pv 6)) (pe_d dDraw hr1 (by rfl) (pa_cons (pv 2) (pa_cons (pe_p dMod (pv 5) T.cl hr4) pa_nil)))) pa_nil)))
          (pss_cons (ps_set (i := 7) sclaw.nd rfl (.inl rfl) (pe_op op_cat (pv 7)
              (pe_lc (own := [("_law_k", 10)]) rfl sclaw.nd (pi_range1 (by rfl) B.range (pa_cons pe_int pa_nil)) (blkOk_by (N := nnlaw) (sc := defScope slaw) (by decide +kernel)) (fun _ _ _ _ _ => pg_name (i := 10) sclaw.nd rfl (.inl rfl)) (fun _ _ _ _ _ => pts_nil)
                (fun _ _ _ _ _ => pe_d dDraw hr1 (by rfl) (pa_cons (pv 2) (pa_cons (pe_p dMod (pv 5) T.cl hr4) pa_nil))))))
          (pss_one (ps_for PassesOwn.never rfl (pi_list (pv 7)) (pg_name (i := 8) sclaw.nd rfl (.inl rfl))
            (pss_one (ps_if (pt_not (pt_val (pe_d dNR hr (by rfl) (pa_cons (pv 5) (pa_cons (pv 4) (pa_cons (pv 8) pa_nil)))))) (pss_one (ps_ret pe_bl)) pss_nil))))))))))))))
      (pss_cons (ps_asg (pe_tup (pa_cons (pe_d0 dStock hr1 (by rfl)) (pa_cons (pe_mkS0 dS T hr4 (by rfl)) pa_nil))) (pg_tup rfl (pgs_cons (pg_name (i := 4) sclaw.nd rfl (.inl rfl)) (pgs_cons (pg_name (i := 5) sclaw.nd rfl (.inr rfl)) pgs_nil))))
      (pss_cons (ps_for PassesOwn.never rfl (pi_list (pe_d dCells hr5 (by rfl) (pa_cons (pv 4) pa_nil))) (pg_name (i := 9) sclaw.nd rfl (.inl rfl))
        (pss_one (ps_expr (pe_methR (pv 5) T.cl mPush dPush hr2 pass0 (pa_cons (pv 9) pa_nil)))))
      (pss_cons (ps_for PassesOwn.never rfl (pi_tup (pe_tup (pa_cons pe_int (pa_cons pe_int (pa_cons (pe_op op_add (pe_op op_pow pe_int pe_int) (pe_callB call_len (by rfl) B.len boot_len (pa_cons (pv 0) pa_nil))) (pa_cons (pe_p dGreat (pv 5) T.cl hr4)
          (pa_cons (pe_op op_add (pe_p dGreat (pv 5) T.cl hr4) pe_int) (pa_cons (pe_op op_mul pe_int (pe_op op_pow pe_int pe_int)) pa_nil)))))))) (pg_name (i := 8) sclaw.nd rfl (.inl rfl))
        (pss_one (ps_if (PW.pt (pw_or (pt_not (pt_val (pe_d dNR hr (by rfl) (pa_cons (pv 5) (pa_cons (pv 4) (pa_cons (pv 8) pa_nil))))))
          (pw_or1 (pt_cmp (pc_neI (pe_m dRank (pv 5) T.cl hr4 (pa_cons (pe_d dMember hr2 (by rfl) (pa_cons (pv 4) (pa_cons (pv 8) pa_nil))) pa_nil)) (pv 8)))))) (pss_one (ps_ret pe_bl)) pss_nil)))
      (pss_cons (ps_set (i := 5) sclaw.nd rfl (.inr rfl) (pe_mkS dS T hr4 (by rfl) (pa_cons (pe_mkC dC U hr4 (by rfl) (pa_cons pe_int (pa_cons (pe_tup (pa_cons pe_int (pa_cons pe_int pa_nil))) pa_nil)))
          (pa_cons (pe_mkC dC U hr4 (by rfl) (pa_cons pe_int (pa_cons (pe_tup (pa_cons pe_int (pa_cons pe_int (pa_cons pe_int (pa_cons pe_int pa_nil))))) pa_nil))) pa_nil))))
      (pss_one (ps_ret (pe_and (pe_cmpR (op_eqD hr.units) (pe_m dComp.m (pv 5) T.cl hr5 (pa_cons pe_int pa_nil)) (pe_tup (pa_cons pe_int (pa_cons pe_int pa_nil))) (by rfl))
        (pe_one (pe_cmpR (op_eqD hr.units) (pe_m dComp.m (pe_mkS0 dS T hr4 (by rfl)) T.cl hr5 (pa_cons pe_int pa_nil)) (pe_tup (pa_cons pe_int (pa_cons pe_int pa_nil))) (by rfl))))))))))), ?_⟩
    have hlenS : LenV K (.ref a) H ns.length := .inl ⟨_, hS, (List.length_map ..).symm⟩
    have hb : -(2 ^ 62) ≤ (1 + (if ((ns.length : Nat) : Int) < 2 then ((ns.length : Nat) : Int) else 2)) ∧ (1 + (if ((ns.length : Nat) : Int) < 2 then ((ns.length : Nat) : Int) else 2)) < 2 ^ 62 := by
      split <;> omega
    refine ⟨_, rfl, _, ns.length, rfl, hlenS, _, _, rfl, _, _, rfl, rfl, _, rfl, hb.1, hb.2, for_range (fun i σ H3 => ∃ (y1 y2 y3 y4 y5 y6 y7 y8 : Option V), σ = [some (.ref a), y1, y2, y3, y4, y5, y6, y7, y8, none, none] ∧ Same H H3)
      ⟨none, none, none, none, none, none, none, none, rfl, fun _ _ e => e⟩ ?_ ?_⟩
    · rintro i σ H3 hi ⟨y1, y2, y3, y4, y5, y6, y7, y8, rfl, s3⟩
      refine ⟨_, rfl, _, rfl, a, ns, i, by show [V.ref a, V.int (0 + (i : Int))] = _; rw [Int.zero_add], Same.sql s3 hS, hl, fun d H4 s4 nd hd => ?_⟩
      have ndH : H d = none := Same.free s3 nd
      have s04 : Same H H4 := fun b z e => s4 b z (s3 b z e)
      refine ⟨2, rfl, by decide, by decide, for_range (fun j σ H5 => ∃ (y3 y4 y5 y6 y7 y8 : Option V), σ = [some (.ref a), some (.int (0 + (i : Int))), some (.ref d), y3, y4, y5, y6, y7, y8, none, none] ∧ Same H H5 ∧ LawSt H5 d)
        ⟨_, _, _, _, _, _, rfl, s04, hd⟩ ?_ ?_⟩
      · rintro j σ H5 hj ⟨y3, y4, y5, y6, y7, y8, rfl, s5, hd5⟩
        refine ⟨_, rfl, d, rfl, hd5, fun ra ts rows H6 x6 hd6 dr => ?_⟩
        have ok : ∀ row ∈ rows, RowOk row := fun row h => RowOk.of (dr.mem row h)
        have hlr := dr.len
        have hpr := dr.prod
        have hpos := prod_pos rows ok
        have hgr := great_le ok
        have s06 : Same H H6 := fun b z e => x6 b z (ne_of_none e ndH) (s5 b z e)
        refine ⟨_, rfl, ra, ts, rows, rfl, dr.at_, dr.mem, by omega, fun cl cs H7 s7 ncl hcl ccl => ?_⟩
        refine ⟨cl, cs, rows, rfl, hcl, ccl, hlr, fun p H8 s8 st8 => ?_⟩
        have en8 : En C S H H8 d p ra ts rows H8 := ⟨fun b z e => s8 b z (s7 b z (s06 b z e)), (hd6.same s7).same s8, st8, (dr.at_.same s7).same s8, fun _ _ _ e => e⟩
        refine ⟨_, rfl, _, _, rfl, rfl, ⟨by decide, by decide, by decide⟩, d, 1000000000, rfl, en8.ld, by decide, by decide, fun far H9 hfar x9 hd9 => ?_⟩
        have en9 := en8.draw ndH x9 hd9
        refine ⟨by show 2 ≤ sizeLine; decide, fun T nT => ⟨T, _, rfl, sqT_of upd_same, rfl, _, _, rfl, _, _, rfl, rfl, ?_⟩⟩
        have en10 := (en9.same (same_new nT (o := .tup [.ref p, vi far]))).base
        generalize upd H9 T (.tup [.ref p, vi far]) = H10 at en10 ⊢
        refine ⟨12, rfl, RgOk.of_le (by decide) (by decide) (by decide) (by decide), fun l1 nl1 => ?_⟩
        have en11 := en10.same (same_new nl1 (o := .lst (rgV 0 12)))
        have n1 : Nums (upd H10 l1 (.lst (rgV 0 12))) l1 (List.range 12) := ⟨by rw [upd_same, rg12], fun x hx => by
          have := List.mem_range.mp hx
          omega, by decide⟩
        generalize upd H10 l1 (.lst (rgV 0 12)) = H11 at en11 n1 ⊢
        refine ⟨12, rfl, by decide, by decide, fun D nD => ?_⟩
        refine lc_range (lo := 0) (n := 12) (fun i H12 => Same H11 H12 ∧ H12 D = some (.lst (vis ((List.range i).map fun k => great rows + k)))) ⟨same_new nD, upd_same⟩ ?_ ?_
        · rintro k H12 hk ⟨s12, h12⟩
          have en12 := en11.same s12
          obtain ⟨dx, la, ps, c12⟩ := en12.st
          refine ⟨rfl, _, rfl, p, dx, _, rfl, c12.ins, p, rows, rfl, ⟨dx, la, ps, c12⟩, fun H13 s13 => ⟨_, rfl, _, _, rfl, rfl, _, s13 _ _ h12, ?_, ?_, ?_⟩⟩
          · rw [vis_len, List.length_map, List.length_range]
            exact small1000 (by omega)
          · exact same_own (fun b z e => s13 b z (s12 b z e)) nD
          · rw [upd_same, List.range_succ, List.map_append]
            unfold vis
            rw [List.map_append]
            show some (HO.lst (_ ++ [V.int ((great rows : Int) + (0 + (k : Int)))])) = _
            rw [Int.zero_add]
            rfl
        · rintro H12 ⟨s12, h12⟩
          have en12 := en11.same s12
          have n2 := n1.same s12
          have n3 : Nums H12 D ((List.range 12).map fun k => great rows + k) := ⟨h12, fun x hx => by
            obtain ⟨k, hk, rfl⟩ := List.mem_map.mp hx
            have := List.mem_range.mp hk
            omega, by rw [List.length_map, List.length_range]; decide⟩
          refine ⟨l1, D, _, _, rfl, rfl, n2.at_, n3.at_, n2.cl n3, fun q1 nq1 => ?_⟩
          have en13 := en12.same (same_new nq1 (o := .lst (vis (List.range 12) ++ vis ((List.range 12).map fun k => great rows + k))))
          have m1 := n2.cat n3 (by rw [List.length_map, List.length_range]; decide) nq1
          generalize upd H12 q1 (.lst (vis (List.range 12) ++ vis ((List.range 12).map fun k => great rows + k))) = H13 at en13 m1 ⊢
          have lm1 : (List.range 12 ++ (List.range 12).map fun k => great rows + k).length = 24 := by rw [List.length_append, List.length_map, List.length_range]
          generalize (List.range 12 ++ (List.range 12).map fun k => great rows + k) = L1 at m1 lm1
          refine ⟨_, rfl, _, rfl, ra, ts, rows, far, rfl, en13.ra, ok, by omega, fun H14 s14 => ?_⟩
          have en14 := en13.same s14
          have m14 := m1.same s14
          have hmb : memb rows far ≤ 10 ^ 100 := by
            have h1 := memb_lt rows ok far 1000000000 (by omega)
            have h2 : prodN rows * (1000000000 * 1000000000 + 1) ≤ 3000 * (1000000000 * 1000000000 + 1) := Nat.mul_le_mul_right _ hpr
            omega
          refine ⟨by show 1 ≤ sizeLine; decide, fun q2 nq2 => ?_⟩
          have en15 := en14.same (same_new nq2 (o := .lst (vis [memb rows far])))
          have m15 := m14.same (same_new nq2 (o := .lst (vis [memb rows far])))
          have m2 : Nums (upd H14 q2 (.lst (vis [memb rows far]))) q2 [memb rows far] := ⟨upd_same, fun x hx => by rw [List.mem_singleton.mp hx]; exact hmb, by show 1 ≤ 100; decide⟩
          refine ⟨q1, q2, _, _, rfl, rfl, m15.at_, m2.at_, m15.cl m2, fun q3 nq3 => ?_⟩
          have en16 := en15.same (same_new nq3 (o := .lst (vis L1 ++ vis [memb rows far])))
          have m3 := m15.cat m2 (by rw [lm1]; show 25 ≤ 100; decide) nq3
          have lm3 : (L1 ++ [memb rows far]).length = 25 := by rw [List.length_append, lm1]; rfl
          generalize L1 ++ [memb rows far] = L3 at m3 lm3
          change En C S H H10 d p ra ts rows (upd (upd H14 q2 (.lst [vi (memb rows far)])) q3 (.lst (vis L1 ++ vis [memb rows far]))) at en16
          change Nums (upd (upd H14 q2 (.lst [vi (memb rows far)])) q3 (.lst (vis L1 ++ vis [memb rows far]))) q3 L3 at m3
          generalize upd (upd H14 q2 (.lst [vi (memb rows far)])) q3 (.lst (vis L1 ++ vis [memb rows far])) = H16 at en16 m3 ⊢
          refine ⟨_, rfl, _, rfl, _, _, rfl, rfl, ⟨by decide, by decide, by decide⟩, _, rfl, _, _, rfl, rfl, _, rfl, _, _, rfl, rfl, ⟨by decide, by decide, by decide⟩, _, _, rfl, rfl, .inl ⟨by show -(2 ^ 64) < (far : Int); omega, by show (far : Int) < 2 ^ 64; omega⟩, _, _, rfl, rfl, by show 3 ≤ sizeLine; decide, fun q4 nq4 => ?_⟩
          have m4 : Nums (upd H16 q4 (.lst (vis [far, 10 ^ 30 + far, far * 10 ^ 60 + 1]))) q4 [far, 10 ^ 30 + far, far * 10 ^ 60 + 1] := ⟨upd_same, fun x hx => by
            rcases List.mem_cons.mp hx with rfl | hx
            · omega
            · rcases List.mem_cons.mp hx with rfl | hx
              · omega
              · rw [List.mem_singleton.mp hx]
                omega, by show 3 ≤ 100; decide⟩
          have en17 := en16.same (same_new nq4 (o := .lst (vis [far, 10 ^ 30 + far, far * 10 ^ 60 + 1])))
          have m17 := m3.same (same_new nq4 (o := .lst (vis [far, 10 ^ 30 + far, far * 10 ^ 60 + 1])))
          refine ⟨q3, q4, _, _, rfl, rfl, m17.at_, m4.at_, m17.cl m4, fun q5 nq5 => ?_⟩
          have en18 := en17.same (same_new nq5 (o := .lst (vis L3 ++ vis [far, 10 ^ 30 + far, far * 10 ^ 60 + 1])))
          have m5 := m17.cat m4 (by rw [lm3]; show 28 ≤ 100; decide) nq5
          have lm5 : (L3 ++ [far, 10 ^ 30 + far, far * 10 ^ 60 + 1]).length = 28 := by rw [List.length_append, lm3]; rfl
          generalize L3 ++ [far, 10 ^ 30 + far, far * 10 ^ 60 + 1] = L5 at m5 lm5
          have nq5b := en17.free nq5
          have nq5d := en17.nd nq5
          have en18b := en18
          obtain ⟨dx, la, ps, c18⟩ := en18b.st
          refine ⟨_, rfl, .inl ⟨rfl, _, sqL_of m5.at_⟩, _, rfl, p, dx, _, rfl, c18.ins, p, rows, rfl, ⟨dx, la, ps, c18⟩, fun H19 s19 => ⟨_, rfl, _, _, rfl, rfl, .inl ⟨by show -(2 ^ 64) < (prodN rows : Int); omega, by show (prodN rows : Int) < 2 ^ 64; omega⟩, ?_⟩⟩
          have en19 := en18.same s19
          have m19 := m5.same s19
          have c19 := c18.same s19
          refine ⟨_, rfl, _, rfl, p, dx, _, rfl, c19.ins, p, rows, rfl, ⟨dx, la, ps, c19⟩, fun H20 s20 => ⟨d, prodN rows, rfl, en19.ld.same s20, hpos, by omega, fun r H21 hr21 x21 hd21 => ⟨_, _, rfl, rfl, q5, vis L5, _, rfl, rfl, ?_, ?_, ?_⟩⟩⟩
          · exact ((m19.same s20).draw (en19.ld.same s20) x21).at_
          · rw [vis_len, lm5]
            decide
          have en21 := (en19.same s20).draw ndH x21 hd21
          have m21 := (m19.same s20).draw (en19.ld.same s20) x21
          have hval : prodN rows * far + r ≤ 10 ^ 100 := by
            have h1 : prodN rows * far ≤ 3000 * 1000000000 := Nat.mul_le_mul hpr (Nat.le_of_lt hfar)
            omega
          have en22 := en10.own ndH nq5b (o := .lst (vis L5 ++ [V.int ((prodN rows : Int) * (far : Int) + (r : Int))])) en21
          have m6 : Nums (upd H21 q5 (.lst (vis L5 ++ [V.int ((prodN rows : Int) * (far : Int) + (r : Int))]))) q5 (L5 ++ [prodN rows * far + r]) := ⟨by rw [upd_same, ← vis_app]; rfl, fun x hx => by
            rcases List.mem_append.mp hx with hx | hx
            · exact m21.le x hx
            · rw [List.mem_singleton.mp hx]
              exact hval, by rw [List.length_append, lm5]; show 29 ≤ 100; decide⟩
          have lm6 : (L5 ++ [prodN rows * far + r]).length = 29 := by rw [List.length_append, lm5]; rfl
          generalize L5 ++ [prodN rows * far + r] = L6 at m6 lm6
          refine ⟨_, rfl, 6, rfl, by decide, by decide, fun D2 nD2 => ?_⟩
          refine lc_range (lo := 0) (n := 6) (fun i H23 => En C S H (upd H21 q5 (.lst (vis L5 ++ [V.int ((prodN rows : Int) * (far : Int) + (r : Int))]))) d p ra ts rows H23 ∧ ∃ L : List Nat, H23 D2 = some (.lst (vis L)) ∧ L.length = i ∧ ∀ x ∈ L, x ≤ 10 ^ 100)
            ⟨en22.base.same (same_new nD2), [], upd_same, rfl, fun _ h => by cases h⟩ ?_ ?_
          · rintro k H23 hk ⟨en23, L, hL, lL, bL⟩
            have en23b := en23
            obtain ⟨dx, la, ps, c23⟩ := en23b.st
            refine ⟨rfl, _, rfl, _, rfl, p, dx, _, rfl, c23.ins, p, rows, rfl, ⟨dx, la, ps, c23⟩, fun H24 s24 => ⟨d, prodN rows, rfl, en23.ld.same s24, hpos, by omega, fun r2 H25 hr25 x25 hd25 => ⟨vis L, ?_, ?_, ?_, L ++ [r2], ?_, ?_, ?_⟩⟩⟩
            · exact x25 _ _ (en22.nd nD2) (s24 _ _ hL)
            · rw [vis_len, lL]
              exact small1000 (by omega)
            · exact en22.base.own ndH nD2 ((en23.same s24).draw ndH x25 hd25)
            · rw [upd_same, ← vis_app]
              rfl
            · rw [List.length_append, lL]
              rfl
            · intro x hx
              rcases List.mem_append.mp hx with hx | hx
              · exact bL x hx
              · rw [List.mem_singleton.mp hx]
                omega
          · rintro H23 ⟨en23, L, hL, lL, bL⟩
            have m23 : Nums H23 q5 L6 := ⟨en23.sx _ _ nq5d m6.at_, m6.le, m6.len⟩
            have mD : Nums H23 D2 L := ⟨hL, bL, by omega⟩
            refine ⟨q5, D2, _, _, rfl, rfl, m23.at_, mD.at_, m23.cl mD, fun q6 nq6 => ?_⟩
            have en24 := en23.same (same_new nq6 (o := .lst (vis L6 ++ vis L)))
            have m7 := m23.cat mD (by rw [lm6, lL]; decide) nq6
            generalize L6 ++ L = L7 at m7
            generalize upd H23 q6 (.lst (vis L6 ++ vis L)) = H24 at en24 m7 ⊢
            refine ⟨_, rfl, q6, rfl, ⟨_, sqL_of m7.at_⟩, for_list (K := K) (a := q6) (xs := vis L7) (fun k σ H26 => ∃ y8 : Option V, σ = [some (.ref a), some (.int (0 + (i : Int))), some (.ref d), some (.int (0 + (j : Int))), some (.ref ra), some (.ref p), some (vi far), some (.ref q6), y8, none, none] ∧ Same H24 H26)
              ⟨_, rfl, fun _ _ e => e⟩ (fun k σ H26 _ ⟨_, _, e⟩ => sqL_of (e _ _ m7.at_)) ?_ ?_⟩
            · rintro k x σ H26 hk ⟨y8, rfl, s26⟩
              obtain ⟨n, hn, rfl⟩ := vis_at hk
              have en26 := en24.same s26
              have hnb := m7.le n (List.mem_of_getElem? hn)
              refine ⟨_, rfl, _, rfl, _, rfl, p, ra, ts, rows, n, rfl, en26.st, en26.ra, dr.mem, by omega, big1 hnb, fun H27 s27 => ⟨true, rfl, iteF ?_⟩⟩
              exact ⟨some (vi n), rfl, fun b z e => s27 b z (s26 b z e)⟩
            · rintro σ H26 ⟨y8, rfl, s26⟩
              have en26 := en24.same s26
              exact ⟨_, _, _, _, _, _, rfl, en26.sm, en26.ld⟩
      · rintro σ H5 ⟨y3, y4, y5, y6, y7, y8, rfl, s5, hd5⟩
        exact ⟨_, _, _, _, _, _, _, _, rfl, s5⟩
    · rintro σ H3 ⟨y1, y2, y3, y4, y5, y6, y7, y8, rfl, s3⟩
      refine ⟨rfl, fun ra ts H4 s4 nra rs => fun p dxp np ndp nep => ?_⟩
      refine mkS_ok (cs := []) (rows := []) np ndp .nil (by decide) fun H5 s5 ⟨dx, la, ps0, nla, st5⟩ => ⟨rfl, by show 2 ≤ sizeLine; decide, fun T1 nT => ⟨T1, _, rfl, sqT_of upd_same, rfl, _, _, rfl, _, _, rfl, rfl, ?_⟩⟩
      have eps : ps0 = [] := by
        have := Paired.length st5.cells
        exact List.length_eq_zero_iff.mp this
      subst eps
      have s56 : Same H5 (upd H5 T1 (.tup [.ref ra, .ref p])) := same_new nT
      have st6 := st5.same s56
      have s46 : Same H4 (upd H5 T1 (.tup [.ref ra, .ref p])) := fun b z e => s56 b z (s5 b z e)
      generalize upd H5 T1 (.tup [.ref ra, .ref p]) = H6 at s46 st6 ⊢
      refine ⟨_, rfl, ra, ts, stock, rfl, rs.same s46, fun _ h => h, by decide, fun cl cs H7 s7 ncl hcl ccl => ?_⟩
      have st7 := st6.same s7
      have ncll : cl ≠ la := by
        rintro rfl
        rw [st6.la] at ncl
        cases ncl
      have lcs : cs.length = 8 := Paired.length ccl
      have ncell : NotCell C H7 la := .inr ⟨_, st7.la⟩
      refine ⟨cl, rfl, ⟨_, sqL_of hcl⟩, for_list (K := K) (a := cl) (xs := refs cs) (fun i σ H8 => ∃ y9 : Option V, σ = [some (.ref a), y1, y2, y3, some (.ref ra), some (.ref p), y6, y7, y8, y9, none] ∧ SameX la H7 H8 ∧ StackAs C S H8 p (stock.take i) dx la (cs.take i))
        ⟨_, rfl, fun _ _ _ e => e, st7⟩ (fun i σ H8 _ ⟨_, _, e, _⟩ => sqL_of (e _ _ ncll hcl)) ?_ ?_⟩
      · rintro i x σ H8 hi ⟨y9, rfl, x8, st8⟩
        obtain ⟨c, row, rfl, hc, hrow, cell0⟩ := ccl.at_ hi
        have cell := CellAt.sx ncell x8 cell0
        have hi8 : i < 8 := by
          have := (List.getElem?_eq_some_iff.mp hc).1
          omega
        refine ⟨_, rfl, p, dx, _, rfl, st8.ins, rfl, _, rfl, [.ref p], [.ref c], rfl, rfl, by show 1 ≤ sizeLine; decide, fun t nt => ?_⟩
        have st9 := st8.same (same_new nt (o := .tup [.ref c]))
        refine ⟨p, t, dx, la, cs.take i, [c], stock.take i, [row], rfl, upd_same, st9, .cons (cell.same (same_new nt)) .nil, ?_, fun H9 x9 st10 => ⟨some (.ref c), rfl, ?_, ?_⟩⟩
        · rw [List.length_take]
          show min i 8 + 1 ≤ 100
          omega
        · exact fun b z n e => x9 b z n (same_new nt b z (x8 b z n e))
        · rw [List.take_add_one, hrow, List.take_add_one, hc]
          exact st10
      · rintro σ H8 ⟨y9, rfl, x8, st8⟩
        have e1 : stock.take (refs cs).length = stock := by
          rw [List.length_map, lcs]
          rfl
        have e2 : cs.take (refs cs).length = cs := by rw [List.length_map, List.take_length]
        rw [e1, e2] at st8
        have s48 : Same H4 H8 := fun b z e => x8 b z (ne_of_none e nla) (s7 b z (s46 b z e))
        have s08 : Same H H8 := fun b z e => s48 b z (s4 b z (s3 b z e))
        have rs8 := rs.same s48
        have sA8 : StackAt C S H8 p stock := ⟨dx, la, cs, st8⟩
        have hlen8 : LenV K (.ref a) H8 ns.length := .inl ⟨_, Same.sql s08 hS, (List.length_map ..).symm⟩
        have hg : great stock < prodN stock := great_lt stock stock_ok2
        rw [stock_prod] at hg
        refine ⟨_, _, rfl, rfl, ⟨by decide, by decide, by decide⟩, _, rfl, _, ns.length, rfl, hlen8, _, _, rfl, rfl, _, rfl, p, dx, _, rfl, st8.ins, p, stock, rfl, sA8, fun H9 s9 => ?_⟩
        have sA9 := sA8.same s9
        refine ⟨_, rfl, p, dx, _, rfl, s9 _ _ st8.ins, p, stock, rfl, sA9, fun H10 s10 => ⟨_, _, rfl, rfl, _, _, rfl, rfl, ⟨by decide, by decide, by decide⟩, _, _, rfl, rfl, .inl (by decide), by show 6 ≤ sizeLine; decide, fun T2 nT2 => ?_⟩⟩
        have hT2 := (upd_same (H := H10) (a := T2) (o := .tup [V.int 0, V.int 5, V.int ((10 : Int) ^ (9 : Int).toNat + (ns.length : Int)), vi (great stock), V.int ((great stock : Int) + 1), V.int (7 * (10 : Int) ^ (30 : Int).toNat)])).trans (congrArg (fun l => some (HO.tup l)) (eT ns.length (great stock)))
        have s811 : Same H8 (upd H10 T2 (.tup [V.int 0, V.int 5, V.int ((10 : Int) ^ (9 : Int).toNat + (ns.length : Int)), vi (great stock), V.int ((great stock : Int) + 1), V.int (7 * (10 : Int) ^ (30 : Int).toNat)])) := fun b z e => same_new nT2 b z (s10 b z (s9 b z e))
        refine ⟨T2, rfl, ⟨_, sqT_of hT2⟩, for_tup (K := K) (a := T2) (xs := vis [0, 5, 1000000000 + ns.length, great stock, great stock + 1, 7 * 10 ^ 30])
          (fun k σ H12 => ∃ y8 : Option V, σ = [some (.ref a), y1, y2, y3, some (.ref ra), some (.ref p), y6, y7, y8, y9, none] ∧ Same (upd H10 T2 (.tup [V.int 0, V.int 5, V.int ((10 : Int) ^ (9 : Int).toNat + (ns.length : Int)), vi (great stock), V.int ((great stock : Int) + 1), V.int (7 * (10 : Int) ^ (30 : Int).toNat)])) H12)
          ⟨_, rfl, fun _ _ e => e⟩ (fun k σ H12 _ ⟨_, _, e⟩ => sqT_of (e _ _ hT2)) ?_ ?_⟩
        · rintro k x σ H12 hk ⟨y8, rfl, s12⟩
          obtain ⟨n, hn, rfl⟩ := vis_at hk
          have hnm := List.mem_of_getElem? hn
          have hnb : n ≤ 7 * 10 ^ 30 := by
            simp only [List.mem_cons, List.not_mem_nil, or_false] at hnm
            rcases hnm with rfl | rfl | rfl | rfl | rfl | rfl
            all_goals omega
          have s812 : Same H8 H12 := fun b z e => s12 b z (s811 b z e)
          have st12 := st8.same s812
          have sA12 := sA8.same s812
          have rs12 := rs8.same s812
          refine ⟨_, rfl, _, rfl, _, rfl, p, ra, ts, stock, n, rfl, sA12, rs12, fun _ h => h, by decide, big1 (by omega), fun H13 s13 => ⟨true, rfl, iteF ?_⟩⟩
          have st13 := st12.same s13
          refine ⟨_, rfl, p, dx, _, rfl, st13.ins, rfl, _, rfl, _, rfl, ra, ts, stock, n, rfl, rs12.same s13, stock_ok2, by decide, fun H14 s14 => ?_⟩
          have hrk := rank_memb stock stock_ok2 n
          have hmb : memb stock n ≤ 10 ^ 100 := by
            have h1 := memb_lt stock stock_ok2 n (7 * 10 ^ 30) hnb
            rw [stock_prod] at h1
            omega
          refine ⟨p, stock, memb stock n, rfl, (sA12.same s13).same s14, by decide, big1 hmb, rank_plain _ _ (by rw [hrk]), fun H15 s15 => ⟨_, rfl, _, _, rfl, rfl, _, rfl, ?_⟩⟩
          refine ite2 (fun w => ?_) (fun _ => ?_)
          · have w : (!decide (((rankF stock (memb stock n)).1 : Int) = (n : Int))) = true := w
            rw [hrk, decide_eq_true rfl] at w
            cases w
          · exact ⟨some (vi n), rfl, fun b z e => s15 b z (s14 b z (s13 b z (s12 b z e)))⟩
        · rintro σ H12 ⟨y8, rfl, s12⟩
          have o1 : RowOk (3, [0, 1]) := RowOk.of (by decide)
          have o2 : RowOk (10, [0, 1, 7, 8]) := RowOk.of (by decide)
          refine ⟨by show 2 ≤ sizeLine; decide, fun m1 nm1 => fun x1 dx1 nx1 ndx1 ne1 => ?_⟩
          refine mkC_ok (row := (3, [0, 1])) nx1 ndx1 upd_same o1 fun H13 s13 c13 => ⟨rfl, by show 4 ≤ sizeLine; decide, fun m2 nm2 => fun x2 dx2 nx2 ndx2 ne2 => ?_⟩
          refine mkC_ok (row := (10, [0, 1, 7, 8])) nx2 ndx2 upd_same o2 fun H14 s14 c14 => ⟨rfl, fun p2 dp np2 ndp2 ne3 => ?_⟩
          have cc : CellsAt C H14 [x1, x2] [(3, [0, 1]), (10, [0, 1, 7, 8])] := .cons ((c13.same (same_new nm2)).same s14) (.cons c14 .nil)
          refine mkS_ok (cs := [x1, x2]) (rows := [(3, [0, 1]), (10, [0, 1, 7, 8])]) np2 ndp2 cc (by decide) fun H15 s15 ⟨dx3, la3, ps3, nla3, st15⟩ => ⟨rfl, ?_⟩
          refine ⟨_, rfl, p2, dx3, _, rfl, st15.ins, rfl, p2, _, 26, rfl, ⟨dx3, la3, ps3, st15⟩, by decide, big1 (by decide), fun v H16 s16 pv => ?_⟩
          rw [comp26] at pv
          refine ⟨by show 2 ≤ sizeLine; decide, fun t nt => ?_⟩
          have pv2 := pv.same (same_new nt (o := .tup [.int 24, .int 25]))
          have tv : PairV (upd H16 t (.tup [.int 24, .int 25])) (some (24, 25)) (.ref t) := ⟨t, rfl, upd_same⟩
          refine ⟨_, _, pv2.dp, tv.dp, pairD_shaped _, pairD_shaped _, _, rfl, ?_⟩
          rw [pairD_eqv]
          refine iteT fun p4 dp4 np4 ndp4 ne4 => ?_
          refine mkS_ok (cs := []) (rows := []) np4 ndp4 .nil (by decide) fun H17 s17 ⟨dx5, la5, ps5, nla5, st17⟩ => ⟨rfl, p4, dx5, _, rfl, st17.ins, rfl, p4, [], 7, rfl, ⟨dx5, la5, ps5, st17⟩, by decide, big1 (by decide), fun v5 H18 s18 pv5 => ?_⟩
          rw [comp7] at pv5
          refine ⟨by show 2 ≤ sizeLine; decide, fun t5 nt5 => ?_⟩
          have pv6 := pv5.same (same_new nt5 (o := .tup [.int 1, .int 4]))
          have tv5 : PairV (upd H18 t5 (.tup [.int 1, .int 4])) (some (1, 4)) (.ref t5) := ⟨t5, rfl, upd_same⟩
          refine ⟨_, _, pv6.dp, tv5.dp, pairD_shaped _, pairD_shaped _, ?_⟩
          rw [pairD_eqv]
          exact q _
end
end Tf
/-! ### the end: the facts, the law -/
namespace Tf
open PySem PySem.Spec PyProof.Rows L2
theorem facts {P : Program} {w : World} {K : Fg} {h : Heap} {mg : Str → Option Value} {f : Addr} (X : K.In h) (G : h.Ns mainGlobals mg) (hfa : mg ("law" : Str) = some (.ref f)) (c : Told fs ds K) :
    ∃ fd : FuncData, (∀ (s : Shared) (v : Value), BindsTo s fd ⟨[v], []⟩ [("_law_script", v)]) ∧ ∀ base : Heap, K.In base → base.Ns mainGlobals mg → FnOk P w K mg base CX0 13 f fd ["_law_script"] (spLaw K) := by
  obtain ⟨fd_is_integer, F_is_integer⟩ := c.dfn 0 (d := dis_integer) (by rfl)
  have g_is_integer := He.glo_ok X G (x := "is_integer") (c.fact 0 (f := fa (.glo "is_integer")) (by rfl))
  obtain ⟨fd_check_number, F_check_number⟩ := c.dfn 1 (d := dcheck_number) (by rfl)
  have g_check_number := He.glo_ok X G (x := "check_number") (c.fact 1 (f := fa (.glo "check_number")) (by rfl))
  obtain ⟨fd_digits_in, F_digits_in⟩ := c.dfn 2 (d := ddigits_in) (by rfl)
  have g_digits_in := He.glo_ok X G (x := "digits_in") (c.fact 2 (f := fa (.glo "digits_in")) (by rfl))
  obtain ⟨fd_number_of, F_number_of⟩ := c.dfn 3 (d := dnumber_of) (by rfl)
  have g_number_of := He.glo_ok X G (x := "number_of") (c.fact 3 (f := fa (.glo "number_of")) (by rfl))
  obtain ⟨fd_are_plain, F_are_plain⟩ := c.dfn 4 (d := dare_plain) (by rfl)
  have g_are_plain := He.glo_ok X G (x := "are_plain") (c.fact 4 (f := fa (.glo "are_plain")) (by rfl))
  obtain ⟨fd_rank_of, F_rank_of⟩ := c.dfn 5 (d := drank_of) (by rfl)
  have g_rank_of := He.glo_ok X G (x := "rank_of") (c.fact 5 (f := fa (.glo "rank_of")) (by rfl))
  obtain ⟨fd_in_base, F_in_base⟩ := c.dfn 6 (d := din_base) (by rfl)
  have g_in_base := He.glo_ok X G (x := "in_base") (c.fact 6 (f := fa (.glo "in_base")) (by rfl))
  obtain ⟨fd_base_rank, F_base_rank⟩ := c.dfn 7 (d := dbase_rank) (by rfl)
  have g_base_rank := He.glo_ok X G (x := "base_rank") (c.fact 7 (f := fa (.glo "base_rank")) (by rfl))
  obtain ⟨fd_plain_pair, F_plain_pair⟩ := c.dfn 8 (d := dplain_pair) (by rfl)
  have g_plain_pair := He.glo_ok X G (x := "plain_pair") (c.fact 8 (f := fa (.glo "plain_pair")) (by rfl))
  obtain ⟨fd_is_between, F_is_between⟩ := c.dfn 9 (d := dis_between) (by rfl)
  have g_is_between := He.glo_ok X G (x := "is_between") (c.fact 9 (f := fa (.glo "is_between")) (by rfl))
  obtain ⟨fd_check_shape, F_check_shape⟩ := c.dfn 10 (d := dcheck_shape) (by rfl)
  have g_check_shape := He.glo_ok X G (x := "check_shape") (c.fact 10 (f := fa (.glo "check_shape")) (by rfl))
  obtain ⟨fd_spoiling_triple, F_spoiling_triple⟩ := c.dfn 11 (d := dspoiling_triple) (by rfl)
  have g_spoiling_triple := He.glo_ok X G (x := "spoiling_triple") (c.fact 11 (f := fa (.glo "spoiling_triple")) (by rfl))
  obtain ⟨fd_serving_table, F_serving_table⟩ := c.dfn 12 (d := dserving_table) (by rfl)
  have g_serving_table := He.glo_ok X G (x := "serving_table") (c.fact 12 (f := fa (.glo "serving_table")) (by rfl))
  obtain ⟨fd_unserved_remainder, F_unserved_remainder⟩ := c.dfn 13 (d := dunserved_remainder) (by rfl)
  have g_unserved_remainder := He.glo_ok X G (x := "unserved_remainder") (c.fact 13 (f := fa (.glo "unserved_remainder")) (by rfl))
  obtain ⟨fd_check_cells, F_check_cells⟩ := c.dfn 14 (d := dcheck_cells) (by rfl)
  have g_check_cells := He.glo_ok X G (x := "check_cells") (c.fact 14 (f := fa (.glo "check_cells")) (by rfl))
  obtain ⟨fd_is_count, F_is_count⟩ := c.dfn 15 (d := dis_count) (by rfl)
  have g_is_count := He.glo_ok X G (x := "is_count") (c.fact 15 (f := fa (.glo "is_count")) (by rfl))
  obtain ⟨fd_check_count, F_check_count⟩ := c.dfn 16 (d := dcheck_count) (by rfl)
  have g_check_count := He.glo_ok X G (x := "check_count") (c.fact 16 (f := fa (.glo "check_count")) (by rfl))
  obtain ⟨fd_Lbegin, F_Lbegin⟩ := c.dfn 17 (d := dLbegin) (by rfl)
  have g_Lbegin := He.glo_ok X G (x := "_law_begin") (c.fact 17 (f := fa (.glo "_law_begin")) (by rfl))
  obtain ⟨fd_Ldraw, F_Ldraw⟩ := c.dfn 18 (d := dLdraw) (by rfl)
  have g_Ldraw := He.glo_ok X G (x := "_law_draw") (c.fact 18 (f := fa (.glo "_law_draw")) (by rfl))
  obtain ⟨fd_Lstock, F_Lstock⟩ := c.dfn 19 (d := dLstock) (by rfl)
  have g_Lstock := He.glo_ok X G (x := "_law_stock") (c.fact 19 (f := fa (.glo "_law_stock")) (by rfl))
  obtain ⟨fd_Ldrawn, F_Ldrawn⟩ := c.dfn 20 (d := dLdrawn) (by rfl)
  have g_Ldrawn := He.glo_ok X G (x := "_law_drawn") (c.fact 20 (f := fa (.glo "_law_drawn")) (by rfl))
  obtain ⟨fd_Lcells, F_Lcells⟩ := c.dfn 21 (d := dLcells) (by rfl)
  have g_Lcells := He.glo_ok X G (x := "_law_cells") (c.fact 21 (f := fa (.glo "_law_cells")) (by rfl))
  obtain ⟨fd_Lstack, F_Lstack⟩ := c.dfn 22 (d := dLstack) (by rfl)
  have g_Lstack := He.glo_ok X G (x := "_law_stack") (c.fact 22 (f := fa (.glo "_law_stack")) (by rfl))
  obtain ⟨fd_Lbase, F_Lbase⟩ := c.dfn 23 (d := dLbase) (by rfl)
  have g_Lbase := He.glo_ok X G (x := "_law_base") (c.fact 23 (f := fa (.glo "_law_base")) (by rfl))
  obtain ⟨fd_Lis_plain, F_Lis_plain⟩ := c.dfn 24 (d := dLis_plain) (by rfl)
  have g_Lis_plain := He.glo_ok X G (x := "_law_is_plain") (c.fact 24 (f := fa (.glo "_law_is_plain")) (by rfl))
  obtain ⟨fd_Lmember, F_Lmember⟩ := c.dfn 25 (d := dLmember) (by rfl)
  have g_Lmember := He.glo_ok X G (x := "_law_member") (c.fact 25 (f := fa (.glo "_law_member")) (by rfl))
  obtain ⟨fd_Lhas, F_Lhas⟩ := c.dfn 26 (d := dLhas) (by rfl)
  have g_Lhas := He.glo_ok X G (x := "_law_has") (c.fact 26 (f := fa (.glo "_law_has")) (by rfl))
  obtain ⟨fd_Lserving, F_Lserving⟩ := c.dfn 27 (d := dLserving) (by rfl)
  have g_Lserving := He.glo_ok X G (x := "_law_serving") (c.fact 27 (f := fa (.glo "_law_serving")) (by rfl))
  obtain ⟨fd_Lplain, F_Lplain⟩ := c.dfn 28 (d := dLplain) (by rfl)
  have g_Lplain := He.glo_ok X G (x := "_law_plain") (c.fact 28 (f := fa (.glo "_law_plain")) (by rfl))
  obtain ⟨fd_Lcomposed, F_Lcomposed⟩ := c.dfn 29 (d := dLcomposed) (by rfl)
  have g_Lcomposed := He.glo_ok X G (x := "_law_composed") (c.fact 29 (f := fa (.glo "_law_composed")) (by rfl))
  obtain ⟨fd_Lnumber_right, F_Lnumber_right⟩ := c.dfn 30 (d := dLnumber_right) (by rfl)
  have g_Lnumber_right := He.glo_ok X G (x := "_law_number_right") (c.fact 30 (f := fa (.glo "_law_number_right")) (by rfl))
  obtain ⟨fd_law, F_law⟩ := c.dfn 31 (d := dlaw) (by rfl)
  have g_law := He.glo_ok X G (x := "law") (c.fact 31 (f := fa (.glo "law")) (by rfl))
  obtain ⟨fd_Cinit, F_Cinit⟩ := c.dfn 32 (d := dCinit) (by rfl)
  obtain ⟨fd_Cmodulus, F_Cmodulus⟩ := c.dfn 33 (d := dCmodulus) (by rfl)
  obtain ⟨fd_Cmembers, F_Cmembers⟩ := c.dfn 34 (d := dCmembers) (by rfl)
  obtain ⟨fd_Csize, F_Csize⟩ := c.dfn 35 (d := dCsize) (by rfl)
  obtain ⟨fd_Cgreatest, F_Cgreatest⟩ := c.dfn 36 (d := dCgreatest) (by rfl)
  obtain ⟨fd_Ccheck_remainder, F_Ccheck_remainder⟩ := c.dfn 37 (d := dCcheck_remainder) (by rfl)
  obtain ⟨fd_Chas, F_Chas⟩ := c.dfn 38 (d := dChas) (by rfl)
  obtain ⟨fd_Cserving_pair, F_Cserving_pair⟩ := c.dfn 39 (d := dCserving_pair) (by rfl)
  obtain ⟨fd_Ccarry, F_Ccarry⟩ := c.dfn 40 (d := dCcarry) (by rfl)
  obtain ⟨fd_Sinit, F_Sinit⟩ := c.dfn 41 (d := dSinit) (by rfl)
  obtain ⟨fd_Smodulus, F_Smodulus⟩ := c.dfn 42 (d := dSmodulus) (by rfl)
  obtain ⟨fd_Sgreatest, F_Sgreatest⟩ := c.dfn 43 (d := dSgreatest) (by rfl)
  obtain ⟨fd_Spush, F_Spush⟩ := c.dfn 44 (d := dSpush) (by rfl)
  obtain ⟨fd_Sremainders, F_Sremainders⟩ := c.dfn 45 (d := dSremainders) (by rfl)
  obtain ⟨fd_Sfrom_remainders, F_Sfrom_remainders⟩ := c.dfn 46 (d := dSfrom_remainders) (by rfl)
  obtain ⟨fd_Srank, F_Srank⟩ := c.dfn 47 (d := dSrank) (by rfl)
  obtain ⟨fd_Scomposed_pair, F_Scomposed_pair⟩ := c.dfn 48 (d := dScomposed_pair) (by rfl)
  have b_digits_in := FunD.bindsN (ps := ["number", "radix"]) F_digits_in fun _ _ _ _ _ _ us hl => match us, hl with | [_, _], _ => rfl
  have b_number_of := FunD.bindsN (ps := ["digits", "radix"]) F_number_of fun _ _ _ _ _ _ us hl => match us, hl with | [_, _], _ => rfl
  have b_are_plain := FunD.bindsN (ps := ["digits"]) F_are_plain fun _ _ _ _ _ _ us hl => match us, hl with | [_], _ => rfl
  have b_rank_of := FunD.bindsN (ps := ["x"]) F_rank_of fun _ _ _ _ _ _ us hl => match us, hl with | [_], _ => rfl
  have b_in_base := FunD.bindsN (ps := ["x"]) F_in_base fun _ _ _ _ _ _ us hl => match us, hl with | [_], _ => rfl
  have b_base_rank := FunD.bindsN (ps := ["x"]) F_base_rank fun _ _ _ _ _ _ us hl => match us, hl with | [_], _ => rfl
  have b_plain_pair := FunD.bindsN (ps := ["m"]) F_plain_pair fun _ _ _ _ _ _ us hl => match us, hl with | [_], _ => rfl
  have b_is_between := FunD.bindsN (ps := ["value", "low", "high"]) F_is_between fun _ _ _ _ _ _ us hl => match us, hl with | [_, _, _], _ => rfl
  have b_check_shape := FunD.bindsN (ps := ["modulus", "members"]) F_check_shape fun _ _ _ _ _ _ us hl => match us, hl with | [_, _], _ => rfl
  have b_spoiling_triple := FunD.bindsN (ps := ["modulus", "members"]) F_spoiling_triple fun _ _ _ _ _ _ us hl => match us, hl with | [_, _], _ => rfl
  have b_serving_table := FunD.bindsN (ps := ["modulus", "members"]) F_serving_table fun _ _ _ _ _ _ us hl => match us, hl with | [_, _], _ => rfl
  have b_unserved_remainder := FunD.bindsN (ps := ["modulus", "members", "table"]) F_unserved_remainder fun _ _ _ _ _ _ us hl => match us, hl with | [_, _, _], _ => rfl
  have b_check_cells := FunD.bindsN (ps := ["values"]) F_check_cells fun _ _ _ _ _ _ us hl => match us, hl with | [_], _ => rfl
  have b_is_count := FunD.bindsN (ps := ["value"]) F_is_count fun _ _ _ _ _ _ us hl => match us, hl with | [_], _ => rfl
  have b_check_count := FunD.bindsN (ps := ["value"]) F_check_count fun _ _ _ _ _ _ us hl => match us, hl with | [_], _ => rfl
  have b_Lbegin := FunD.bindsN (ps := ["_law_script", "_law_spot"]) F_Lbegin fun _ _ _ _ _ _ us hl => match us, hl with | [_, _], _ => rfl
  have b_Ldraw := FunD.bindsN (ps := ["_law_state", "_law_size"]) F_Ldraw fun _ _ _ _ _ _ us hl => match us, hl with | [_, _], _ => rfl
  have b_Lstock := FunD.bindsN (ps := []) F_Lstock fun _ _ _ _ _ _ us hl => match us, hl with | [], _ => rfl
  have b_Ldrawn := FunD.bindsN (ps := ["_law_state", "_law_most", "_law_bound"]) F_Ldrawn fun _ _ _ _ _ _ us hl => match us, hl with | [_, _, _], _ => rfl
  have b_Lcells := FunD.bindsN (ps := ["_law_rows"]) F_Lcells fun _ _ _ _ _ _ us hl => match us, hl with | [_], _ => rfl
  have b_Lstack := FunD.bindsN (ps := ["_law_some"]) F_Lstack fun _ _ _ _ _ _ us hl => match us, hl with | [_], _ => rfl
  have b_Lbase := FunD.bindsN (ps := ["_law_label"]) F_Lbase fun _ _ _ _ _ _ us hl => match us, hl with | [_], _ => rfl
  have b_Lis_plain := FunD.bindsN (ps := ["_law_place"]) F_Lis_plain fun _ _ _ _ _ _ us hl => match us, hl with | [_], _ => rfl
  have b_Lmember := FunD.bindsN (ps := ["_law_rows", "_law_label"]) F_Lmember fun _ _ _ _ _ _ us hl => match us, hl with | [_, _], _ => rfl
  have b_Lhas := FunD.bindsN (ps := ["_law_rows", "_law_place"]) F_Lhas fun _ _ _ _ _ _ us hl => match us, hl with | [_, _], _ => rfl
  have b_Lserving := FunD.bindsN (ps := ["_law_step", "_law_parts", "_law_rest"]) F_Lserving fun _ _ _ _ _ _ us hl => match us, hl with | [_, _, _], _ => rfl
  have b_Lplain := FunD.bindsN (ps := ["_law_place"]) F_Lplain fun _ _ _ _ _ _ us hl => match us, hl with | [_], _ => rfl
  have b_Lcomposed := FunD.bindsN (ps := ["_law_rows", "_law_place"]) F_Lcomposed fun _ _ _ _ _ _ us hl => match us, hl with | [_, _], _ => rfl
  have b_Lnumber_right := FunD.bindsN (ps := ["_law_line", "_law_rows", "_law_place"]) F_Lnumber_right fun _ _ _ _ _ _ us hl => match us, hl with | [_, _, _], _ => rfl
  have b_Cinit := FunD.bindsN (ps := ["self", "modulus", "members"]) F_Cinit fun _ _ _ _ _ _ us hl => match us, hl with | [_, _, _], _ => rfl
  have b_Cmodulus := FunD.bindsN (ps := ["self"]) F_Cmodulus fun _ _ _ _ _ _ us hl => match us, hl with | [_], _ => rfl
  have b_Cmembers := FunD.bindsN (ps := ["self"]) F_Cmembers fun _ _ _ _ _ _ us hl => match us, hl with | [_], _ => rfl
  have b_Csize := FunD.bindsN (ps := ["self"]) F_Csize fun _ _ _ _ _ _ us hl => match us, hl with | [_], _ => rfl
  have b_Cgreatest := FunD.bindsN (ps := ["self"]) F_Cgreatest fun _ _ _ _ _ _ us hl => match us, hl with | [_], _ => rfl
  have b_Ccheck_remainder := FunD.bindsN (ps := ["self", "remainder"]) F_Ccheck_remainder fun _ _ _ _ _ _ us hl => match us, hl with | [_, _], _ => rfl
  have b_Chas := FunD.bindsN (ps := ["self", "remainder"]) F_Chas fun _ _ _ _ _ _ us hl => match us, hl with | [_, _], _ => rfl
  have b_Cserving_pair := FunD.bindsN (ps := ["self", "remainder"]) F_Cserving_pair fun _ _ _ _ _ _ us hl => match us, hl with | [_, _], _ => rfl
  have b_Ccarry := FunD.bindsN (ps := ["self", "remainder"]) F_Ccarry fun _ _ _ _ _ _ us hl => match us, hl with | [_, _], _ => rfl
  have b_Smodulus := FunD.bindsN (ps := ["self"]) F_Smodulus fun _ _ _ _ _ _ us hl => match us, hl with | [_], _ => rfl
  have b_Sgreatest := FunD.bindsN (ps := ["self"]) F_Sgreatest fun _ _ _ _ _ _ us hl => match us, hl with | [_], _ => rfl
  have b_Sremainders := FunD.bindsN (ps := ["self", "x"]) F_Sremainders fun _ _ _ _ _ _ us hl => match us, hl with | [_, _], _ => rfl
  have b_Sfrom_remainders := FunD.bindsN (ps := ["self", "remainders", "rest"]) F_Sfrom_remainders fun _ _ _ _ _ _ us hl => match us, hl with | [_, _, _], _ => rfl
  have b_Srank := FunD.bindsN (ps := ["self", "x"]) F_Srank fun _ _ _ _ _ _ us hl => match us, hl with | [_, _], _ => rfl
  have b_Scomposed_pair := FunD.bindsN (ps := ["self", "x"]) F_Scomposed_pair fun _ _ _ _ _ _ us hl => match us, hl with | [_, _], _ => rfl
  have B : Bt mg := ⟨He.free_ok X G (x := "len") (c.fact 34 (f := fa (.free "len")) (by rfl)), He.free_ok X G (x := "isinstance") (c.fact 35 (f := fa (.free "isinstance")) (by rfl)), He.free_ok X G (x := "int") (c.fact 36 (f := fa (.free "int")) (by rfl)), He.free_ok X G (x := "bool") (c.fact 37 (f := fa (.free "bool")) (by rfl)), He.free_ok X G (x := "divmod") (c.fact 38 (f := fa (.free "divmod")) (by rfl)), He.free_ok X G (x := "range") (c.fact 39 (f := fa (.free "range")) (by rfl)), He.free_ok X G (x := "tuple") (c.fact 40 (f := fa (.free "tuple")) (by rfl)), He.free_ok X G (x := "list") (c.fact 41 (f := fa (.free "list")) (by rfl)), He.free_ok X G (x := "enumerate") (c.fact 42 (f := fa (.free "enumerate")) (by rfl)), He.free_ok X G (x := "max") (c.fact 43 (f := fa (.free "max")) (by rfl)), He.free_ok X G (x := "min") (c.fact 44 (f := fa (.free "min")) (by rfl)), He.free_ok X G (x := "zip") (c.fact 45 (f := fa (.free "zip")) (by rfl))⟩
  have U : ClT K mg (He.ga K "Cell") := ⟨He.cls_ok (c.fact 46 (f := fa (.cls "Cell")) (by rfl)), He.glo_ok X G (c.fact 32 (f := fa (.glo "Cell")) (by rfl)), crB_ok (c.fact 49 (f := crB "Cell") (by rfl)), cvB_ok (c.fact 75 (f := cvB "Cell" "MAX_MODULUS" 20000) (by rfl)), cvB_ok (c.fact 76 (f := cvB "Cell" "MAX_MEMBERS" 256) (by rfl)), He.noat_ok (c.fact 54 (f := fa (.noat "Cell" "table")) (by rfl)), He.noat_ok (c.fact 55 (f := fa (.noat "Cell" "own_modulus")) (by rfl)), He.noat_ok (c.fact 56 (f := fa (.noat "Cell" "own_members")) (by rfl)), He.noat_ok (c.fact 57 (f := fa (.noat "Cell" "known")) (by rfl)), isB_ok (c.fact 48 (f := isB "Cell") (by rfl))⟩
  have T : StT K mg (He.ga K "Stack") := ⟨He.cls_ok (c.fact 50 (f := fa (.cls "Stack")) (by rfl)), He.glo_ok X G (c.fact 33 (f := fa (.glo "Stack")) (by rfl)), crB_ok (c.fact 53 (f := crB "Stack") (by rfl)), cvB_ok (c.fact 77 (f := cvB "Stack" "MAX_HEIGHT" 100) (by rfl)), He.noat_ok (c.fact 58 (f := fa (.noat "Stack" "layers")) (by rfl))⟩
  have kb1 : KBn K fd_is_integer ["value", "low", "high"] 1 ["low", "high"] (fun us ws => us ++ ws) (fun vs zs => vs ++ zs) := by
    refine ⟨fun s us ws _ l1 l2 => ?_, fun r1 r2 => r1.append r2⟩
    obtain ⟨oc, od, dV, kV, doc, pm, an, cdv, ct, osl, rfl, lk, hcd, hD, hK⟩ := F_is_integer.ex
    rcases hD with ⟨_, rfl⟩ | ⟨e, _⟩
    · match us, ws, l1, l2 with
      | [_], [_, _], _, _ => exact .of_eq rfl
    · exact absurd rfl e
  have kbx : KBn K fd_Scomposed_pair ["self", "x"] 1 ["x"] (fun us ws => us ++ ws) (fun vs zs => vs ++ zs) := by
    refine ⟨fun s us ws _ l1 l2 => ?_, fun r1 r2 => r1.append r2⟩
    obtain ⟨oc, od, dV, kV, doc, pm, an, cdv, ct, osl, rfl, lk, hcd, hD, hK⟩ := F_Scomposed_pair.ex
    rcases hD with ⟨_, rfl⟩ | ⟨e, _⟩
    · match us, ws, l1, l2 with
      | [_], [_], _, _ => exact .of_eq rfl
    · exact absurd rfl e
  obtain ⟨dsn, vn, bn⟩ := FunD.binds1 (ps := ["value", "low", "high"]) F_check_number 1 0 (by intro z; cases z) rfl fun T kV doc pm an cdv ct us its l1 l2 => by
    match us, its, l1, l2 with
    | [_], [_, _], _, _ => exact ⟨_, rfl, rfl⟩
  have e := hfa.symm.trans g_law
  cases e
  have bl := FunD.bindsA (ps := ["_law_script"]) F_law fun _ _ _ _ _ _ us hl => match us, hl with | [_], _ => rfl
  refine ⟨fd_law, fun s v => bl s [v] rfl, fun base _ _ => ?_⟩
  have n_ : NOk P w K mg base := ⟨_, _, dsn, ok_check_number F_check_number (ok_is_integer B F_is_integer) g_is_integer F_is_integer.kp kb1, g_check_number, F_check_number.kp, vn, bn⟩
  have d_digits_in : DOk P w K mg base 1 "digits_in" ["number", "radix"] spDig := ⟨_, _, ok_digits_in B F_digits_in, g_digits_in, F_digits_in.kp, b_digits_in⟩
  have d_number_of : DOk P w K mg base 1 "number_of" ["digits", "radix"] (spNof K) := ⟨_, _, ok_number_of F_number_of, g_number_of, F_number_of.kp, b_number_of⟩
  have d_are_plain : DOk P w K mg base 1 "are_plain" ["digits"] (spPlain K) := ⟨_, _, ok_are_plain F_are_plain, g_are_plain, F_are_plain.kp, b_are_plain⟩
  have d_rank_of : DOk P w K mg base 2 "rank_of" ["x"] spRkOf := ⟨_, _, ok_rank_of F_rank_of d_digits_in d_are_plain d_number_of, g_rank_of, F_rank_of.kp, b_rank_of⟩
  have d_in_base : DOk P w K mg base 3 "in_base" ["x"] spInBase := ⟨_, _, ok_in_base F_in_base n_ d_digits_in d_are_plain, g_in_base, F_in_base.kp, b_in_base⟩
  have d_base_rank : DOk P w K mg base 3 "base_rank" ["x"] spRkOf := ⟨_, _, ok_base_rank F_base_rank n_ d_rank_of, g_base_rank, F_base_rank.kp, b_base_rank⟩
  have d_plain_pair : DOk P w K mg base 3 "plain_pair" ["m"] spPair := ⟨_, _, ok_plain_pair B F_plain_pair n_ d_digits_in d_number_of, g_plain_pair, F_plain_pair.kp, b_plain_pair⟩
  have d_is_between : DOk P w K mg base 1 "is_between" ["value", "low", "high"] spBetween := ⟨_, _, ok_is_between B F_is_between, g_is_between, F_is_between.kp, b_is_between⟩
  have d_check_shape : DOk P w K mg base 2 "check_shape" ["modulus", "members"] spRow := ⟨_, _, ok_check_shape B U F_check_shape d_is_between, g_check_shape, F_check_shape.kp, b_check_shape⟩
  have d_spoiling_triple : DOk P w K mg base 1 "spoiling_triple" ["modulus", "members"] spRow := ⟨_, _, ok_spoiling B F_spoiling_triple, g_spoiling_triple, F_spoiling_triple.kp, b_spoiling_triple⟩
  have d_serving_table : DOk P w K mg base 1 "serving_table" ["modulus", "members"] spTab := ⟨_, _, ok_serving_table B F_serving_table, g_serving_table, F_serving_table.kp, b_serving_table⟩
  have d_unserved_remainder : DOk P w K mg base 1 "unserved_remainder" ["modulus", "members", "table"] spUns := ⟨_, _, ok_unserved B F_unserved_remainder, g_unserved_remainder, F_unserved_remainder.kp, b_unserved_remainder⟩
  have d_check_cells : DOk P w K mg base 1 "check_cells" ["values"] (spCells (He.ga K "Cell")) := ⟨_, _, ok_check_cells B U F_check_cells, g_check_cells, F_check_cells.kp, b_check_cells⟩
  have d_is_count : DOk P w K mg base 1 "is_count" ["value"] spIsCount := ⟨_, _, ok_is_count B F_is_count, g_is_count, F_is_count.kp, b_is_count⟩
  have d_check_count : DOk P w K mg base 2 "check_count" ["value"] spCount := ⟨_, _, ok_check_count F_check_count d_is_count, g_check_count, F_check_count.kp, b_check_count⟩
  have mkC : CMk P w K mg base (He.ga K "Cell") := ⟨_, _, ok_Cinit B U F_Cinit d_check_shape d_spoiling_triple d_serving_table d_unserved_remainder, He.mkr_ok (c.fact 47 (f := fa (.mkr "Cell")) (by rfl)), b_Cinit⟩
  have p_Cmodulus : POk P w K mg base 1 (He.ga K "Cell") "modulus" (spGet (He.ga K "Cell") fun row => row.1) := ⟨_, _, _, ok_Cmodulus U F_Cmodulus, prB_ok (c.fact 69 (f := prB "Cell" "modulus") (by rfl)), b_Cmodulus⟩
  have p_Cmembers : POk P w K mg base 1 (He.ga K "Cell") "members" (spMembers (He.ga K "Cell")) := ⟨_, _, _, ok_Cmembers U F_Cmembers, prB_ok (c.fact 70 (f := prB "Cell" "members") (by rfl)), b_Cmembers⟩
  have p_Csize : POk P w K mg base 1 (He.ga K "Cell") "size" (spGet (He.ga K "Cell") fun row => row.2.length) := ⟨_, _, _, ok_Csize B U F_Csize, prB_ok (c.fact 71 (f := prB "Cell" "size") (by rfl)), b_Csize⟩
  have p_Cgreatest : POk P w K mg base 1 (He.ga K "Cell") "greatest" (spGet (He.ga K "Cell") fun row => mx row.2) := ⟨_, _, _, ok_Cgreatest U F_Cgreatest, prB_ok (c.fact 72 (f := prB "Cell" "greatest") (by rfl)), b_Cgreatest⟩
  have m_Ccheck_remainder : MOk P w K mg base 2 (He.ga K "Cell") "check_remainder" ["self", "remainder"] (spChk (He.ga K "Cell")) := ⟨_, _, ok_Cchk U F_Ccheck_remainder d_is_between, He.meth_ok (c.fact 59 (f := fa (.meth "Cell" "check_remainder")) (by rfl)), b_Ccheck_remainder⟩
  have m_Chas : MOk P w K mg base 3 (He.ga K "Cell") "has" ["self", "remainder"] (spHas (He.ga K "Cell")) := ⟨_, _, ok_Chas U F_Chas m_Ccheck_remainder, He.meth_ok (c.fact 60 (f := fa (.meth "Cell" "has")) (by rfl)), b_Chas⟩
  have m_Cserving_pair : MOk P w K mg base 4 (He.ga K "Cell") "serving_pair" ["self", "remainder"] (spSrv (He.ga K "Cell")) := ⟨_, _, ok_Csrv U F_Cserving_pair m_Chas, He.meth_ok (c.fact 61 (f := fa (.meth "Cell" "serving_pair")) (by rfl)), b_Cserving_pair⟩
  have m_Ccarry : MOk P w K mg base 4 (He.ga K "Cell") "carry" ["self", "remainder"] (spCarry (He.ga K "Cell")) := ⟨_, _, ok_Ccarry U F_Ccarry m_Chas, He.meth_ok (c.fact 62 (f := fa (.meth "Cell" "carry")) (by rfl)), b_Ccarry⟩
  have mPush := He.meth_ok (c.fact 63 (f := fa (.meth "Stack" "push")) (by rfl))
  have rPush := ok_Spush (P := P) (w := w) (base := base) B T U F_Spush d_check_cells
  have mkS : SMk P w K mg base (He.ga K "Cell") (He.ga K "Stack") := ⟨_, ok_Sinit T U F_Sinit rPush (bmB_ok (c.fact 68 (f := bmB "Stack" "push") (by rfl)) (c.fact 63 (f := fa (.meth "Stack" "push")) (by rfl))), He.mkr_ok (c.fact 51 (f := fa (.mkr "Stack")) (by rfl))⟩
  have p_Smodulus : POk P w K mg base 3 (He.ga K "Stack") "modulus" (spGetS (He.ga K "Cell") (He.ga K "Stack") prodN) := ⟨_, _, _, ok_Smodulus T U F_Smodulus p_Cmodulus, prB_ok (c.fact 73 (f := prB "Stack" "modulus") (by rfl)), b_Smodulus⟩
  have p_Sgreatest : POk P w K mg base 3 (He.ga K "Stack") "greatest" (spGetS (He.ga K "Cell") (He.ga K "Stack") great) := ⟨_, _, _, ok_Sgreatest T U F_Sgreatest p_Cmodulus p_Cgreatest, prB_ok (c.fact 74 (f := prB "Stack" "greatest") (by rfl)), b_Sgreatest⟩
  have m_Sremainders : MOk P w K mg base 3 (He.ga K "Stack") "remainders" ["self", "x"] (spRems (He.ga K "Cell") (He.ga K "Stack")) := ⟨_, _, ok_Srems T U F_Sremainders p_Cmodulus, He.meth_ok (c.fact 64 (f := fa (.meth "Stack" "remainders")) (by rfl)), b_Sremainders⟩
  have m_Sfrom_remainders : MOk P w K mg base 3 (He.ga K "Stack") "from_remainders" ["self", "remainders", "rest"] (spFrom (He.ga K "Cell") (He.ga K "Stack")) := ⟨_, _, ok_Sfrom B T U F_Sfrom_remainders p_Cmodulus, He.meth_ok (c.fact 65 (f := fa (.meth "Stack" "from_remainders")) (by rfl)), b_Sfrom_remainders⟩
  have m_Srank : MOk P w K mg base 4 (He.ga K "Stack") "rank" ["self", "x"] (spRank (He.ga K "Cell") (He.ga K "Stack")) := ⟨_, _, ok_Srank B T U F_Srank d_check_count m_Sremainders d_base_rank d_in_base p_Csize p_Cmembers m_Chas, He.meth_ok (c.fact 66 (f := fa (.meth "Stack" "rank")) (by rfl)), b_Srank⟩
  have cp : CpOk P w K mg base (He.ga K "Cell") (He.ga K "Stack") := ⟨_, _, ok_Scomp T U F_Scomposed_pair d_check_count p_Cmodulus m_Chas m_Cserving_pair m_Ccarry d_plain_pair m_Sfrom_remainders, He.meth_ok (c.fact 67 (f := fa (.meth "Stack" "composed_pair")) (by rfl)), b_Scomposed_pair, kbx⟩
  have d_Lbegin : DOk P w K mg base 1 "_law_begin" ["_law_script", "_law_spot"] (spLbegin K) := ⟨_, _, ok_Lbegin B F_Lbegin, g_Lbegin, F_Lbegin.kp, b_Lbegin⟩
  have d_Ldraw : DOk P w K mg base 1 "_law_draw" ["_law_state", "_law_size"] spLdraw := ⟨_, _, ok_Ldraw F_Ldraw, g_Ldraw, F_Ldraw.kp, b_Ldraw⟩
  have d_Lstock : DOk P w K mg base 1 "_law_stock" [] spLstock := ⟨_, _, ok_Lstock F_Lstock, g_Lstock, F_Lstock.kp, b_Lstock⟩
  have d_Ldrawn : DOk P w K mg base 2 "_law_drawn" ["_law_state", "_law_most", "_law_bound"] spLdrawn := ⟨_, _, ok_Ldrawn B F_Ldrawn d_Ldraw d_Lstock, g_Ldrawn, F_Ldrawn.kp, b_Ldrawn⟩
  have d_Lcells : DOk P w K mg base 5 "_law_cells" ["_law_rows"] (spLcells (He.ga K "Cell")) := ⟨_, _, ok_Lcells U mkC F_Lcells, g_Lcells, F_Lcells.kp, b_Lcells⟩
  have d_Lstack : DOk P w K mg base 5 "_law_stack" ["_law_some"] (spLstack (He.ga K "Cell") (He.ga K "Stack")) := ⟨_, _, ok_Lstack B T mkS F_Lstack, g_Lstack, F_Lstack.kp, b_Lstack⟩
  have d_Lbase : DOk P w K mg base 1 "_law_base" ["_law_label"] spLbase := ⟨_, _, ok_Lbase F_Lbase, g_Lbase, F_Lbase.kp, b_Lbase⟩
  have d_Lis_plain : DOk P w K mg base 1 "_law_is_plain" ["_law_place"] spLisp := ⟨_, _, ok_Lisp F_Lis_plain, g_Lis_plain, F_Lis_plain.kp, b_Lis_plain⟩
  have d_Lmember : DOk P w K mg base 2 "_law_member" ["_law_rows", "_law_label"] spLmember := ⟨_, _, ok_Lmember B F_Lmember d_Lbase, g_Lmember, F_Lmember.kp, b_Lmember⟩
  have d_Lhas : DOk P w K mg base 2 "_law_has" ["_law_rows", "_law_place"] spLhas := ⟨_, _, ok_Lhas F_Lhas d_Lis_plain, g_Lhas, F_Lhas.kp, b_Lhas⟩
  have d_Lserving : DOk P w K mg base 1 "_law_serving" ["_law_step", "_law_parts", "_law_rest"] spLserving := ⟨_, _, ok_Lserving B F_Lserving, g_Lserving, F_Lserving.kp, b_Lserving⟩
  have d_Lplain : DOk P w K mg base 1 "_law_plain" ["_law_place"] spLplain := ⟨_, _, ok_Lplain F_Lplain, g_Lplain, F_Lplain.kp, b_Lplain⟩
  have d_Lcomposed := ok_Lcomp (P := P) (w := w) (base := base) F_Lcomposed g_Lcomposed b_Lcomposed d_Lplain d_Lserving 9
  have d_Lnumber_right : DOk P w K mg base 12 "_law_number_right" ["_law_line", "_law_rows", "_law_place"] (spNR (He.ga K "Cell") (He.ga K "Stack")) := ⟨_, _, ok_LNR T F_Lnumber_right d_Lcomposed cp d_Lhas p_Sgreatest, g_Lnumber_right, F_Lnumber_right.kp, b_Lnumber_right⟩
  exact ok_law ⟨B, U, T, d_Lbegin, d_Ldraw, d_Lstock, d_Ldrawn, d_Lcells, d_Lstack, d_Lmember, d_Lnumber_right, p_Sgreatest, p_Smodulus, ⟨_, rPush, mPush⟩, m_Srank, cp, mkC, mkS⟩ F_law
end Tf
/-! ### the end -/
open PySem PySem.W PySem.Calls PyProof.Rows
theorem PySem.Challenge.cw_triplefree_k37_whole_composed_pairs_holds : PySem.Challenge.rw_triplefree_k37_whole_composed_pairs.Holds := by
  w_on; o_law
  refine HandSHeadRun.head_any (r := Tf.RR) (q := Tf.qv) (H := Tf.hk) (ob := Tf.obT) (M := 20000) (loose := Tf.nms) (d := HandSHeadRun.topDef Tf.RR.prog 53) (kwd := []) Tf.obT_eq
    (by kernel_rfl) (fun s => by kernel_rfl) Tf.topRan (by kernel_rfl) (by kernel_rfl) (by kernel_rfl) (by rfl) (by first | assumption | decide +kernel) (by decide +kernel) ⟨rfl, rfl, rfl, rfl, rfl, by decide +kernel⟩ ?hw ?hc
  case hw => w_witness2
  case hc =>
    refine L2.walk_ofE (l := PySem.Challenge.rw_triplefree_k37_whole_composed_pairs) (n := 63) (k := 13) (x := "_law_script") (CX := L2.CX0) rfl (by decide) (by kernel_rfl) ⟨rfl, by decide, by decide⟩ ?F (fun _ _ _ _ z => z)
    intro w mg fa h Y G hmg0
    obtain ⟨K, KX, c⟩ := Y
    have hmg : mg ("law" : PySem.Str) = some (.ref fa) := by
      have e : (HandSHeadRun.topDef Tf.RR.prog 53).name = ("law" : PySem.Str) := by kernel_rfl
      rw [← e]
      exact hmg0
    obtain ⟨fd, hb, hF⟩ := Tf.facts (P := (PySem.Challenge.rw_triplefree_k37_whole_composed_pairs).prog) (w := w) KX G hmg c
    exact ⟨K, fd, Tf.spLaw K, KX, hb, fun H a ns hl _ hS => ⟨a, ns, rfl, hS, hl, fun _ => rfl⟩, hF⟩
