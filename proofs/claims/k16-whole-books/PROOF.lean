import PyProof.Rows.All
import Wide.All
import OpenK.AllK
import Wide.FinOn
import KE.KExcSuper
import KE.KSuper
import HandS.Words
import HandS.ExcInit
import HandS.ExcSuper
import PySem.Challenge.RW_houseslessties_k16_whole_books_at_every
import KE.KStateDown
import HandS.EndTab
import HandS.Head0
import HandS.Head1
import HandS.Head2
import HandS.HeadHook1
import HandS.HeadHook2
import HandS.HeadHook3
import HandS.HeadHook4
import HandS.HeadWalk
import HandS.ForMost
import HandS.Walk
import HandS.Zip
import KE.GoesEnum
import HandS.TupMul
import HandS.TupAny
import HandS.Sort
import HandS.DictTup
import KE.KDictZip
import PyProof.ListNew
import HandS.ListItems
import HandS.NoneIn
import HandS.Style
import HandS.IsInst
import HandS.ForExc
import HandS.Conv
import PyProof.Rows.FactsExc_KeyError
import KE.KEqSeq
import HandS.Lambda
import HandS.RaiseMore
import PyProof.ReprRoads
import HandS.TryMany
import HandS.CallLocal
import HandS.MakeKwOnly
set_option Elab.async false
set_option linter.all false
set_option maxRecDepth 100000
set_option maxHeartbeats 0
/-! T0: the text's statements; words told of own exceptions. -/
namespace Hb
open PySem
def top (i : Nat) : Stmt := PySem.Challenge.pw_houseslessties_k16_whole_books_at_every.main.body.getD i (.Pass ⟨0, 0, 0, 0⟩)
end Hb
namespace Exm
open PySem PySem.HandSPX
abbrev keTail : List Value := [.type "KeyError", .type "LookupError", .type "Exception", .type "BaseException", .type "object"]
def refsX (tail : List Value) : List Value → Bool
  | .ref _ :: r => refsX tail r
  | l => l == tail
inductive Fl where
  | at_
  | state
  | house
def Fl.s : Fl → Str
  | .at_ => "at"
  | .state => "state"
  | .house => "house"
end Exm
/-! HdA: what the head is asked. -/
namespace Hq
open PySem PySem.Spec PyProof.Rows L2 Hb
def dT (x : Str) (st : Stmt) : He.DefD := ⟨(x, none), x, x, defArgs st, defBody st, defScope st, [], []⟩
def dM (c x q : Str) (st : Stmt) : He.DefD := ⟨(c, some x), x, q, defArgs st, defBody st, defScope st, [], []⟩
def fnL : List He.DefD := [dT "is_integer" (top 19), dT "is_number" (top 20), dT "is_below" (top 21), dT "is_within" (top 22), dT "is_sequence" (top 23), dT "is_text" (top 24), dT "is_table" (top 26), dT "check_tables" (top 27), dT "need_state" (top 29), dT "need_deed" (top 30), dT "check_row" (top 31), dT "run_on" (top 32), dT "pair_rows" (top 34), dT "ends_of" (top 35), dT "join" (top 36), dT "is_pair" (top 38), dT "check_ties" (top 39), dT "need_house" (top 41), dT "need_tie" (top 42), dT "is_step" (top 47), dT "looked_steps" (top 48), dT "put_at" (top 49), dT "power_of" (top 52), dT "web_steps" (top 54), dT "act_deeds" (top 55), dT "book_after" (top 57), dT "counts_after" (top 58), dT "counted_acts" (top 59), dT "heard_after" (top 60), dT "led_times" (top 61), dT "led_counts" (top 62), dT "plain_state" (top 63), dT "_law_dealt" (top 65), dT "_law_any" (top 66), dT "_law_of" (top 67), dT "_law_turned" (top 68), dT "_law_machine" (top 69), dT "_law_web" (top 70), dT "_law_steps" (top 71), dT "_law_led" (top 72), dT "_law_joined" (top 73), dT "_law_are_booked" (top 74), dT "_law_are_above" (top 75), dT "_law_follow" (top 76), dT "_law_far_right" (top 77), dT "_law_bad_steps" (top 78), dT "_law_is_heard" (top 79), dT "_law_is_shown" (top 80), dT "law" (top 81), dM "Machine" "__init__" "Machine.__init__" (inClass (top 28) 0), dM "Web" "__init__" "Web.__init__" (inClass (top 40) 0), dM "Net" "__init__" "Net.__init__" (inClass (top 50) 0), dM "Net" "do" "Net.do" (inClass (top 50) 1), dM "Net" "meet" "Net.meet" (inClass (top 50) 2), dM "Book" "__init__" "Book.__init__" (inClass (top 56) 0), dM "Book" "hear" "Book.hear" (inClass (top 56) 2)]
def faL : List He.Fa := [.glo "is_integer", .glo "is_number", .glo "is_below", .glo "is_within", .glo "is_sequence", .glo "is_text", .glo "is_table", .glo "check_tables", .glo "need_state", .glo "need_deed", .glo "check_row", .glo "run_on", .glo "pair_rows", .glo "ends_of", .glo "join", .glo "is_pair", .glo "check_ties", .glo "need_house", .glo "need_tie", .glo "is_step", .glo "looked_steps", .glo "put_at", .glo "power_of", .glo "web_steps", .glo "act_deeds", .glo "book_after", .glo "counts_after", .glo "counted_acts", .glo "heard_after", .glo "led_times", .glo "led_counts", .glo "plain_state", .glo "_law_dealt", .glo "_law_any", .glo "_law_of", .glo "_law_turned", .glo "_law_machine", .glo "_law_web", .glo "_law_steps", .glo "_law_led", .glo "_law_joined", .glo "_law_are_booked", .glo "_law_are_above", .glo "_law_follow", .glo "_law_far_right", .glo "_law_bad_steps", .glo "_law_is_heard", .glo "_law_is_shown", .glo "law", .glo "Machine", .glo "Web", .glo "Net", .glo "Book", .glo "BadSteps", .glo "NoHouse", .glo "NoState", .free "len", .free "isinstance", .free "all", .free "tuple", .free "list", .free "range", .free "enumerate", .free "zip", .free "sum", .free "max", .free "min", .free "abs", .free "int", .free "bool", .free "str", .free "repr", .free "sorted", .free "super", .int "MOST_DEEDS" 8, .int "MOST_STATES" 12, .int "MOST_HOUSES" 12, .int "MOST_TIES" 20, .int "MOST_ROW" 10000, .int "MOST_STEPS" 400, .str "DO" "do", .str "MEET" "meet", .cls "Machine", .mkr "Machine", .noat "Machine" "tables", .noat "Machine" "deeds", .noat "Machine" "states", .cls "Web", .mkr "Web", .noat "Web" "ties", .noat "Web" "houses", .cls "Net", .mkr "Net", .noat "Net" "machine", .noat "Net" "web", .noat "Net" "first", .noat "Net" "states", .noat "Net" "archives", .noat "Net" "steps", .cls "Book", .mkr "Book", .noat "Book" "web", .noat "Book" "acted", .noat "Book" "houses", .noat "Book" "ties", .meth "Net" "do", .meth "Net" "meet", .meth "Book" "hear", .exm "BadSteps" "BadSteps" true, .exm "NoHouse" "BadSteps" false, .exm "NoState" "BadSteps" false, .exm "NoHouse" "NoHouse" true, .exm "NoState" "NoHouse" false, .exm "NoState" "NoState" true, .keep "BadSteps", .keep "NoHouse", .keep "NoState"]
def nms0 : List PySem.Str := ["_wall", "NetError", "BadMachine", "BadWeb", "BadRow", "BadSteps", "Refused", "Untold", "NoState", "NoDeed", "NoHouse", "NoTie", "MOST_DEEDS", "MOST_STATES", "MOST_HOUSES", "MOST_TIES", "MOST_ROW", "is_integer", "is_number", "is_below", "is_within", "is_sequence", "is_text", "is_table", "check_tables", "Machine", "need_state", "need_deed", "check_row", "run_on"]
def nms1 : List PySem.Str := ["pair_rows", "ends_of", "join", "is_pair", "check_ties", "Web", "need_house", "need_tie", "MOST_STEPS", "DO", "MEET", "is_step", "looked_steps", "put_at", "Net", "power_of", "web_steps", "act_deeds", "Book", "book_after", "counts_after", "counted_acts", "heard_after", "led_times", "led_counts", "plain_state", "_law_dealt", "_law_any", "_law_of", "_law_turned"]
def nms2 : List PySem.Str := ["_law_machine", "_law_web", "_law_steps", "_law_led", "_law_joined", "_law_are_booked", "_law_are_above", "_law_follow", "_law_far_right", "_law_bad_steps", "_law_is_heard", "_law_is_shown"]
def nms : List PySem.Str := nms0 ++ nms1 ++ nms2
/-! ### own exceptions -/
/-- a class of exceptions, its field, what its built-in bases are -/
structure ExD where
  nm : Str
  f : Exm.Fl
  B : String
  newId : String
  initId : String
  tail : List Value
  st : Stmt
  qual : Str
def xB : ExD := ⟨"BadSteps", .at_, "ValueError", "ValueError.__new__", "ValueError.__init__", PySem.HandSPX.veTail, inClass (top 6) 0, "BadSteps.__init__"⟩
def xH : ExD := ⟨"NoHouse", .house, "KeyError", "LookupError.__new__", "KeyError.__init__", Exm.keTail, inClass (top 11) 0, "NoHouse.__init__"⟩
def xS : ExD := ⟨"NoState", .state, "KeyError", "LookupError.__new__", "KeyError.__init__", Exm.keTail, inClass (top 9) 0, "NoState.__init__"⟩
def sameO (a b : Option (Option Value)) : Bool := decide (a = b)
def sameB (a b : Option Bool) : Bool := decide (a = b)
/-- the class itself -/
def clsB (K : PySem.W.Frag) (C : Addr) (tail : List Value) (newId : String) : Bool := match K.lookup C with
  | some ⟨.type m, _, .cls ⟨_, _, .ref C' :: bm, _, _, true, _, _, _, _, false⟩, ⟨[_, _, _, _, some (.builtin b), _]⟩⟩ => decide (m = "type") && (decide (C' = C) && (decide (b = newId) && Exm.refsX tail bm))
  | _ => false
/-- its __init__ -/
def iniB (K : PySem.W.Frag) (C fI : Addr) (file qual : Str) : Bool := match K.lookup fI with
  | some ⟨_, _, .func ⟨_, _, _, _, _, _, [(_, cc)], .none, .none, _, _, _, .ref cda, _, _⟩, _⟩ => PySem.W.codeIn K (.ref cda) qual && ((match K.lookup cda with
    | some ⟨_, _, .fields vs, _⟩ => (match (vs[2]? : Option Value) with
      | some (.str x _) => decide (file = x)
      | _ => false)
    | _ => false) && (match K.lookup cc with
      | some ⟨_, _, .cell (some (.ref D)), _⟩ => decide (D = C)
      | _ => false))
  | _ => false
def statB (K : PySem.W.Frag) : Bool := sameO (PySem.W.nsIn K cStatics "thirdparty.any") (some none)
def parts (K : PySem.W.Frag) (e : ExD) : List Bool :=
  [clsB K (He.ga K e.nm) e.tail e.newId,
   sameO (PySem.W.findIn K (.ref (He.ga K e.nm)) "__setattr__") (some (some (.builtin "object.__setattr__"))),
   sameO (PySem.W.findIn K (.ref (He.ga K e.nm)) "__getattribute__") (some (some (.builtin "BaseException.__getattribute__"))),
   sameO (PySem.W.findIn K (.ref (He.ga K e.nm)) "__getattr__") (some none),
   sameO (PySem.W.findIn K (.ref (He.ga K e.nm)) e.f.s) (some none),
   sameO (PySem.W.findIn K (.ref (He.ga K e.nm)) "__init__") (some (some (.ref (He.ma K (He.ga K e.nm) "__init__")))),
   decide (PySem.W.typeIn K (.ref (He.ma K (He.ga K e.nm) "__init__")) = some (.type "function")),
   sameB (PySem.W.subIn K (.ref (He.ga K e.nm)) (.type "BaseException")) (some true),
   decide (PySem.W.typeIn K (.ref (He.ga K e.nm)) = some (.type "type")),
   PySem.W.hasDictIn K (He.ga K e.nm),
   sameO (PySem.W.ks_superIn K (He.ga K e.nm) (He.ga K e.nm) "__init__") (some (some (.builtin e.initId))),
   sameB (PySem.W.subIn K (.ref (He.ga K e.nm)) (.type e.B)) (some true),
   sameB (PySem.W.mroIn K (He.ga K e.nm) (.ref (He.ga K e.nm))) (some true),
   iniB K (He.ga K e.nm) (He.ma K (He.ga K e.nm) "__init__") PySem.Challenge.pw_houseslessties_k16_whole_books_at_every.main.file e.qual]
def exL : List ExD := [xB, xH, xS]
def exK (K : PySem.W.Frag) : Bool := statB K && exL.all fun e => (parts K e).all id
abbrev FnC : Type := Option (Str × Str × Arguments × FuncBody × Scope × Addr × List Str × Addr)
def fnC (K : PySem.W.Frag) (e : ExD) : FnC := match K.lookup (He.ma K (He.ga K e.nm) "__init__") with
  | some ⟨_, _, .func fd, _⟩ => some (fd.name, fd.qualname, fd.params, fd.body, fd.scope, fd.globals, fd.closure.map (·.1), fd.builtins)
  | _ => none
def ExD.val (e : ExD) : FnC := some ("__init__", e.qual, defArgs e.st, .stmts (defBody e.st), defScope e.st, mainGlobals, ["__class__"], builtinsNs)
abbrev R : PySem.W.OpenRow := PySem.W.OpenLaw.row PySem.Challenge.rw_houseslessties_k16_whole_books_at_every
def tfL : List He.Defn := [("law", none)]
end Hq
/-! HdB: the head: the top run in the kernel, what it leaves looked at. -/
namespace Hq
open PySem PySem.Spec PyProof.Rows L2 Hb
abbrev AlY : Type := (He.AlD × Bool) × List FnC
/-- the part of a heap that is looked at: what the module's names reach, and the statics -/
def fragY (g : Addr → Option Obj) : PySem.W.Frag := He.frT g (cStatics :: He.asD g 5)
def seeY (g : Addr → Option Obj) (K : PySem.W.Frag) : AlY := ((He.obsD faL fnL K, exK K && He.tabsB g tfL K), exL.map (fnC K))
def obsY (g : Addr → Option Obj) : AlY := seeY g (fragY g)
def valY : AlY := ((He.valD fnL, true), exL.map ExD.val)
/-- the law's code object, its table -/
def cLaw (K : PySem.W.Frag) : Addr := (He.cT K ("law", none)).1
def tLaw (K : PySem.W.Frag) : Addr := (He.cT K ("law", none)).2
structure SaysY (h : Heap) (K : PySem.W.Frag) : Prop where
  d : He.SaysD faL fnL K
  ex : exK K = true
  ini : exL.map (fnC K) = exL.map ExD.val
  head : PySem.W.codeHdIn K (cLaw K) (tLaw K) = true
  out : K.lookup (tLaw K) = none
  empty : h.get? (tLaw K) = some { cls := .none, data := .fields #[] }
theorem and_both {x y : Bool} (h : (x && y) = true) : x = true ∧ y = true := Bool.and_eq_true_iff.mp h
theorem saysY_of {h : Heap} (e : obsY h.get? = valY) : SaysY h (fragY h.get?) := by
  have e1 : He.obsD faL fnL (fragY h.get?) = He.valD fnL := congrArg (fun z : AlY => z.1.1) e
  have e2 : (exK (fragY h.get?) && He.tabsB h.get? tfL (fragY h.get?)) = true := congrArg (fun z : AlY => z.1.2) e
  have e3 : exL.map (fnC (fragY h.get?)) = exL.map ExD.val := congrArg (fun z : AlY => z.2) e
  obtain ⟨x1, x2⟩ := and_both e2
  obtain ⟨y1, y2⟩ := and_both (List.all_eq_true.mp x2 ("law", none) List.mem_cons_self)
  cases q : h.get? (tLaw (fragY h.get?)) with
  | none =>
    have y3 : (match h.get? (tLaw (fragY h.get?)) with
      | some o => He.emptyTab o
      | none => false) = true := y2
    rw [q] at y3
    cases y3
  | some o =>
    have y3 : (match h.get? (tLaw (fragY h.get?)) with
      | some o => He.emptyTab o
      | none => false) = true := y2
    rw [q] at y3
    exact ⟨e1, x1, e3, y1, He.frT_none q y3, by rw [q, He.emptyTab_eq y3]⟩
def hookY : PySem.W.Hook where
  α := AlY
  obs s := obsY s.heap.get?
  val _ := valY
  says _ h := ∃ K : PySem.W.Frag, K.In h ∧ SaysY h K
  of _ _ e := ⟨_, He.frT_in, saysY_of e⟩
  keeps _ _ _ z k := by
    obtain ⟨K, i, c⟩ := z
    exact ⟨K, PySem.W.Frag.In.keeps i k, ⟨c.d, c.ex, c.ini, c.head, c.out, k _ _ c.empty⟩⟩
def obY (s : PySem.W.SharedT) : AlY := obsY (HandSHeadRun.getT s)
theorem obY_eq (s : PySem.W.SharedT) : obY s = hookY.obs s.abs := congrArg obsY (funext (HandSHeadRun.getT_eq s))
theorem run (w : World) : HandSHeadRun.RunEq R (PySem.W.view R.prog [81]) hookY obY 20000 nms w := by
  intro os
  kernel_rfl
end Hq
/-! HdG: the head: what of the law is left. -/
namespace Hq
open PySem PySem.W PyProof.Rows PySem.Calls
theorem holds_of (call : WalkO (view R.prog [81]) nms (XL (view R.prog [81]) []) hookY.says R.toRowW (HandSHeadRun.topDef R.prog 81) [] (fun f vs => PySem.call f vs)) : PySem.Challenge.rw_houseslessties_k16_whole_books_at_every.Holds := by
  w_on; o_law
  refine HandSHeadRun.head_any (r := OpenLaw.row PySem.Challenge.rw_houseslessties_k16_whole_books_at_every) (q := view (OpenLaw.row PySem.Challenge.rw_houseslessties_k16_whole_books_at_every).prog [81]) (H := Hq.hookY) (ob := Hq.obY) (M := 20000) (loose := Hq.nms) (d := HandSHeadRun.topDef (OpenLaw.row PySem.Challenge.rw_houseslessties_k16_whole_books_at_every).prog 81) (kwd := []) Hq.obY_eq (by kernel_rfl) (fun s => by kernel_rfl) Hq.run (by kernel_rfl) (by kernel_rfl) (by kernel_rfl) (by rfl) (by first | assumption | decide +kernel) (by decide +kernel) ⟨rfl, rfl, rfl, rfl, rfl, by decide +kernel⟩ ?hw ?hc
  case hw => w_witness2
  case hc => exact call
end Hq
/-! Mc1: zip of two, of three and enumerate over lists and tuples: one form of walk that hands out new tuples. -/
namespace Mc
open PySem L2 PyProof.Rows

/-- a list (true) or a tuple (false) that is read -/
def SqK (k : Bool) (K : PySem.W.Frag) (H : Hp) (a : Addr) (xs : List V) : Prop := match k with
  | true => SqL K H a xs
  | false => SqT K H a xs
def SIter (k : Bool) (h : Heap) (it a : Addr) (i : Nat) : Prop := match k with
  | true => h.IsListIter it a i
  | false => h.IsTupleIter it a i
theorem SIter.at_ {k : Bool} {h h' : Heap} {it a : Addr} {i : Nat} (x : SIter k h it a i) (kp : ∀ o, h.get? it = some o → h'.get? it = some o) : SIter k h' it a i := by
  cases k with
  | true => exact Heap.IsListIter.at x kp
  | false => exact Heap.IsTupleIter.at x kp
theorem SIter.obj {k : Bool} {h : Heap} {it a : Addr} {i : Nat} (x : SIter k h it a i) : ∃ o, h.get? it = some o ∧ ∀ v, o.data ≠ .cell v := by
  cases k with
  | true => obtain ⟨o, e, _, d⟩ := x; exact ⟨o, e, fun v q => by rw [d] at q; cases q⟩
  | false => obtain ⟨o, e, _, d⟩ := x; exact ⟨o, e, fun v q => by rw [d] at q; cases q⟩
/-- n turns while G stands; turn i hands out a new tuple of ys, Y i ys -/
def Itw (n : Nat) (G : Hp → Prop) (Y : Nat → List V → Prop) : It :=
  ⟨fun i H => i < n ∧ G H, fun i H v H' => ∃ T ys, v = .ref T ∧ H T = none ∧ Y i ys ∧ H' = upd H T (.tup ys), fun i H => i = n ∧ G H⟩
theorem turn_w {P : Program} {w : World} {K : PySem.W.Frag} {elts : List Expr} {kk : Nat} {tpos : Pos} {fp wr : List Addr} {I : Addr} {n : Nat} {G : Hp → Prop} {Y : Nat → List V → Prop} {tn : Nat → Heap → Prop}
    (mem : I ∈ fp) (sub : ∀ b ∈ wr, b ∈ fp) (obj : ∀ i h, tn i h → ∀ b ∈ fp, ∃ o, h.get? b = some o ∧ ∀ v, o.data ≠ .cell v)
    (keep : ∀ i h h', tn i h → (∀ b ∈ fp, ∀ o, h.get? b = some o → h'.get? b = some o) → tn i h')
    (slf : ∀ (A : Around) (i : Nat) (s : Shared) (Q : Value → Shared → Prop) (E : Value → Shared → Prop), tn i s.heap → Q (.ref I) s → wpAny (model P w) A (pyIter (.ref I)) Q E s)
    (wk : ∀ (X : Cx), X.prog = P → X.w = w → X.K = K → X.calm = true → ∀ (i : Nat) (pyins : List (Addr × Obj)) (s : Shared) (σ : L2.St) (H : Hp), Inv X pyins σ H s → tn i s.heap → G H →
      ∃ (fpA : List Addr) (Pt : Nat → Array Value → Prop) (Sn : Nat → Heap → Prop) (Mid : Nat → Addr → Heap → Prop), WalksT P w X.A I fpA wr n Pt Sn Mid ∧ Sn i s.heap ∧ (∀ j h, Sn j h → tn j h) ∧ ∀ j vals, Pt j vals → ∃ ys, Y j ys ∧ Vals ys vals.toList ∧ ys.length ≤ sizeLine) :
    Turn P w K (.Tuple elts kk tpos) (Itw n G Y) fp I tn where
  mem := mem
  obj := obj
  keep := keep
  self := slf
  item := by
    intro X hP hw hK hc i pyins s σ H E I0 hf st hg
    obtain ⟨hi, hG⟩ := hg
    obtain ⟨fpA, Pt, Sn, Mid, W, sn, ht, hy⟩ := wk X hP hw hK hc i pyins s σ H I0 st hG
    subst hP hw hK
    refine W.item i s _ E hi sn fun T vals h' tk hp hT hTup hm hk => ?_
    refine ⟨_, rfl, W.go elts kk tpos i T { s with heap := h', toks := tk } _ E hm fun h2 sn2 hk2 => ?_⟩
    obtain ⟨ys, hY, rv, hl⟩ := hy i vals hp
    have nw : T ∉ wr := W.apart i T h' hm
    obtain ⟨oT, e1, e2, m, e3⟩ := hTup
    have e1' := hk2 T oT nw e1
    have new : ObjOk X.prog X.w (upd H T (.tup ys)) h2 T (.tup ys) := ⟨hl, vals.toList, rv, oT, e1', e2, m, by simpa using e3⟩
    have I1 : Inv X pyins σ (upd H T (.tup ys)) { s with heap := h2, toks := tk } :=
      I0.turnedNew (ch := wr) (fun b o hb q => hk2 b o hb (hk b o hb q)) (fun b hb => hf b (sub b hb)) hT new
    refine ⟨.ref T, _, I1, rfl, ⟨T, ys, rfl, I0.hok.fresh hT, hY, rfl⟩, ht _ _ sn2, fun b hb => ?_⟩
    obtain ⟨o, ho, _⟩ := obj i s.heap st b hb
    rw [upd_ne (Nat.ne_of_lt (Nat.lt_of_lt_of_le (Heap.lt_size ho) hT))]
    exact (hf b hb).1
  done := by
    intro X hP hw hK hc i pyins s σ H E I0 hf st hg
    obtain ⟨hi, hG⟩ := hg
    obtain ⟨fpA, Pt, Sn, Mid, W, sn, ht, hy⟩ := wk X hP hw hK hc i pyins s σ H I0 st hG
    subst hP hw hK hi
    exact W.done s _ E sn fun h' tk hk => ⟨rfl, I0.turnedL (t' := tk) (ch := wr) (fun b o hb q => hk b o hb q) fun b hb => hf b (sub b hb)⟩
/-- what an iterator over a list or a tuple draws -/
theorem sdraws {X : Cx} {pyins : List (Addr × Obj)} {s : Shared} {σ : L2.St} {H : Hp} {k : Bool} {a it : Addr} {xs : List V} (I : Inv X pyins σ H s) (hh : X.A.handled = none) (q : SqK k X.K H a xs) (hne : a ≠ it) {i : Nat} (st : SIter k s.heap it a i) :
    ∃ (its : List Value) (Sn : Nat → Heap → Prop), Vals xs its ∧ Draws X.prog X.w X.A.in1 it [it, a] xs.length (fun j v => its[j]? = some v) Sn ∧ Sn i s.heap ∧ ∀ j h, Sn j h → SIter k h it a j := by
  cases k with
  | true =>
    obtain ⟨its, rv, p, _⟩ := I.list q
    have d := Draws.list (prog := X.prog) (w := X.w) (A := X.A.in1) hh it a hne its.toArray
    refine ⟨its, (fun j h => h.IsListIter it a j ∧ h.IsList a its.toArray), rv, ?_, ⟨st, p.isList⟩, fun j h z => z.1⟩
    rw [rv.length]
    simpa using d
  | false =>
    obtain ⟨its, rv, p, _⟩ := I.tuple q
    have d := Draws.tuple (prog := X.prog) (w := X.w) (A := X.A.in1) hh it a hne its.toArray
    refine ⟨its, (fun j h => h.IsTupleIter it a j ∧ h.IsTuple a its.toArray), rv, ?_, ⟨st, p⟩, fun j h z => z.1⟩
    rw [rv.length]
    simpa using d
theorem vals_at {xs : List V} {its : List Value} (r : Vals xs its) {j : Nat} {u : Value} (e : its[j]? = some u) : ∃ x, xs[j]? = some x ∧ RelV x u := by
  have hj : j < xs.length := by
    have := (List.getElem?_eq_some_iff.mp e).1
    rw [r.length]; exact this
  have e1 : xs[j]? = some xs[j] := by simp [hj]
  obtain ⟨u', h1, h2⟩ := r.get e1
  rw [e] at h1
  cases h1
  exact ⟨_, e1, h2⟩
/-- what begins -/
theorem sbegins {X : Cx} {pyins : List (Addr × Obj)} {s : Shared} {σ : L2.St} {H : Hp} {k : Bool} {a : Addr} {xs : List V} (I : Inv X pyins σ H s) (q : SqK k X.K H a xs) :
    a < s.heap.objs.size ∧ ∃ (o : Obj) (P : Heap → Prop), Begins (.ref a) o P ∧ P s.heap ∧ ∀ (h : Heap) (it : Addr), h.get? it = some o → SIter k h it a 0 := by
  cases k with
  | true =>
    obtain ⟨its, rv, p, _⟩ := I.list q
    exact ⟨p.lt, _, _, begins_list a its.toArray, p.isList, fun h it e => ⟨_, e, rfl, rfl⟩⟩
  | false =>
    obtain ⟨its, rv, p, _⟩ := I.tuple q
    exact ⟨p.lt, _, _, begins_tuple a its.toArray, p, fun h it e => ⟨_, e, rfl, rfl⟩⟩

/-! ### zip of three -/
abbrev zip3G (K : PySem.W.Frag) (k1 k2 k3 : Bool) (a b c : Addr) (xs ys zs : List V) : Hp → Prop := fun H => SqK k1 K H a xs ∧ SqK k2 K H b ys ∧ SqK k3 K H c zs
abbrev zip3Y (xs ys zs : List V) : Nat → List V → Prop := fun i l => ∃ x y z, xs[i]? = some x ∧ ys[i]? = some y ∧ zs[i]? = some z ∧ l = [x, y, z]
theorem turn_zip3 {P : Program} {w : World} {K : PySem.W.Frag} {elts : List Expr} {kk : Nat} {tpos : Pos} {k1 k2 k3 : Bool} {a b c z TI TO i1 i2 i3 : Addr} {xs ys zs : List V} (D : ZipSep3 z TI TO i1 i2 i3 [i1, a] [i2, b] [i3, c]) (h1 : a ≠ i1) (h2 : b ≠ i2) (h3 : c ≠ i3) :
    Turn P w K (.Tuple elts kk tpos) (Itw (min (min xs.length ys.length) zs.length) (zip3G K k1 k2 k3 a b c xs ys zs) (zip3Y xs ys zs)) [z, TI, TO, i1, i2, i3] z
      (fun i h => IsZip h z TI TO .none ∧ IsTupOf3 h TI (.ref i1) (.ref i2) (.ref i3) ∧ (∃ a1 a2 a3, IsTupOf3 h TO a1 a2 a3) ∧ SIter k1 h i1 a i ∧ SIter k2 h i2 b i ∧ SIter k3 h i3 c i) := by
  refine turn_w (wr := [z, TO, i1, i2, i3]) (by simp) (fun q hq => ?_) (fun i h st q hq => ?_) (fun i h h' st kp => ?_) (fun A i s Q E st h => wpAny_pyIter_zip st.1 h) ?_
  · have e' : q = z ∨ q = TO ∨ q = i1 ∨ q = i2 ∨ q = i3 := by simpa using hq
    rcases e' with e | e | e | e | e <;> simp [e]
  · obtain ⟨hz, hTI, ⟨a1, a2, a3, hTO⟩, s1, s2, s3⟩ := st
    have e' : q = z ∨ q = TI ∨ q = TO ∨ q = i1 ∨ q = i2 ∨ q = i3 := by simpa using hq
    rcases e' with e | e | e | e | e | e
    · rw [e]; exact ⟨_, hz, fun v y => nomatch y⟩
    · rw [e]; exact ⟨_, hTI, fun v y => nomatch y⟩
    · rw [e]; exact ⟨_, hTO, fun v y => nomatch y⟩
    · rw [e]; exact s1.obj
    · rw [e]; exact s2.obj
    · rw [e]; exact s3.obj
  · obtain ⟨hz, hTI, ⟨a1, a2, a3, hTO⟩, s1, s2, s3⟩ := st
    exact ⟨kp z (by simp) _ hz, kp TI (by simp) _ hTI, ⟨a1, a2, a3, kp TO (by simp) _ hTO⟩, s1.at_ fun o e => kp i1 (by simp) o e, s2.at_ fun o e => kp i2 (by simp) o e, s3.at_ fun o e => kp i3 (by simp) o e⟩
  · intro X hP hw hK hc i pyins s σ H I st hG
    subst hP hw hK
    obtain ⟨hz, hTI, hTO, s1, s2, s3⟩ := st
    obtain ⟨q1, q2, q3⟩ := hG
    have hh := I.ok.hd hc
    obtain ⟨u1, S1, r1, d1, p1, t1⟩ := sdraws I hh q1 h1 s1
    obtain ⟨u2, S2, r2, d2, p2, t2⟩ := sdraws I hh q2 h2 s2
    obtain ⟨u3, S3, r3, d3, p3, t3⟩ := sdraws I hh q3 h3 s3
    refine ⟨_, _, _, _, WalksT.zipD3 D d1 d2 d3, ⟨hz, hTI, hTO, p1, p2, p3⟩, fun j h ⟨x1, x2, x3, x4, x5, x6⟩ => ⟨x1, x2, x3, t1 j h x4, t2 j h x5, t3 j h x6⟩, fun j vals ⟨v1, v2, v3, e1, e2, e3, ev⟩ => ?_⟩
    obtain ⟨x, hx, rx⟩ := vals_at r1 e1
    obtain ⟨y, hy, ry⟩ := vals_at r2 e2
    obtain ⟨w, hw, rw'⟩ := vals_at r3 e3
    subst ev
    exact ⟨[x, y, w], ⟨x, y, w, hx, hy, hw, rfl⟩, .cons rx (.cons ry (.cons rw' .nil)), by show 3 ≤ sizeLine; decide⟩
theorem sep3 {N a b c : Nat} (ha : a < N) (hb : b < N) (hc : c < N) : ZipSep3 (N + 5) (N + 3) (N + 4) N (N + 1) (N + 2) [N, a] [N + 1, b] [N + 2, c] :=
  zip_sep3 (N := N) (fp1 := [a]) (fp2 := [b]) (fp3 := [c]) (fun q h => by rw [List.mem_singleton.mp h]; exact ha) (fun q h => by rw [List.mem_singleton.mp h]; exact hb) (fun q h => by rw [List.mem_singleton.mp h]; exact hc)
def iZip3 (K : PySem.W.Frag) (ta : TA) : TI := fun σ H R => ta σ H fun vs H1 => ∃ (k1 k2 k3 : Bool) (a b c : Addr) (xs ys zs : List V), vs = [.ref a, .ref b, .ref c] ∧ SqK k1 K H1 a xs ∧ SqK k2 K H1 b ys ∧ SqK k3 K H1 c zs ∧
  R (Itw (min (min xs.length ys.length) zs.length) (zip3G K k1 k2 k3 a b c xs ys zs) (zip3Y xs ys zs)) H1
theorem pi_zip3 {X : Cx} {e e2 e3 : Expr} {ta : TA} {p pos tpos : Pos} {elts : List Expr} {kk : Nat} (hg : Gl X "zip") (hm : X.mg "zip" = none) (ha : PA X [e, e2, e3] ta)
    (hys : starEach [e, e2, e3] X.env = (false, eval e X.env) :: starEach [e2, e3] X.env := by rfl) (hpl : (backTo pos (starEach [e2, e3] X.env)).any (·.1) = false := by rfl) :
    PI X (.Tuple elts kk tpos) (.Call (.Name "zip" p) [e, e2, e3] [] pos) (iZip3 X.K ta) := by
  refine ⟨fun pyins s σ H R I h => ?_⟩
  refine Call_ (ld_blt I hg hm PyProof.Rows.boot_zip (PyProof.Rows.callWith_type1 (thn (ha.run pos pyins s σ H _ I h) fun us s1 ⟨vs, H1, I1, r1, q1⟩ => ?_) hys hpl))
  obtain ⟨k1, k2, k3, a, b, c, xs, ys, zs, ex, g1, g2, g3, q⟩ := q1
  subst ex
  obtain ⟨l1, o1, P1, B1, x1, m1⟩ := sbegins I1 g1
  obtain ⟨l2, o2, P2, B2, x2, m2⟩ := sbegins I1 g2
  obtain ⟨l3, o3, P3, B3, x3, m3⟩ := sbegins I1 g3
  cases r1 with
  | cons r rr => cases rr with
    | cons r' rr => cases rr with
      | cons r'' rr =>
        cases rr; cases r; cases r'; cases r''
        refine zip_begins3 B1 B2 B3 x1 x2 x3 fun h' hz hTI hTO y1 y2 y3 hsz hk => wpAny_pyIter_zip hz ?_
        have I2 : Inv X pyins σ H1 { s1 with heap := h' } := I1.kept (t' := s1.toks) hk
        refine ⟨s1.heap.objs.size + 5, [s1.heap.objs.size + 5, s1.heap.objs.size + 3, s1.heap.objs.size + 4, s1.heap.objs.size, s1.heap.objs.size + 1, s1.heap.objs.size + 2], _, _, H1, rfl, I2,
          turn_zip3 (sep3 l1 l2 l3) (Nat.ne_of_lt l1) (Nat.ne_of_lt (Nat.lt_of_lt_of_le l2 (Nat.le_add_right _ _))) (Nat.ne_of_lt (Nat.lt_of_lt_of_le l3 (Nat.le_add_right _ _))), ⟨hz, hTI, ⟨_, _, _, hTO⟩, m1 _ _ y1, m2 _ _ y2, m3 _ _ y3⟩, fun q hq => ?_, q⟩
        have e' : q = s1.heap.objs.size + 5 ∨ q = s1.heap.objs.size + 3 ∨ q = s1.heap.objs.size + 4 ∨ q = s1.heap.objs.size ∨ q = s1.heap.objs.size + 1 ∨ q = s1.heap.objs.size + 2 := by simpa using hq
        have hyle : s1.heap.objs.size ≤ q := by
          rcases e' with z | z | z | z | z | z <;> rw [z]
          · exact Nat.le_add_right _ _
          · exact Nat.le_add_right _ _
          · exact Nat.le_add_right _ _
          · exact Nat.le_refl _
          · exact Nat.le_add_right _ _
          · exact Nat.le_add_right _ _
        exact I1.fpOk hyle (I1.hok.fresh hyle)

/-! ### zip of two -/
abbrev zip2G (K : PySem.W.Frag) (k1 k2 : Bool) (a b : Addr) (xs ys : List V) : Hp → Prop := fun H => SqK k1 K H a xs ∧ SqK k2 K H b ys
abbrev zip2Y (xs ys : List V) : Nat → List V → Prop := fun i l => ∃ x y, xs[i]? = some x ∧ ys[i]? = some y ∧ l = [x, y]
theorem turn_zip2 {P : Program} {w : World} {K : PySem.W.Frag} {elts : List Expr} {kk : Nat} {tpos : Pos} {k1 k2 : Bool} {a b z TI TO i1 i2 : Addr} {xs ys : List V} (D : ZipSep2 z TI TO i1 i2 [i1, a] [i2, b]) (h1 : a ≠ i1) (h2 : b ≠ i2) :
    Turn P w K (.Tuple elts kk tpos) (Itw (min xs.length ys.length) (zip2G K k1 k2 a b xs ys) (zip2Y xs ys)) [z, TI, TO, i1, i2] z
      (fun i h => IsZip h z TI TO .none ∧ IsTupOf2 h TI (.ref i1) (.ref i2) ∧ (∃ a1 a2, IsTupOf2 h TO a1 a2) ∧ SIter k1 h i1 a i ∧ SIter k2 h i2 b i) := by
  refine turn_w (wr := [z, TO, i1, i2]) (by simp) (fun q hq => ?_) (fun i h st q hq => ?_) (fun i h h' st kp => ?_) (fun A i s Q E st h => wpAny_pyIter_zip st.1 h) ?_
  · have e' : q = z ∨ q = TO ∨ q = i1 ∨ q = i2 := by simpa using hq
    rcases e' with e | e | e | e <;> simp [e]
  · obtain ⟨hz, hTI, ⟨a1, a2, hTO⟩, s1, s2⟩ := st
    have e' : q = z ∨ q = TI ∨ q = TO ∨ q = i1 ∨ q = i2 := by simpa using hq
    rcases e' with e | e | e | e | e
    · rw [e]; exact ⟨_, hz, fun v y => nomatch y⟩
    · rw [e]; exact ⟨_, hTI, fun v y => nomatch y⟩
    · rw [e]; exact ⟨_, hTO, fun v y => nomatch y⟩
    · rw [e]; exact s1.obj
    · rw [e]; exact s2.obj
  · obtain ⟨hz, hTI, ⟨a1, a2, hTO⟩, s1, s2⟩ := st
    exact ⟨kp z (by simp) _ hz, kp TI (by simp) _ hTI, ⟨a1, a2, kp TO (by simp) _ hTO⟩, s1.at_ fun o e => kp i1 (by simp) o e, s2.at_ fun o e => kp i2 (by simp) o e⟩
  · intro X hP hw hK hc i pyins s σ H I st hG
    subst hP hw hK
    obtain ⟨hz, hTI, hTO, s1, s2⟩ := st
    obtain ⟨q1, q2⟩ := hG
    have hh := I.ok.hd hc
    obtain ⟨u1, S1, r1, d1, p1, t1⟩ := sdraws I hh q1 h1 s1
    obtain ⟨u2, S2, r2, d2, p2, t2⟩ := sdraws I hh q2 h2 s2
    refine ⟨_, _, _, _, WalksT.zipD2 D d1 d2, ⟨hz, hTI, hTO, p1, p2⟩, fun j h ⟨x1, x2, x3, x4, x5⟩ => ⟨x1, x2, x3, t1 j h x4, t2 j h x5⟩, fun j vals ⟨v1, v2, e1, e2, ev⟩ => ?_⟩
    obtain ⟨x, hx, rx⟩ := vals_at r1 e1
    obtain ⟨y, hy, ry⟩ := vals_at r2 e2
    subst ev
    exact ⟨[x, y], ⟨x, y, hx, hy, rfl⟩, .cons rx (.cons ry .nil), by show 2 ≤ sizeLine; decide⟩
theorem sep2 {N a b : Nat} (ha : a < N) (hb : b < N) : ZipSep2 (N + 4) (N + 2) (N + 3) N (N + 1) [N, a] [N + 1, b] :=
  zip_sep2 (N := N) (fp1 := [a]) (fp2 := [b]) (fun q h => by rw [List.mem_singleton.mp h]; exact ha) (fun q h => by rw [List.mem_singleton.mp h]; exact hb)
def iZip2 (K : PySem.W.Frag) (ta : TA) : TI := fun σ H R => ta σ H fun vs H1 => ∃ (k1 k2 : Bool) (a b : Addr) (xs ys : List V), vs = [.ref a, .ref b] ∧ SqK k1 K H1 a xs ∧ SqK k2 K H1 b ys ∧
  R (Itw (min xs.length ys.length) (zip2G K k1 k2 a b xs ys) (zip2Y xs ys)) H1
theorem pi_zip2 {X : Cx} {e e2 : Expr} {ta : TA} {p pos tpos : Pos} {elts : List Expr} {kk : Nat} (hg : Gl X "zip") (hm : X.mg "zip" = none) (ha : PA X [e, e2] ta)
    (hys : starEach [e, e2] X.env = (false, eval e X.env) :: starEach [e2] X.env := by rfl) (hpl : (backTo pos (starEach [e2] X.env)).any (·.1) = false := by rfl) :
    PI X (.Tuple elts kk tpos) (.Call (.Name "zip" p) [e, e2] [] pos) (iZip2 X.K ta) := by
  refine ⟨fun pyins s σ H R I h => ?_⟩
  refine Call_ (ld_blt I hg hm PyProof.Rows.boot_zip (PyProof.Rows.callWith_type1 (thn (ha.run pos pyins s σ H _ I h) fun us s1 ⟨vs, H1, I1, r1, q1⟩ => ?_) hys hpl))
  obtain ⟨k1, k2, a, b, xs, ys, ex, g1, g2, q⟩ := q1
  subst ex
  obtain ⟨l1, o1, P1, B1, x1, m1⟩ := sbegins I1 g1
  obtain ⟨l2, o2, P2, B2, x2, m2⟩ := sbegins I1 g2
  cases r1 with
  | cons r rr => cases rr with
    | cons r' rr =>
      cases rr; cases r; cases r'
      refine zip_begins2 B1 B2 x1 x2 fun h' hz hTI hTO y1 y2 hsz hk => wpAny_pyIter_zip hz ?_
      have I2 : Inv X pyins σ H1 { s1 with heap := h' } := I1.kept (t' := s1.toks) hk
      refine ⟨s1.heap.objs.size + 4, [s1.heap.objs.size + 4, s1.heap.objs.size + 2, s1.heap.objs.size + 3, s1.heap.objs.size, s1.heap.objs.size + 1], _, _, H1, rfl, I2,
        turn_zip2 (sep2 l1 l2) (Nat.ne_of_lt l1) (Nat.ne_of_lt (Nat.lt_of_lt_of_le l2 (Nat.le_add_right _ _))), ⟨hz, hTI, ⟨_, _, hTO⟩, m1 _ _ y1, m2 _ _ y2⟩, fun q hq => ?_, q⟩
      have e' : q = s1.heap.objs.size + 4 ∨ q = s1.heap.objs.size + 2 ∨ q = s1.heap.objs.size + 3 ∨ q = s1.heap.objs.size ∨ q = s1.heap.objs.size + 1 := by simpa using hq
      have hyle : s1.heap.objs.size ≤ q := by
        rcases e' with z | z | z | z | z <;> rw [z]
        · exact Nat.le_add_right _ _
        · exact Nat.le_add_right _ _
        · exact Nat.le_add_right _ _
        · exact Nat.le_refl _
        · exact Nat.le_add_right _ _
      exact I1.fpOk hyle (I1.hok.fresh hyle)
end Mc
/-! Mc2: enumerate over a list or a tuple. -/
namespace Mc
open PySem L2 PyProof.Rows
theorem enum_new1 {v : Value} {o : Obj} {H : Heap → Prop} (B : Begins v o H) :
    Meets (Builtin.«enumerate.__new__» ⟨[.type "enumerate", v], []⟩) (fun _ R s => H s.heap ∧
      R (.ok (.ret (.ref (s.heap.push o).objs.size))) { s with heap := (s.heap.push o).push { cls := .type "enumerate", data := .fields #[.none, .bool false, .ref s.heap.objs.size, rawInt 0, .none, .none] } }) := .of_wp fun prog w A R s h => by
    obtain ⟨hp, g, d, tk, oys⟩ := s
    obtain ⟨h1, h⟩ := h
    have hsub := sub_enumerate
    have qy1 : ∀ {A' : Around} {E : Value → Shared → Prop} {Q : Value → Shared → Prop}, Q (.ref hp.objs.size) ⟨hp.push o, g, d, tk, oys⟩ → wpAny (model prog w) A' (pyIter v) Q E ⟨hp, g, d, tk, oys⟩ :=
      fun q => B.iter prog w _ _ ⟨hp, g, d, tk, oys⟩ _ h1 q
    wp_walk using qy1
    refine wpAny_stack_any fun st => wpAny_pure ?_; split
    · rename_i c _ _ _ _ _
      cases hce : (c == Value.type "enumerate")
      · wp_walk using qy1
        exact ⟨_, rfl, h⟩
      · wp_walk using qy1
        exact ⟨_, rfl, h⟩
    · wp_walk using qy1
      exact ⟨_, rfl, h⟩
section
variable {w : World} {prog : Program} {A : Around} {E : Value → Shared → Prop} {s : Shared}
theorem enum_begin1 {v : Value} {o : Obj} {H : Heap → Prop} {Q : Value → Shared → Prop} (B : Begins v o H) (h1 : H s.heap)
    (h : ∀ h', IsEnum h' (s.heap.objs.size + 1) s.heap.objs.size 0 .none → h'.get? s.heap.objs.size = some o → (∀ b o, s.heap.get? b = some o → h'.get? b = some o) → Q (.ref (s.heap.objs.size + 1)) { s with heap := h' }) :
    wpAny (model prog w) A (call (.type "enumerate") [v]) Q E s := by
  refine callType_new F.called_enumerate (by decide) (F.typeCall_enumerate_1 _) (F.newCall_enumerate_1 _) (fun obj => F.args_object_init_2 obj _) F.entry_enumerate_new (enum_new1 B) ⟨h1, ?_⟩
  have hz : (s.heap.push o).objs.size = s.heap.objs.size + 1 := Heap.size_push ..; show _ ∧ _
  rw [hz]
  have he : IsEnum ((s.heap.push o).push { cls := .type "enumerate", data := .fields #[.none, .bool false, .ref s.heap.objs.size, rawInt 0, .none, .none] }) (s.heap.objs.size + 1) s.heap.objs.size 0 .none := by
    have := Heap.get?_push_size (s.heap.push o) (o := { cls := .type "enumerate", data := .fields #[.none, .bool false, .ref s.heap.objs.size, rawInt 0, .none, .none] }) rfl
    rw [hz] at this; exact this
  exact ⟨⟨_, he, rfl⟩, h _ he (Heap.get?_push_of_some _ (Heap.get?_push_size _ B.free)) fun b o x => Heap.get?_push_of_some _ (Heap.get?_push_of_some _ x)⟩
end
abbrev enumY (xs : List V) : Nat → List V → Prop := fun i l => ∃ x, xs[i]? = some x ∧ l = [.int (i : Nat), x]
theorem turn_en {P : Program} {w : World} {K : PySem.W.Frag} {elts : List Expr} {kk : Nat} {tpos : Pos} {k : Bool} {a e it : Addr} {xs : List V} (h1 : a ≠ it) (he : e ≠ it) (hea : e ≠ a) :
    Turn P w K (.Tuple elts kk tpos) (Itw xs.length (fun H => SqK k K H a xs) (enumY xs)) [e, it] e
      (fun i h => (∃ old, IsEnum h e it ((0 : Int) + (i : Int)) old) ∧ SIter k h it a i) := by
  refine turn_w (wr := [e, it]) (by simp) (fun q hq => hq) (fun i h st q hq => ?_) (fun i h h' st kp => ?_) (fun A i s Q E st h => let ⟨⟨_, z⟩, _⟩ := st; wpAny_pyIter_enum z h) ?_
  · obtain ⟨⟨old, hz⟩, s1⟩ := st
    have e' : q = e ∨ q = it := by simpa using hq
    rcases e' with z | z
    · rw [z]; exact ⟨_, hz, fun v y => nomatch y⟩
    · rw [z]; exact s1.obj
  · obtain ⟨⟨old, hz⟩, s1⟩ := st
    exact ⟨⟨old, kp e (by simp) _ hz⟩, s1.at_ fun o z => kp it (by simp) o z⟩
  · intro X hP hw hK hc i pyins s σ H I st hG
    subst hP hw hK
    obtain ⟨hz, s1⟩ := st
    have hh := I.ok.hd hc
    obtain ⟨u1, S1, r1, d1, p1, t1⟩ := sdraws I hh hG h1 s1
    refine ⟨_, _, _, _, WalksT.enumFrom 0 d1 e he (by simp; exact ⟨he, hea⟩) (by simp), ⟨hz, p1⟩, fun j h ⟨x1, x2⟩ => ⟨x1, t1 j h x2⟩, fun j vals ⟨t, v, e1, ev⟩ => ?_⟩
    obtain ⟨x, hx, rx⟩ := vals_at r1 e1
    subst ev
    refine ⟨[.int (j : Nat), x], ⟨x, hx, rfl⟩, .cons ⟨t, ?_⟩ (.cons rx .nil), by show 2 ≤ sizeLine; decide⟩
    rw [Int.zero_add]
def iEn (K : PySem.W.Frag) (ta : TA) : TI := fun σ H R => ta σ H fun vs H1 => ∃ (k : Bool) (a : Addr) (xs : List V), vs = [.ref a] ∧ SqK k K H1 a xs ∧ R (Itw xs.length (fun H => SqK k K H a xs) (enumY xs)) H1
theorem pi_en {X : Cx} {e : Expr} {ta : TA} {p pos tpos : Pos} {elts : List Expr} {kk : Nat} (hg : Gl X "enumerate") (hm : X.mg "enumerate" = none) (ha : PA X [e] ta) (hs : starEach [e] X.env = [(false, eval e X.env)] := by rfl) :
    PI X (.Tuple elts kk tpos) (.Call (.Name "enumerate" p) [e] [] pos) (iEn X.K ta) := by
  refine ⟨fun pyins s σ H R I h => ?_⟩
  refine Call_ (ld_blt I hg hm boot_enumerate (PyProof.Rows.callWith_type1 (thn (ha.run pos pyins s σ H _ I h) fun us s1 ⟨vs, H1, I1, r1, qy1⟩ => ?_) hs rfl))
  obtain ⟨k, a, xs, ex, g1, q⟩ := qy1
  subst ex
  obtain ⟨l1, o1, P1, B1, x1, m1⟩ := sbegins I1 g1
  cases r1 with
  | cons r rr =>
    cases rr; cases r
    refine enum_begin1 B1 x1 fun h' hz y1 hk => wpAny_pyIter_enum hz ?_
    have I2 : Inv X pyins σ H1 { s1 with heap := h' } := I1.kept (t' := s1.toks) hk
    refine ⟨s1.heap.objs.size + 1, [s1.heap.objs.size + 1, s1.heap.objs.size], _, _, H1, rfl, I2, turn_en (Nat.ne_of_lt l1) (Nat.succ_ne_self _) (Nat.ne_of_gt (Nat.lt_succ_of_lt l1)), ⟨⟨.none, hz⟩, m1 _ _ y1⟩, fun q hq => ?_, q⟩
    have e' : q = s1.heap.objs.size + 1 ∨ q = s1.heap.objs.size := by simpa using hq
    have hyle : s1.heap.objs.size ≤ q := by
      rcases e' with z | z <;> rw [z]
      · exact Nat.le_add_right _ _
      · exact Nat.le_refl _
    exact I1.fpOk hyle (I1.hok.fresh hyle)
end Mc
/-! Mc3: a tuple times 1, times 0. -/
namespace Mc
open PySem L2 PyProof.Rows
theorem mulOne (l : Addr) (items : Array Value) (n : Nat) (dd : Option Addr) (sl : Array (Option Value)) (u : Tok) :
    Meets (Builtin.«tuple.__mul__» ⟨[.ref l, .int 1 u], []⟩) (fun _ R s => s.heap.get? l = some { cls := .type "tuple", dict := dd, data := .seq items n, slots := sl } ∧ R (.ok (.ret (Value.ref l))) s) := .of_wp fun prog w A R s h => by
    obtain ⟨hp, g, d, tk, oys⟩ := s
    obtain ⟨hyl, h⟩ := h
    have f1 := AutoSeq1.idx_int
    have c1 : (items.isEmpty || ((1 : Int) == 1)) = true := by simp
    wp_walk using wpAny_loadPart' hyl
    repeat (first
      | (refine wpAny_ite_true (decide_eq_true (by rw [c1])) ?_; wp_walk using wpAny_loadPart' hyl)
      | (simp only [c1, if_true]; wp_walk using wpAny_loadPart' hyl))
    exact ⟨_, rfl, h⟩
theorem mulNone (l : Addr) (items : Array Value) (n : Nat) (dd : Option Addr) (sl : Array (Option Value)) (u : Tok) (hi : items.isEmpty = false) :
    Meets (Builtin.«tuple.__mul__» ⟨[.ref l, .int 0 u], []⟩) (fun _ R s => s.heap.get? l = some { cls := .type "tuple", dict := dd, data := .seq items n, slots := sl } ∧
      R (.ok (.ret (Value.ref s.heap.objs.size))) { s with heap := s.heap.push { cls := Value.type "tuple", data := Data.seq #[] }, toks := s.toks }) := .of_wp fun prog w A R s h => by
    obtain ⟨hp, g, d, tk, oys⟩ := s
    obtain ⟨hyl, h⟩ := h
    have f1 := AutoSeq1.idx_int
    have c1 : (items.isEmpty || ((0 : Int) == 1)) = false := by rw [hi]; rfl
    have c2 : (decide ((0 : Int) ≤ 0) || items.isEmpty) = true := by rw [hi]; rfl
    wp_walk using wpAny_loadPart' hyl
    exact ⟨_, rfl, h⟩
/-- a tuple that isn't empty times 0 .. 1000 -/
def rRepU (K : PySem.W.Frag) : R2 := fun x y H Q => ∃ (l : Addr) (k : Nat) (xs : List V), x = .ref l ∧ y = .int (k : Int) ∧ SqT K H l xs ∧ xs ≠ [] ∧ k ≤ 1000 ∧ xs.length ≤ 1000 ∧ (k = 1 → Q (.ref l) H) ∧ (k ≠ 1 → ∀ p, H p = none → Q (.ref p) (upd H p (.tup (List.replicate k xs).flatten)))
section
variable {X : Cx}
theorem op_repU : OpR X (binaryOp .Mult) (rRepU X.K) := by
  intro pyins s σ H x y v u Q I rx ry h
  obtain ⟨l, k, xs, rfl, rfl, hT, hne, h2, hz, q1, q2⟩ := h
  by_cases hk : 2 ≤ k
  · exact op_repT pyins s σ H _ _ v u Q I rx ry ⟨l, (k : Int), xs, rfl, rfl, hT, hne, by omega, by omega, hz, fun p hp => by rw [Int.toNat_natCast]; exact q2 (by omega) p hp⟩
  · cases rx
    obtain ⟨t, rfl⟩ := ry
    obtain ⟨iyts, r, ⟨⟨cls, dd, data, sl⟩, hyo, hc, n, hd⟩, hs⟩ := I.tuple hT
    simp only at hc hd
    subst hc hd
    have hle : iyts.length = xs.length := r.length.symm
    have hi : iyts.toArray.isEmpty = false := by
      cases iyts with
      | nil => exact absurd (List.eq_nil_of_length_eq_zero hle.symm) hne
      | cons a b => rfl
    refine wpAny_binaryOp_repeat_ref (T := "tuple") (U := "int") (by decide) ⟨_, hyo, rfl⟩ (fun s' => typeIs_int s' k t) noFill_tuple_mul F.fills_int_mul F.slot_int_rmul repeat_tuple F.slot_int_index.lookup
      (call_meets F.slot_int_rmul (typeIs_int s k t) F.entry_int_rmul (F.args_int_rmul_2 _ _) (int_rmul_tuple k t l iyts.toArray n dd sl) ⟨hyo, rfl, ⟨_, hyo, rfl⟩, ?_⟩)
    have hk2 : k = 0 ∨ k = 1 := by omega
    rcases hk2 with rfl | rfl
    · refine call_meets F.slot_tuple_mul ⟨_, hyo, rfl⟩ F.entry_tuple_mul (F.args_tuple_mul_2 _ _) (mulNone l iyts.toArray n dd sl t hi) ⟨hyo, ?_⟩
      refine ⟨.ref s.heap.objs.size, _, I.laid (t' := s.toks) (o := .tup []) (fun b ob q => Heap.get?_push_of_some _ q) (Nat.le_refl _) ?_, rfl, q2 (by decide) _ (I.hok.fresh (Nat.le_refl _))⟩
      exact ⟨Nat.zero_le _, [], .nil, IsTup.new _ _⟩
    · exact call_meets F.slot_tuple_mul ⟨_, hyo, rfl⟩ F.entry_tuple_mul (F.args_tuple_mul_2 _ _) (mulOne l iyts.toArray n dd sl t) ⟨hyo, .ref l, H, I, rfl, q1 rfl⟩
end
end Mc
/-! Mc4: {t: v}, t a tuple of ints and texts. -/
namespace Mc
open PySem L2 PyProof.Rows
/-- the new dict stands empty while key and value are made -/
def tDisp1 (tk tv : TE) : TE := fun σ H Q => ∀ p, H p = none → tPairs [(tk, tv)] σ (upd H p (.dT [])) fun ps H2 => ∃ (x y : V) (ks : List Key) (b : Addr), ps = [(x, y)] ∧ H2 p = some (.dT []) ∧ x = .ref b ∧ H2 b = some (.tup (ks.map kV)) ∧ Q (.ref p) (upd H2 p (.dT [(ks, y)]))
theorem pe_disp1 {X : Cx} {k v : Expr} {tk tv : TE} {pos : Pos} (hu : X.A.units + 1 < cLine) (hk : PE X k tk) (hv : PE X v tv) : PE X (.Dict [some k] [v] pos) (tDisp1 tk tv) := by
  refine ⟨fun pyins s σ H Q I q => ?_⟩
  have hyn := I.hok.fresh (Nat.le_refl s.heap.objs.size)
  have I1 := I.laid (a := s.heap.objs.size) (o := .dT []) (h' := s.heap.push { cls := .type "dict", data := .dict #[] }) (t' := s.toks) (fun _ _ q => Heap.get?_push_of_some _ q) (Nat.le_refl _) (dt_empty s.heap I.big)
  have hl := pairTrees_length [some k] [v] X.env pos rfl rfl
  have h0 : pairTrees [some k] [v] X.env pos ≠ [] := fun e => by rw [e] at hl; cases hl
  have h15 : (pairTrees [some k] [v] X.env pos).length ≤ 15 := by rw [hl]; exact (by decide : 1 ≤ 15)
  rw [arm_eval_Dict, zip_pairTrees [some k] [v] X.env pos rfl rfl, dictDisplay_pairs _ h0 (by omega)]
  refine wpAny_bind (wpAny_standAt (wpAny_bind ?_)); unfold subDict
  refine wpAny_bind (wpAny_alloc ?_); refine wpAny_bind (wpAny_holding ?_)
  rw [if_pos h15]
  have pp : PPs X pos [some k] [v] [(tk, tv)] := pps_cons hk hv pps_nil
  refine wpAny_bind (thn (pp.run pyins _ σ _ _ I1 (q _ hyn)) fun vs s2 ⟨ps, H2, I2, rel, x, y, ks, b, ep, e, ex, eb, q2⟩ => ?_)
  subst ep ex
  cases rel with
  | @cons p1 p2 _ _ h t =>
    cases t
    obtain ⟨u, r⟩ := p2
    obtain ⟨hu1, hr⟩ := h
    cases (show u = Value.ref b from hu1)
    obtain ⟨z, hd, xs, rel, dd⟩ := dt_of I2.hok e
    cases rel
    refine wpAny_holding ?_
    refine wpAny_bind ?_
    rw [List.forIn_cons]
    refine wpAny_bind (wpAny_bind (wpAny_dictSet_heap (hsz := Nat.zero_le _) (show (tupleKind (mixKind X.prog X.w)).room X.A from (by show X.A.units < cLine; omega)) (key_of I2.hok eb) dd fun h' dd' hs => wpAny_pure ?_))
    show wpAny _ _ (forIn ([] : List (Value × Value)) PUnit.unit _) _ _ _
    rw [List.forIn_nil]
    refine wpAny_pure (wpAny_pure (wpAny_pure (wpAny_pure ?_)))
    obtain ⟨q, es, ep, hyq, h2, h3, h4, _, h5⟩ := dd'
    refine ⟨.ref s.heap.objs.size, _, d_write (ob := .dT [(ks, y)]) (t' := s2.toks + (tupleKind (mixKind X.prog X.w)).draws ks) I2 (by rw [e]; exact True.intro) hs ⟨q, hyq⟩ ⟨(by show 1 ≤ sizeLine; decide), hd, [(ks, b, r)], .cons ⟨rfl, ?_, hr⟩ .nil, q, es, ep, hyq, h2, h3, h4, h5⟩, rfl, q2⟩
    rw [upd_ne (ne_of eb e (fun z => nomatch z))]
    exact eb
end Mc
/-! Mc5: sorted of one item; d.items() of a dict with tuple keys, walked. -/
namespace Mc
open PySem L2 PyProof.Rows
def rSorted1 (K : PySem.W.Frag) : List V → Hp → VK → Prop := fun vs H Q => ∃ a x, vs = [V.ref a] ∧ SqL K H a [x] ∧ ∀ p, H p = none → Q (.ref p) (upd H p (.lst [x]))
theorem cr_sorted1 {X : Cx} : CallR X (.builtin "sorted") (rSorted1 X.K) := by
  intro pyins s σ H vs us Q I r h
  obtain ⟨a, x, rfl, hs, q⟩ := h
  obtain ⟨iyts, rv, hl, hz⟩ := I.list hs
  obtain ⟨u, rfl, ryu⟩ := vals1 r
  obtain rfl : u = Value.ref a := ryu
  obtain ⟨v, rfl, ryx⟩ := vals1 rv
  refine Srt.sorted_any hl.isList (by show 1 ≤ sizeLine; decide) (fun h2 => absurd h2 (by show ¬ 2 ≤ 1; decide)) fun out hp => ?_
  have e : out = [v] := List.perm_singleton.mp hp
  subst e
  obtain ⟨n, hn⟩ := PyProof.Rows.sortedAll_at s.heap [v] #[v]
  exact ⟨.ref _, _, I.laid (t' := s.toks) (o := .lst [x]) (fun b o e => PyProof.Rows.sortedAll_old e) (Nat.le_succ _) ⟨by show 1 ≤ sizeLine; decide, [v], n, .cons ryx .nil, hn⟩, rfl, q _ (I.hok.fresh (Nat.le_succ _))⟩

section
variable {X : Cx} {pyins : List (Addr × Obj)} {σ : L2.St} {H : Hp} {s : Shared} {d : Addr} {o : Obj}
theorem frzT2 {kyvs : List (List L2.Key × V)} (I : Inv X pyins σ H s) (h : H d = some (.frz o (.dT kyvs))) :
    (d == sysModules) = false ∧ s.heap.get? d = some o ∧ o.ExactDict ∧ ∃ (es : Array DictEntry) (ep : Nat), o.data = .dict es ep ∧ es.size = kyvs.length ∧
      ∀ (i : Nat) (k : List L2.Key) (v : V), kyvs[i]? = some (k, v) → ∃ (en : DictEntry) (q : Addr), es[i]? = some en ∧ en.key = .ref q ∧ H q = some (.tup (k.map kV)) ∧ RelV v en.val := by
  obtain ⟨hd, z, hs, xs, pr, o', es, ep, hyo, hyx, hydt, he, _⟩ := I.hok d _ h
  rw [hd] at hyo
  cases hyo
  refine ⟨hs, hd, hyx, es, ep, hydt, ?_, fun i k v e => ?_⟩
  · have ly1 : es.size = xs.length := size_of_entries he
    have ly2 : kyvs.length = xs.length := Paired.length pr
    omega
  · obtain ⟨b, hyb, e1, e2, e3⟩ := paired_get pr e
    have q := entry_at he i
    rw [hyb] at q
    exact ⟨_, b.2.1, q, rfl, e2, e3⟩
end
/-- the pairs of a locked dict with tuple keys, each in a new pair -/
def ItiT (d : Addr) (o : Obj) (kyvs : List (List L2.Key × V)) : It :=
  ⟨fun i H => H d = some (.frz o (.dT kyvs)) ∧ i < kyvs.length, fun i H x H' => ∃ (T q : Addr) (k : List L2.Key) (v : V), kyvs[i]? = some (k, v) ∧ H q = some (.tup (k.map kV)) ∧ x = .ref T ∧ H T = none ∧ H' = upd H T (.tup [.ref q, v]), fun i H => H d = some (.frz o (.dT kyvs)) ∧ kyvs.length ≤ i⟩
section
variable {P : Program} {w : World} {K : PySem.W.Frag} {d : Addr} {o : Obj} {es : Array DictEntry} {ep : Nat}
theorem turn_itemsT {kyvs : List (List L2.Key × V)} {elts : List Expr} {kk : Nat} {tpos : Pos} (it : Addr) (hod : o.data = .dict es ep) :
    Turn P w K (.Tuple elts kk tpos) (ItiT d o kyvs) [it] it (fun i h => ∃ ok ov, IsItemIter h it d i kyvs.length ep ok ov) where
  mem := by simp
  obj := fun i h st b hyb => by
    have e : b = it := by simpa using hyb
    subst e
    obtain ⟨ok, ov, e⟩ := st
    refine ⟨_, e, fun v z => nomatch z⟩
  keep := fun i h h' st kp => let ⟨ok, ov, e⟩ := st; ⟨ok, ov, kp it (by simp) _ e⟩
  item := by
    intro X hP hw hK hc i pyins s σ H E I hf st hg
    subst hP hw hK
    obtain ⟨hd, hyi⟩ := hg
    obtain ⟨hs, hgd, hyx, es', ep', hydt, hsz, ent⟩ := frzT2 I hd
    obtain ⟨rfl, rfl⟩ := dict_ep hod hydt
    obtain ⟨⟨k, v⟩, hkv⟩ : ∃ p, kyvs[i]? = some p := ⟨kyvs[i], List.getElem?_eq_getElem hyi⟩
    obtain ⟨en, q, hen, hkey, hq, rv⟩ := ent i k v hkv
    obtain ⟨ok, ov, he⟩ := st
    rw [← hsz] at he
    have hi' : i < es'.size := by rw [hsz]; exact hyi
    have een : es'[i] = en := by
      rw [Array.getElem?_eq_getElem hi'] at hen
      exact Option.some.inj hen
    have hylt : it < s.heap.objs.size := Heap.lt_size he
    refine DT.nextI he ⟨o, hgd, hyx, hydt⟩ hi' fun h' hyo hT hz hk => ?_
    rw [een, hkey] at hyo hT
    refine ⟨_, rfl, wpAny_letOwnedTupleGo_items (s := { s with heap := h' }) hyo fun h'' he' sb => ?_⟩
    have hT2 : h''.get? s.heap.objs.size = some { cls := .type "tuple", data := .seq #[.ref q, en.val] } := (sb.2 _ (Nat.ne_of_gt hylt)).trans hT
    have new : ObjOk X.prog X.w (upd H s.heap.objs.size (.tup [.ref q, v])) h'' s.heap.objs.size (.tup [.ref q, v]) :=
      ⟨by show 2 ≤ sizeLine; decide, [.ref q, en.val], .cons rfl (.cons rv .nil), ⟨_, hT2, rfl, _, rfl⟩⟩
    have I1 : Inv X pyins σ (upd H s.heap.objs.size (.tup [.ref q, v])) { s with heap := h'' } :=
      I.turnedNew (t' := s.toks) (ch := [it]) (fun b ob hyb e => (sb.2 b (by simpa using hyb)).trans (hk b ob (by simpa using hyb) e)) hf (Nat.le_refl _) new
    refine ⟨.ref s.heap.objs.size, _, I1, rfl, ⟨_, q, k, v, hkv, hq, rfl, I.hok.fresh (Nat.le_refl _), rfl⟩, ⟨.ref q, en.val, ?_⟩, fun b hyb => ?_⟩
    · rw [← hsz]; exact he'
    · have e : b = it := by simpa using hyb
      rw [e, upd_ne (Nat.ne_of_lt hylt)]
      exact (hf it (by simp)).1
  done := by
    intro X hP hw hK hc i pyins s σ H E I hf st hg
    subst hP hw hK
    obtain ⟨hd, hyi⟩ := hg
    obtain ⟨fy0, f1, f2, f3, f4, f5⟩ := hf it (by simp)
    obtain ⟨hs, hgd, hyx, es', ep', hydt, hsz, ent⟩ := frzT2 I hd
    obtain ⟨rfl, rfl⟩ := dict_ep hod hydt
    obtain ⟨ok, ov, he⟩ := st
    rw [← hsz] at he
    exact DT.endI (I.ok.hd hc) he ⟨o, hgd, hyx, hydt⟩ (by omega) fun h' eb => ⟨rfl, I.turned (t' := s.toks) (fun b ob hyb e => eb b ob hyb e) fy0 f1 f3 f4 f5⟩
  self := fun _ _ _ _ _ st h => let ⟨_, _, e⟩ := st; PySem.W.kcp_self e h
end
def iItemsT (td : TE) : TI := fun σ H R => td σ H fun x H1 => ∃ d o kyvs, x = .ref d ∧ H1 d = some (.frz o (.dT kyvs)) ∧ R (ItiT d o kyvs) H1
theorem pi_itemsT {X : Cx} {e : Expr} {td : TE} {apos cpos : Pos} {elts : List Expr} {kk : Nat} {tpos : Pos} (he : PE X e td) (hbase : attributeBase e "items" X.env (eval e X.env) = eval e X.env := by rfl) (hline : (apos.endLine == cpos.line) = true := by rfl) :
    PI X (.Tuple elts kk tpos) (.Call (.Attribute e "items" apos) [] [] cpos) (iItemsT td) := by
  refine ⟨fun pyins s σ H R I h => ?_⟩
  refine wpAny_Call_method (T := "dict") (id := "dict.items") hbase rfl hline F.plainAttrs_dict F.slot_dict_items F.type_dict_items (thn (he.run pyins s σ H _ I h) fun u s1 ⟨x, H1, I1, ryx, d, o, kyvs, ex, hd, q⟩ => ?_)
  subst ex
  obtain rfl : u = Value.ref d := ryx
  obtain ⟨hs, hgd, hyx, es, ep, hydt, hsz, ent⟩ := frzT2 I1 hd
  have hr : DT.Raw s1.heap d es ep := ⟨o, hgd, hyx, hydt⟩
  refine ⟨hr.typeIs, fun b q => ?_, ?_⟩
  · cases q; exact ⟨o, hgd, hyx.2.1⟩
  have I2 : Inv X pyins σ H1 { s1 with heap := s1.heap.push { cls := .type "dict_items", data := .fields #[.ref d] } } := I1.kept (t' := s1.toks) fun b ob q => Heap.get?_push_of_some _ q
  have fin : wpAny (model X.prog X.w) X.A (pyIter (.ref s1.heap.objs.size)) (PIE X pyins σ (.Tuple elts kk tpos) R) X.xe { s1 with heap := s1.heap.push { cls := .type "dict_items", data := .fields #[.ref d] } } := by
    refine DT.iterI (d := d) ⟨_, Heap.get?_push_size _ rfl, rfl, rfl⟩ (hr.push _) (pi_one (tk := s1.toks) I2 _ (turn_itemsT _ hydt) ⟨.none, .none, ?_⟩ q)
    rw [← hsz]
    refine Heap.get?_push_size _ rfl
  show wpAny _ _ (callWith cpos (.builtin "dict.items") [.ref d] [] []) _ X.xe s1; exact method_meetsIn F.slot_dict_items F.entry_dict_items rfl (PySem.evalArgs_none ⟨rfl, hr.typeIs, F.args_dict_items_1 _, _, DT.meetsItems hs, hr, fin⟩)
end Mc
/-! Mc6: t += u at an attribute; xs[i] as what an augmented store reads. -/
namespace Mc
open PySem L2 PyProof.Rows HT
theorem no_iadd_tup : typeLookup (.type "tuple") (dunderI "add") = pure none := by first | rfl | kernel_rfl
theorem iconcat_meets {prog : Program} {w : World} {A : Around} {E : Value → Shared → Prop} {s : Shared} {T id : String} {B : Builtin} {a b : Value} {S : PySem.Spec} {Q : Value → Shared → Prop} (ha : s.TypeIs a T) (hyb : s.TypeIs b T) (hno : typeLookup (.type T) (dunderI "add") = pure none) (hfill : fillsNumberSlot (.type T) "add" = pure false) (hseq : seqSlot? (.type T) "__add__" = pure (some (.builtin id))) (slot : Slot T "__add__" id)
    (entry : entryFor table id = some B) (args : argsOk id ⟨[a, b], []⟩) (g : Meets (B ⟨[a, b], []⟩) S) (h : S A (wants Q E) s) : wpAny (model prog w) A (inplaceOp .Add a b) Q E s :=
  wpAny_inplaceOp_concat ha hyb hno hfill hseq (call_meets slot ha entry args g h)
section
variable {X : Cx}
theorem in_catA : InOp X .Add (rCatA X.K) := by
  intro pyins s σ H x y v u Q I rx ry h
  obtain ⟨a, b, xs, ys, rfl, rfl, ha, hyb, hz, q0, qy1, q2⟩ := h
  cases rx
  cases ry
  obtain ⟨iyts, ry1, p1, _⟩ := I.tuple ha
  obtain ⟨its2, r2, p2, _⟩ := I.tuple hyb
  obtain ⟨⟨cls, dd, data, sl⟩, ho, hc, n, hd⟩ := id p1
  obtain ⟨⟨cls2, dd2, data2, sl2⟩, ho2, hc2, n2, hd2⟩ := id p2
  simp only at hc hd hc2 hd2
  subst hc hd hc2 hd2
  have e : iyts.toArray ++ its2.toArray = (iyts ++ its2).toArray := by simp
  by_cases hx : xs = []
  · subst hx
    cases ry1
    exact iconcat_meets ⟨_, ho, rfl⟩ ⟨_, ho2, rfl⟩ no_iadd_tup noFill_tuple_add seq_tuple_add PySem.F.slot_tuple_add PySem.F.entry_tuple_add (PySem.F.args_tuple_add_2 _ _)
      (tuple_addW0 a b ([] : List Value).toArray its2.toArray n n2 dd dd2 sl sl2 (by simp)) ⟨ho, ho2, .ref b, H, I, rfl, q0 rfl⟩
  · have hv : iyts ≠ [] := fun z => hx (ry1.nil_iff.mp z)
    by_cases hw : ys = []
    · have hw2 : its2 = [] := r2.nil_iff.mpr hw
      exact iconcat_meets ⟨_, ho, rfl⟩ ⟨_, ho2, rfl⟩ no_iadd_tup noFill_tuple_add seq_tuple_add PySem.F.slot_tuple_add PySem.F.entry_tuple_add (PySem.F.args_tuple_add_2 _ _)
        (tuple_addW1 a b iyts.toArray its2.toArray n n2 dd dd2 sl sl2 (by simpa using hv) (by simp [hw2])) ⟨ho, ho2, .ref a, H, I, rfl, qy1 hx hw⟩
    · have hw2 : its2 ≠ [] := fun z => hw (r2.nil_iff.mp z)
      refine iconcat_meets ⟨_, ho, rfl⟩ ⟨_, ho2, rfl⟩ no_iadd_tup noFill_tuple_add seq_tuple_add PySem.F.slot_tuple_add PySem.F.entry_tuple_add (PySem.F.args_tuple_add_2 _ _)
        (tuple_addW2 a b iyts.toArray its2.toArray n n2 dd dd2 sl sl2 (by simpa using hv) (by simpa using hw2) (by rw [List.size_toArray, List.size_toArray, ← ry1.length, ← r2.length]; exact hz)) ⟨ho, ho2, ?_⟩
      rw [e]
      refine ⟨.ref s.heap.objs.size, _, I.laid (t' := s.toks) (o := .tup (xs ++ ys)) (fun b ob q => Heap.get?_push_of_some _ q) (Nat.le_refl _) ?_, rfl, q2 hx hw _ (I.hok.fresh (Nat.le_refl _))⟩
      exact ⟨by rw [List.length_append]; exact hz, _, ry1.append r2, IsTup.new _ _⟩
theorem pget_list : PGet X (rIxL X.K) := by
  intro pyins s σ H x y v u Q I rx ry h
  obtain ⟨p, xs, i, z, rfl, rfl, hyq, he, q⟩ := h
  cases rx
  obtain ⟨t, rfl⟩ := ry
  obtain ⟨iyts, r, pl, hz⟩ := I.list hyq
  obtain ⟨j, hy1, hy2, h3, h4, h5⟩ := atI_get he
  obtain ⟨w, ew, rw'⟩ := r.get hy2
  have hl := r.length
  have hn := line63
  have fin : EP X pyins σ Q w s := ⟨z, H, I, rw', q⟩
  by_cases h0 : 0 ≤ i
  · have hj : i.toNat = j := by
      rw [seqIndex_of h0 h5] at hy1
      exact Option.some.inj hy1
    exact wpAny_getItem_list pl.isList h0 (by omega) (by rw [hj]; simpa using ew) fin
  · have hj : (i + (iyts.toArray.size : Int)).toNat = j := by
      rw [seqIndex_neg (by omega) h4] at hy1
      rw [List.size_toArray, ← hl]
      exact Option.some.inj hy1
    exact wpAny_getItem_list_neg pl.isList (by omega) (by rw [List.size_toArray] <;> omega) (by omega) (by rw [hj]; simpa using ew) fin
end
end Mc
/-! Mc7: list(zip(a, b, c)) of three lists of one length: the tuples that are handed out stay out. -/
namespace Mc
open PySem L2 PyProof.Rows
theorem nn {a b : Nat} (h : a ≠ b) : @Ne Addr a b := h
theorem nl {a b : Nat} (h : a < b) : @LT.lt Addr _ a b := h
local macro_rules | `(tactic| walk_at "om") => `(tactic| first | omega | (refine nn ?_; omega) | (refine nl ?_; omega))
section
variable {w : World} {prog : Program} {A : Around} {E : Value → Shared → Prop} {s : Shared}
/-- N: where the iterators begin; the list that is filled stands at N + 6 -/
structure Zs3 (N l1 l2 l3 : Nat) (xs ys zs : Array Value) (i : Nat) (h : Heap) : Prop where
  TI : IsTupOf3 h (N + 3) (.ref N) (.ref (N + 1)) (.ref (N + 2))
  h1 : h.IsListIter N l1 i
  h2 : h.IsListIter (N + 1) l2 i
  h3 : h.IsListIter (N + 2) l3 i
  L1 : h.IsList l1 xs
  L2 : h.IsList l2 ys
  L3 : h.IsList l3 zs
  z : (IsZip h (N + 5) (N + 3) (N + 4) .none ∧ ∃ a b c, IsTupOf3 h (N + 4) a b c) ∨ ∃ (T : Nat) (f : Bool) (oT : Obj), IsZipHeld h (N + 5) (N + 3) (N + 4) T f ∧ h.get? T = some oT ∧ N + 6 < T
theorem Zs3.keep {N l1 l2 l3 : Nat} {xs ys zs : Array Value} {i : Nat} {h h' : Heap} (x : Zs3 N l1 l2 l3 xs ys zs i h) (b1 : l1 < N) (b2 : l2 < N) (b3 : l3 < N) (k : ∀ (b : Nat) o, b ≠ N + 6 → h.get? b = some o → h'.get? b = some o) : Zs3 N l1 l2 l3 xs ys zs i h' where
  TI := k _ _ (by walk_at "om") x.TI
  h1 := x.h1.at fun o e => k _ _ (by walk_at "om") e
  h2 := x.h2.at fun o e => k _ _ (by walk_at "om") e
  h3 := x.h3.at fun o e => k _ _ (by walk_at "om") e
  L1 := x.L1.at fun o e => k _ _ (by walk_at "om") e
  L2 := x.L2.at fun o e => k _ _ (by walk_at "om") e
  L3 := x.L3.at fun o e => k _ _ (by walk_at "om") e
  z := by
    rcases x.z with ⟨hz, a, b, c, hyT⟩ | ⟨T, f, oT, hz, hyT, hl⟩
    · exact .inl ⟨k _ _ (by walk_at "om") hz, a, b, c, k _ _ (by walk_at "om") hyT⟩
    · exact .inr ⟨T, f, oT, k _ _ (by walk_at "om") hz, k _ _ (by walk_at "om") hyT, hl⟩
theorem zip3_item_held {N l1 l2 l3 : Nat} {xs ys zs : Array Value} {i : Nat} {x y u : Value} {T : Nat} {f : Bool} {oT : Obj} {Q : Value → Shared → Prop} (Zs : Zs3 N l1 l2 l3 xs ys zs i s.heap) (b1 : l1 < N) (b2 : l2 < N) (b3 : l3 < N)
    (hz : IsZipHeld s.heap (N + 5) (N + 3) (N + 4) T f) (hyT : s.heap.get? T = some oT) (hx : xs[i]? = some x) (hy : ys[i]? = some y) (hu : zs[i]? = some u)
    (hQ : ∀ h', IsZipHeld h' (N + 5) (N + 3) (N + 4) T true → h'.IsListIter N l1 (i + 1) → h'.IsListIter (N + 1) l2 (i + 1) → h'.IsListIter (N + 2) l3 (i + 1) → IsTupOf3 h' s.heap.objs.size x y u → h'.objs.size = s.heap.objs.size + 1 →
      (∀ (c : Nat) o, c ≠ N + 5 → c ≠ N → c ≠ N + 1 → c ≠ N + 2 → s.heap.get? c = some o → h'.get? c = some o) → Q (.ref s.heap.objs.size) { s with heap := h' }) :
    wpAny (model prog w) A (Builtin.«zip.__next__» ⟨[.ref (N + 5)], []⟩) (fun fin s' => ∃ v, fin = .done (.ret v) ∧ Q v s') E s := by
  show wpAny _ _ (field (.ref (N + 5)) 2 >>= _) _ _ _
  refine wpAny_bind (wpAny_field hz rfl (x := .bool false) rfl ?_); show wpAny _ _ (field (.ref (N + 5)) 3 >>= _) _ _ _
  refine wpAny_bind (wpAny_field hz rfl (x := .ref (N + 3)) rfl ?_)
  refine wpAny_bind (wpAny_seqItems Zs.TI rfl ?_)
  show wpAny _ _ (Builtin.SmallTypes.ownedTupleIsFree (.ref (N + 5)) >>= _) _ _ _
  refine wpAny_bind (wpAny_tupleHeld_zip hz hyT fun h₁ hyz₁ hs₁ => ?_)
  simp only [Bool.false_eq_true, if_false]; refine wpAny_bind ?_
  rw [← Array.forIn_toList]
  simp only [List.forIn_cons, List.forIn_nil]; refine wpAny_bind (wpAny_bind (wpAny_holding ?_))
  show wpAny _ _ (Builtin.SmallTypes.nextOf (.ref N) >>= _) _ _ _
  refine wpAny_bind (wpAny_nextOf_list_item (s := { s with heap := h₁ }) (Zs.h1.extBut hs₁.extBut (by walk_at "om")) (Zs.L1.extBut hs₁.extBut (by walk_at "om")) hx fun h₂ h1₂ hs₂ => wpAny_pure ?_)
  refine wpAny_pure ?_
  refine wpAny_bind (wpAny_bind (wpAny_holding ?_)); show wpAny _ _ (Builtin.SmallTypes.nextOf (.ref (N + 1)) >>= _) _ _ _
  refine wpAny_bind (wpAny_nextOf_list_item (s := { s with heap := h₂ }) ((Zs.h2.extBut hs₁.extBut (by walk_at "om")).extBut hs₂.extBut (by walk_at "om")) ((Zs.L2.extBut hs₁.extBut (by walk_at "om")).extBut hs₂.extBut (by walk_at "om")) hy fun h₃ h2₃ hs₃ => wpAny_pure ?_)
  refine wpAny_pure ?_
  refine wpAny_bind (wpAny_bind (wpAny_holding ?_)); show wpAny _ _ (Builtin.SmallTypes.nextOf (.ref (N + 2)) >>= _) _ _ _
  refine wpAny_bind (wpAny_nextOf_list_item (s := { s with heap := h₃ }) (((Zs.h3.extBut hs₁.extBut (by walk_at "om")).extBut hs₂.extBut (by walk_at "om")).extBut hs₃.extBut (by walk_at "om")) (((Zs.L3.extBut hs₁.extBut (by walk_at "om")).extBut hs₂.extBut (by walk_at "om")).extBut hs₃.extBut (by walk_at "om")) hu fun h₄ h3₄ hs₄ => wpAny_pure ?_)
  refine wpAny_pure (wpAny_pure ?_); show wpAny _ _ (newTuple [x, y, u] >>= _) _ _ _
  refine wpAny_bind (wpAny_newTuple ?_); have hsz : h₄.objs.size = s.heap.objs.size := by rw [hs₄.1, hs₃.1, hs₂.1, hs₁.1]
  have hz₄ : IsZipHeld h₄ (N + 5) (N + 3) (N + 4) T true := hs₄.extBut _ _ (by walk_at "om") (hs₃.extBut _ _ (by walk_at "om") (hs₂.extBut _ _ (by walk_at "om") hyz₁))
  have hk : ∀ c o, c ≠ N + 5 → c ≠ N → c ≠ N + 1 → c ≠ N + 2 → s.heap.get? c = some o → h₄.get? c = some o := fun c o c1 c2 c3 c4 e => hs₄.extBut _ _ c4 (hs₃.extBut _ _ c3 (hs₂.extBut _ _ c2 (hs₁.extBut _ _ c1 e)))
  have h1₄ : h₄.IsListIter N l1 (i + 1) := (h1₂.extBut hs₃.extBut (by walk_at "om")).extBut hs₄.extBut (by walk_at "om")
  have h2₄ : h₄.IsListIter (N + 1) l2 (i + 1) := h2₃.extBut hs₄.extBut (by walk_at "om")
  refine wpAny_pure ⟨_, rfl, ?_⟩; show Q (.ref h₄.objs.size) _
  have hp : IsTupOf3 (h₄.push { cls := .type "tuple", data := .seq #[x, y, u] }) h₄.objs.size x y u := Heap.get?_push_size _ rfl
  have hz4 : (h₄.push { cls := .type "tuple", data := .seq #[x, y, u] }).objs.size = h₄.objs.size + 1 := Heap.size_push ..
  rw [hsz] at hp hz4 ⊢
  exact hQ _ (Heap.get?_push_of_some _ hz₄) (h1₄.at fun o e => Heap.get?_push_of_some _ e) (h2₄.at fun o e => Heap.get?_push_of_some _ e) (h3₄.at fun o e => Heap.get?_push_of_some _ e) hp hz4 fun c o c1 c2 c3 c4 e => Heap.get?_push_of_some _ (hk c o c1 c2 c3 c4 e)
theorem zip3_end_held {N l1 l2 l3 : Nat} {xs ys zs : Array Value} {i : Nat} {T : Nat} {f : Bool} {oT : Obj} {Q : PySem.Fin → Shared → Prop} (hh : A.handled = none) (Zs : Zs3 N l1 l2 l3 xs ys zs i s.heap) (b1 : l1 < N)
    (hz : IsZipHeld s.heap (N + 5) (N + 3) (N + 4) T f) (hyT : s.heap.get? T = some oT) (hend : xs[i]? = none)
    (hE : ∀ h' e, (∀ (c : Nat) o, c ≠ N + 5 → c ≠ N → s.heap.get? c = some o → h'.get? c = some o) → (∃ o, h'.get? e = some o ∧ o.cls = .type "StopIteration") → E (.ref e) { s with heap := h' }) :
    wpAny (model prog w) A (Builtin.«zip.__next__» ⟨[.ref (N + 5)], []⟩) Q E s := by
  show wpAny _ _ (field (.ref (N + 5)) 2 >>= _) _ _ _
  refine wpAny_bind (wpAny_field hz rfl (x := .bool false) rfl ?_); show wpAny _ _ (field (.ref (N + 5)) 3 >>= _) _ _ _
  refine wpAny_bind (wpAny_field hz rfl (x := .ref (N + 3)) rfl ?_)
  refine wpAny_bind (wpAny_seqItems Zs.TI rfl ?_)
  show wpAny _ _ (Builtin.SmallTypes.ownedTupleIsFree (.ref (N + 5)) >>= _) _ _ _
  refine wpAny_bind (wpAny_tupleHeld_zip hz hyT fun h₁ hyz₁ hs₁ => ?_)
  simp only [Bool.false_eq_true, if_false]; refine wpAny_bind ?_
  rw [← Array.forIn_toList]
  simp only [List.forIn_cons, List.forIn_nil]; refine wpAny_bind (wpAny_bind (wpAny_holding ?_))
  show wpAny _ _ (Builtin.SmallTypes.nextOf (.ref N) >>= _) _ _ _
  refine wpAny_bind (wpAny_nextOf_list_end (s := { s with heap := h₁ }) hh (Zs.h1.extBut hs₁.extBut (by walk_at "om")) (Zs.L1.extBut hs₁.extBut (by walk_at "om")) hend fun h₂ e hs₂ he => ?_)
  exact hE h₂ e (fun c o c1 c2 x => hs₂ _ _ c2 (hs₁.extBut _ _ c1 x)) he
/-- the next, whichever way -/
theorem nxt3 {N l1 l2 l3 : Nat} {xs ys zs : Array Value} {i : Nat} {x y u : Value} {Q : Option Value → Shared → Prop} (hh : A.handled = none) (Zs : Zs3 N l1 l2 l3 xs ys zs i s.heap) (b1 : l1 < N) (b2 : l2 < N) (b3 : l3 < N) (hN : N + 6 < s.heap.objs.size)
    (hx : xs[i]? = some x) (hy : ys[i]? = some y) (hu : zs[i]? = some u)
    (hQ : ∀ h' tk, Zs3 N l1 l2 l3 xs ys zs (i + 1) h' → IsTupOf3 h' s.heap.objs.size x y u → h'.objs.size = s.heap.objs.size + 1 → (∀ (c : Nat) o, (c < N ∨ N + 6 ≤ c) → s.heap.get? c = some o → h'.get? c = some o) → Q (some (.ref s.heap.objs.size)) { s with heap := h', toks := tk }) :
    wpAny (model prog w) A (pyNext (.ref (N + 5))) Q E s := by
  rcases Zs.z with ⟨hz, a, b, c, hTO⟩ | ⟨T, f, oT, hz, hyT, hl⟩
  · have hx1 := (Array.getElem?_eq_some_iff.mp hx).1
    have hy1 := (Array.getElem?_eq_some_iff.mp hy).1
    have hu1 := (Array.getElem?_eq_some_iff.mp hu).1
    refine wpAny_pyNext_zipD3_item (sep3 b1 b2 b3) (Draws.list (A := A.in1) hh N l1 (by walk_at "om") xs) (Draws.list (A := A.in1) hh (N + 1) l2 (by walk_at "om") ys) (Draws.list (A := A.in1) hh (N + 2) l3 (by walk_at "om") zs) hz Zs.TI hTO ⟨Zs.h1, Zs.L1⟩ ⟨Zs.h2, Zs.L2⟩ ⟨Zs.h3, Zs.L3⟩ hx1 hy1 hu1 fun x1 x2 x3 h' tk e1 e2 e3 hz' hTO' s1 s2 s3 hT' hsz hk => ?_
    rw [hx] at e1; rw [hy] at e2; rw [hu] at e3
    cases e1; cases e2; cases e3
    refine hQ h' tk ⟨hk _ _ (by walk_at "om") (by walk_at "om") (by walk_at "om") (by walk_at "om") (by walk_at "om") Zs.TI, s1.1, s2.1, s3.1, s1.2, s2.2, s3.2, .inr ⟨s.heap.objs.size, false, _, hz', hT', hN⟩⟩ hT' hsz fun c o hc e => hk c o (by walk_at "om") (by walk_at "om") (by walk_at "om") (by walk_at "om") (by walk_at "om") e
  · have hyTy : s.TypeIs (.ref (N + 5)) "zip" := ⟨_, hz, rfl⟩
    unfold pyNext
    refine wpAny_bind (wpAny_attempt (wpAny_callSpecial?_slot (name := Str.ofString "__next__") hyTy F.slot_zip_next
      (wpAny_call_entry F.slot_zip_next hyTy F.entry_zip_next
        (zip3_item_held Zs b1 b2 b3 hz hyT hx hy hu fun h' a1 a2 a3 a4 a5 a6 hk => wpAny_pure ?_) (F.args_zip_next_1 _))))
    refine hQ h' s.toks ⟨hk _ _ (by walk_at "om") (by walk_at "om") (by walk_at "om") (by walk_at "om") Zs.TI, a2, a3, a4, Zs.L1.at fun o e => hk _ o (by walk_at "om") (by walk_at "om") (by walk_at "om") (by walk_at "om") e, Zs.L2.at fun o e => hk _ o (by walk_at "om") (by walk_at "om") (by walk_at "om") (by walk_at "om") e, Zs.L3.at fun o e => hk _ o (by walk_at "om") (by walk_at "om") (by walk_at "om") (by walk_at "om") e,
      .inr ⟨T, true, oT, a1, hk _ _ (by walk_at "om") (by walk_at "om") (by walk_at "om") (by walk_at "om") hyT, hl⟩⟩ a5 a6 fun c o hc e => hk c o (by walk_at "om") (by walk_at "om") (by walk_at "om") (by walk_at "om") e
theorem fin3 {N l1 l2 l3 : Nat} {xs ys zs : Array Value} {i : Nat} {Q : Option Value → Shared → Prop} (hh : A.handled = none) (Zs : Zs3 N l1 l2 l3 xs ys zs i s.heap) (b1 : l1 < N) (b2 : l2 < N) (b3 : l3 < N) (hx : i = xs.size) (hy : xs.size ≤ ys.size) (hu : xs.size ≤ zs.size)
    (hQ : ∀ h' tk, (∀ (c : Nat) o, (c < N ∨ N + 6 ≤ c) → s.heap.get? c = some o → h'.get? c = some o) → Q none { s with heap := h', toks := tk }) :
    wpAny (model prog w) A (pyNext (.ref (N + 5))) Q E s := by
  rcases Zs.z with ⟨hz, a, b, c, hTO⟩ | ⟨T, f, oT, hz, hyT, hl⟩
  · exact wpAny_pyNext_zipD3_end (sep3 b1 b2 b3) (Draws.list (A := A.in1) hh N l1 (by walk_at "om") xs) (Draws.list (A := A.in1) hh (N + 1) l2 (by walk_at "om") ys) (Draws.list (A := A.in1) hh (N + 2) l3 (by walk_at "om") zs) hz Zs.TI hTO ⟨Zs.h1, Zs.L1⟩ ⟨Zs.h2, Zs.L2⟩ ⟨Zs.h3, Zs.L3⟩ (by walk_at "om") (by walk_at "om") (by walk_at "om") (.inl hx) fun h' tk hk => hQ h' tk fun c o hc e => hk c o (by walk_at "om") (by walk_at "om") (by walk_at "om") (by walk_at "om") (by walk_at "om") e
  · have hyTy : s.TypeIs (.ref (N + 5)) "zip" := ⟨_, hz, rfl⟩
    unfold pyNext
    refine wpAny_bind (wpAny_attempt (wpAny_callSpecial?_slot (name := Str.ofString "__next__") hyTy F.slot_zip_next
      (wpAny_call_entry F.slot_zip_next hyTy F.entry_zip_next (zip3_end_held (A := A.in1) hh Zs b1 hz hyT (Array.getElem?_eq_none (by walk_at "om")) fun h' e hk he => ?_) (F.args_zip_next_1 _))))
    obtain ⟨o, hyo, hc⟩ := he
    refine wpAny_bind (wpAny_isInstance (T := "StopIteration") (b := true) ⟨o, hyo, hc⟩ isSubtype_stop ?_)
    exact wpAny_pure (hQ _ s.toks fun c o hc e => hk c o (by walk_at "om") (by walk_at "om") e)
/-- the tuples that were handed out -/
structure Made3 (xs ys zs : Array Value) (lo : Nat) (h : Heap) (as : List Nat) : Prop where
  rise : as.Pairwise (· < ·)
  above : ∀ a ∈ as, lo < a ∧ a < h.objs.size
  trip : ∀ (j : Nat) (a : Nat), as[j]? = some a → ∃ x y z, xs[j]? = some x ∧ ys[j]? = some y ∧ zs[j]? = some z ∧ IsTupOf3 h a x y z
end
section
variable {prog : Program} {w : World} {A : Around} {s : Shared} {R : Result → Shared → Prop} {N l1 l2 l3 : Nat} {xs ys zs : Array Value}
theorem loop3 (hh : A.handled = none) (b1 : l1 < N) (b2 : l2 < N) (b3 : l3 < N) (hy : xs.size ≤ ys.size) (hu : xs.size ≤ zs.size) (hn : xs.size ≤ sizeLine) (res : Value) {h₁ : Heap}
    (hR : ∀ h' tk acc c as, (∀ (b : Nat) o, b < N → h₁.get? b = some o → h'.get? b = some o) → h'.get? (N + 6) = some { cls := .type "list", dict := none, data := .seq acc c, slots := #[] } → as.length = xs.size → Made3 xs ys zs (N + 6) h' as → acc.toList = as.map Value.ref → R (.ok (.ret res)) { s with heap := h', toks := tk }) :
    ∀ (k i : Nat) (h : Heap) (tk c : Nat) (acc : Array Value) (as : List Nat), xs.size - i = k → i ≤ xs.size → Zs3 N l1 l2 l3 xs ys zs i h → (∀ (b : Nat) o, b < N → h₁.get? b = some o → h.get? b = some o) →
      h.get? (N + 6) = some { cls := .type "list", dict := none, data := .seq acc c, slots := #[] } → acc.toList = as.map Value.ref → as.length = i → Made3 xs ys zs (N + 6) h as → N + 6 < h.objs.size →
      codeAny (model prog w) A (.builtin "list.extend.loop" ⟨[.ref (N + 6), .ref (N + 5), res], []⟩) R { s with heap := h, toks := tk } := by
  intro k
  induction k with
  | zero =>
    intro i h tk c acc as hk hi hst hkeep hyS hyacc hal hyG hIs
    refine codeAny_builtin F.entry_extend_loop ?_; rw [Around.under_plainId F.plain_extend_loop _]
    show wpAny _ A.in1 (pyNext (.ref (N + 5)) >>= _) _ _ _
    refine wpAny_bind (fin3 (s := { s with heap := h, toks := tk }) (A := A.in1) hh hst b1 b2 b3 (by walk_at "om") hy hu fun h' tk' he => ?_)
    refine wpAny_pure (hR h' tk' acc c as (fun b o hyb e => he b o (.inl hyb) (hkeep b o hyb e)) (he _ _ (.inr (Nat.le_refl _)) hyS) (by walk_at "om") ⟨hyG.rise, fun a hya => ⟨(hyG.above a hya).1, ?_⟩, fun j a hyj => ?_⟩ hyacc)
    · obtain ⟨j, hyj⟩ := List.getElem?_of_mem hya
      obtain ⟨x, y, z, _, _, _, e⟩ := hyG.trip j a hyj
      exact Heap.lt_size (he a _ (.inr (Nat.le_of_lt (hyG.above a hya).1)) e)
    · obtain ⟨x, y, z, e1, e2, e3, e⟩ := hyG.trip j a hyj
      exact ⟨x, y, z, e1, e2, e3, he a _ (.inr (Nat.le_of_lt (hyG.above a (List.mem_of_getElem? hyj)).1)) e⟩
  | succ k ih =>
    intro i h tk c acc as hk hi hst hkeep hyS hyacc hal hyG hIs
    have hlt : i < xs.size := by omega
    have hsz : acc.size = i := by rw [← Array.length_toList, hyacc, List.length_map, hal]
    have ex : xs[i]? = some xs[i] := Array.getElem?_eq_getElem hlt
    have ey : ys[i]? = some (ys[i]'(by walk_at "om")) := Array.getElem?_eq_getElem (by walk_at "om")
    have ez : zs[i]? = some (zs[i]'(by walk_at "om")) := Array.getElem?_eq_getElem (by walk_at "om")
    refine codeAny_builtin F.entry_extend_loop ?_; rw [Around.under_plainId F.plain_extend_loop _]
    show wpAny _ A.in1 (pyNext (.ref (N + 5)) >>= _) _ _ _
    refine wpAny_bind (nxt3 (s := { s with heap := h, toks := tk }) (A := A.in1) hh hst b1 b2 b3 hIs ex ey ez fun h' tk' hst' ht hz hkp => ?_)
    dsimp only at ht hz hkp ⊢
    have hS' := hkp (N + 6) _ (.inr (Nat.le_refl _)) hyS
    have up : ∀ (b : Nat) o, b ≠ N + 6 → h'.get? b = some o → (h'.update (N + 6) (Obj.mapSeq (·.push (Value.ref h.objs.size)))).get? b = some o := fun b o hyb e => (Heap.get?_update_other _ _ (Ne.symm hyb)).trans e
    show wpAny _ A.in1 (updateSeq (N + 6) (·.push (Value.ref h.objs.size)) >>= _) _ _ _
    refine wpAny_bind ?_
    refine wpAny_updateSeq hS' rfl (wpAny_pure ⟨plainId_quiet F.plain_extend_loop _, ih (i + 1) _ tk' _ (acc.push (Value.ref h.objs.size)) (as ++ [h.objs.size]) (by walk_at "om") hlt (hst'.keep b1 b2 b3 up)
      (fun b o hyb e => up b o (by walk_at "om") (hkp b o (.inl hyb) (hkeep b o hyb e))) (Heap.get?_update_self _ hS' rfl) (by rw [Array.toList_push, hyacc, List.map_append]; rfl) (by rw [List.length_append, hal]; rfl) ⟨?_, ?_, ?_⟩ ?_⟩) (by rw [hsz]; omega) (by show (acc.push (Value.ref h.objs.size)).size ≤ sizeLine + 1; rw [Array.size_push, hsz]; omega)
    · refine List.pairwise_append.mpr ⟨hyG.rise, List.pairwise_singleton _ _, fun a hya b hyb => ?_⟩
      rw [List.mem_singleton.mp hyb]
      exact (hyG.above a hya).2
    · intro a hya
      rw [Heap.size_update, hz]
      rcases List.mem_append.mp hya with hya | hya
      · exact ⟨(hyG.above a hya).1, Nat.lt_succ_of_lt (hyG.above a hya).2⟩
      · rw [List.mem_singleton.mp hya]; exact ⟨hIs, Nat.lt_succ_self _⟩
    · intro j b hyj
      obtain h1 | h1 | h1 := Nat.lt_trichotomy j as.length
      · rw [List.getElem?_append_left h1] at hyj
        obtain ⟨x, y, z, e1, e2, e3, e⟩ := hyG.trip j b hyj
        have hyb := (hyG.above b (List.mem_of_getElem? hyj)).1
        exact ⟨x, y, z, e1, e2, e3, up b _ (by walk_at "om") (hkp b _ (.inr (Nat.le_of_lt hyb)) e)⟩
      · subst h1
        have hyb : h.objs.size = b := by simpa using hyj
        subst hyb
        subst hal
        exact ⟨_, _, _, ex, ey, ez, up _ _ (by walk_at "om") ht⟩
      · have hynone : (as ++ [h.objs.size])[j]? = none := List.getElem?_eq_none (by rw [List.length_append, List.length_singleton]; omega)
        rw [hynone] at hyj; cases hyj
    · rw [Heap.size_update, hz]; omega
end

theorem zip_no_len : typeLookup (.type "zip") "__len__" = pure none := by rw [typeLookup_type, builtinLookup_eq_fast]; kernel_rfl
theorem zip_no_hint : typeLookup (.type "zip") "__length_hint__" = pure none := by rw [typeLookup_type, builtinLookup_eq_fast]; kernel_rfl
section
variable {prog : Program} {w : World} {A : Around} {s : Shared} {R : Result → Shared → Prop} {N l1 l2 l3 : Nat} {xs ys zs : Array Value}
theorem Zs3.typ {i : Nat} {h : Heap} (x : Zs3 N l1 l2 l3 xs ys zs i h) : ∃ o, h.get? (N + 5) = some o ∧ o.cls = .type "zip" := by
  rcases x.z with ⟨hz, _⟩ | ⟨T, f, oT, hz, _⟩
  · exact ⟨_, hz, rfl⟩
  · exact ⟨_, hz, rfl⟩
theorem ext3 (hh : A.handled = none) (b1 : l1 < N) (b2 : l2 < N) (b3 : l3 < N) (hy : xs.size ≤ ys.size) (hu : xs.size ≤ zs.size) (hn : xs.size ≤ sizeLine) (res : Value) {h₁ : Heap} {tk c₀ : Nat} (hst : Zs3 N l1 l2 l3 xs ys zs 0 h₁) (hz0 : IsZip h₁ (N + 5) (N + 3) (N + 4) .none) (hI : N + 6 < h₁.objs.size)
    (hyS : h₁.get? (N + 6) = some { cls := .type "list", data := .seq #[] c₀ })
    (hR : ∀ h' tk acc c as, (∀ (b : Nat) o, b < N → h₁.get? b = some o → h'.get? b = some o) → h'.get? (N + 6) = some { cls := .type "list", dict := none, data := .seq acc c, slots := #[] } → as.length = xs.size → Made3 xs ys zs (N + 6) h' as → acc.toList = as.map Value.ref → R (.ok (.ret res)) { s with heap := h', toks := tk }) :
    wpAny (model prog w) A.in1 (Builtin.List.listExtendWith (.ref (N + 6)) (.ref (N + 5)) res)
      (fun fin s' => match fin with | .done f => R (.ok f) s' | .again c' => c'.quiet = true ∧ codeAny (model prog w) A c' R s') (fun e s' => R (.error e) s') { s with heap := h₁, toks := tk } := by
  have hyT : ({ s with heap := h₁, toks := tk } : Shared).TypeIs (.ref (N + 5)) "zip" := hst.typ
  unfold Builtin.List.listExtendWith; refine wpAny_bind (wpAny_typeOf hyT ?_)
  have h1 : Builtin.List.listSameRef (.ref (N + 6)) (.ref (N + 5)) = false := by simp [Builtin.List.listSameRef]
  have h2 : (Value.type "zip" == Value.type "list") = false := by decide
  have h3 : (Value.type "zip" == Value.type "tuple") = false := by decide
  simp only [h1, h2, h3, Bool.or_false, Bool.false_eq_true, if_false]; refine wpAny_bind (wpAny_pyIter_zip hz0 ?_)
  refine wpAny_bind (wpAny_holding ?_); unfold Builtin.List.listLengthHint
  refine wpAny_bind (wpAny_specialOf hyT zip_no_len ?_)
  show wpAny _ A.in1 (specialOf (Value.ref (N + 5)) (Str.ofString "__length_hint__") >>= _) _ _ _
  refine wpAny_bind (wpAny_specialOf hyT zip_no_hint ?_)
  refine wpAny_pure ?_
  show wpAny _ A.in1 (rule "list.extend.makes-room" >>= fun _ => Builtin.List.listTouch (.ref (N + 6)) >>= fun _ =>
    again (.builtin "list.extend.loop" ⟨[.ref (N + 6), .ref (N + 5), res], []⟩)) _ _ _
  refine wpAny_bind (wpAny_rule ?_); refine wpAny_bind ?_
  show wpAny _ A.in1 (updateSeq (N + 6) (·.push .none) >>= fun _ => updateSeq (N + 6) (·.pop)) _ _ _
  refine wpAny_bind (wpAny_updateSeq hyS rfl ?_)
  have hyS₂ := Heap.get?_update_self (Obj.mapSeq (·.push Value.none)) hyS rfl
  refine wpAny_updateSeq (hz := by seq_fits) hyS₂ rfl ?_
  have hS₃ := Heap.get?_update_self (Obj.mapSeq (·.pop)) hyS₂ rfl
  have oth : ∀ (b : Nat) o, b ≠ N + 6 → h₁.get? b = some o → ((h₁.update (N + 6) (Obj.mapSeq (·.push Value.none))).update (N + 6) (Obj.mapSeq (·.pop))).get? b = some o :=
    fun b o hyb e => (Heap.get?_update_other _ _ (Ne.symm hyb)).trans ((Heap.get?_update_other _ _ (Ne.symm hyb)).trans e)
  refine wpAny_pure ⟨plainId_quiet F.plain_extend_loop _, loop3 (A := A) (s := s) (h₁ := ((h₁.update (N + 6) (Obj.mapSeq (·.push Value.none))).update (N + 6) (Obj.mapSeq (·.pop)))) hh b1 b2 b3 hy hu hn res (fun h' tk acc c as hk hS' hl hyG hyacc => hR h' tk acc c as (fun b o hyb e => hk b o hyb (oth b o (by omega) e)) hS' hl hyG hyacc) _ 0 _ _ _ _ [] rfl (Nat.zero_le _) (hst.keep b1 b2 b3 oth) (fun _ _ _ e => e) hS₃ rfl rfl ⟨List.Pairwise.nil, (fun a hya => by cases hya), (fun j a hyj => by simp at hyj)⟩ ?_⟩
  rw [Heap.size_update, Heap.size_update]; exact hI
end
section
variable {prog : Program} {w : World} {A : Around} {E : Value → Shared → Prop} {s : Shared} {N l1 l2 l3 : Nat} {xs ys zs : Array Value}
/-- list(z), z a zip that was just made -/
theorem call_list_zip3 {Q : Value → Shared → Prop} (hh : A.handled = none) (b1 : l1 < N) (b2 : l2 < N) (b3 : l3 < N) (hy : xs.size ≤ ys.size) (hu : xs.size ≤ zs.size) (hn : xs.size ≤ sizeLine) (hsz : s.heap.objs.size = N + 6) (hst : Zs3 N l1 l2 l3 xs ys zs 0 s.heap) (hz0 : IsZip s.heap (N + 5) (N + 3) (N + 4) .none)
    (hQ : ∀ h' tk acc c as, (∀ (b : Nat) o, b < N → s.heap.get? b = some o → h'.get? b = some o) → h'.get? (N + 6) = some { cls := .type "list", dict := none, data := .seq acc c, slots := #[] } → as.length = xs.size → Made3 xs ys zs (N + 6) h' as →
      acc.toList = as.map Value.ref → Q (.ref (N + 6)) { s with heap := h', toks := tk }) :
    wpAny (model prog w) A (call (.type "list") [.ref (N + 5)]) Q E s := by
  have eN : (.ref s.heap.objs.size : Value) = .ref (N + 6) := congrArg Value.ref hsz
  refine callType_codes (Q₁ := fun obj s₁ => obj = .ref s.heap.objs.size ∧ s₁ = { s with heap := s.heap.push { cls := .type "list", data := .seq #[] } }) F.called_list (F.typeCall_list_1 _) F.entry_list_init (code_list_new _ ⟨rfl, rfl⟩) fun obj s₁ h₁ => ?_
  obtain ⟨rfl, rfl⟩ := h₁
  rw [eN]
  have hyS : (s.heap.push { cls := .type "list", data := .seq #[] }).get? (N + 6) = some { cls := .type "list", data := .seq #[] } := by
    have := Heap.get?_push_size (h := s.heap) (o := { cls := .type "list", data := .seq #[] }) rfl
    rw [hsz] at this
    exact this
  refine ⟨⟨_, hyS, rfl⟩, F.args_list_init_2 _ _, ?_⟩
  show wpAny _ A.in1.in1 (do let old ← Builtin.List.listItems (.ref (N + 6)); Builtin.List.listUpdate (.ref (N + 6)) (fun _ => #[]); letGo old.toList.reverse; Builtin.List.listExtendWith (.ref (N + 6)) (.ref (N + 5)) .none) _ _ _
  refine wpAny_bind ?_
  unfold Builtin.List.listItems
  refine wpAny_bind (wpAny_seqItems hyS rfl (wpAny_pure ?_))
  show wpAny _ A.in1.in1 (updateSeq (N + 6) (fun _ => #[]) >>= fun _ => letGo (#[] : Array Value).toList.reverse >>= fun _ => Builtin.List.listExtendWith (.ref (N + 6)) (.ref (N + 5)) .none) _ _ _
  refine wpAny_bind (wpAny_updateSeq hyS rfl ?_)
  have hyS₂ := Heap.get?_update_self (Obj.mapSeq (fun _ => (#[] : Array Value))) hyS rfl
  have oth : ∀ (b : Nat) o, b ≠ N + 6 → s.heap.get? b = some o → ((s.heap.push { cls := .type "list", data := .seq #[] }).update (N + 6) (Obj.mapSeq (fun _ => (#[] : Array Value)))).get? b = some o :=
    fun b o hyb e => (Heap.get?_update_other _ _ (Ne.symm hyb)).trans (Heap.get?_push_of_some _ e)
  refine wpAny_bind (wpAny_letGo ?_); refine ext3 (A := A.in1) (s := s) hh b1 b2 b3 hy hu hn .none (hst.keep b1 b2 b3 oth) (oth _ _ (by omega) hz0) (by rw [Heap.size_update, Heap.size_push, hsz]; omega) hyS₂ fun h' tk acc c as hk hS' hl hyG hyacc => ?_
  exact ⟨rfl, hQ h' tk acc c as (fun b o hyb e => hk b o hyb (oth b o (by omega) e)) hS' hl hyG hyacc⟩
end
/-! ### the tuples told -/
def putL : Hp → List Addr → List (List V) → Hp
  | H, a :: as, p :: ps => putL (upd H a (.tup p)) as ps
  | H, _, _ => H
theorem putL_off {b : Addr} : ∀ (as : List Addr) (ps : List (List V)) (H : Hp), b ∉ as → putL H as ps b = H b
  | [], _, _, _ => rfl
  | _ :: _, [], _, _ => rfl
  | a :: as, p :: ps, H, h => by
    show putL (upd H a (.tup p)) as ps b = H b
    rw [putL_off as ps _ (fun z => h (List.mem_cons_of_mem _ z)), upd_ne (fun z => h (by rw [z]; exact List.mem_cons_self))]
theorem putL_at : ∀ (as : List Addr) (ps : List (List V)) (H : Hp), as.length = ps.length → as.Nodup → ∀ (j : Nat) (a : Addr), as[j]? = some a → ∃ p, ps[j]? = some p ∧ putL H as ps a = some (.tup p)
  | [], _, _, _, _, j, a, e => by simp at e
  | _ :: _, [], _, h, _, _, _, _ => by cases h
  | a :: as, p :: ps, H, h, hn, 0, b, e => by
    have e : a = b := by simpa using e
    subst e
    refine ⟨p, rfl, ?_⟩
    show putL (upd H a (.tup p)) as ps a = some (.tup p)
    rw [putL_off as ps _ (List.nodup_cons.mp hn).1, upd_same]
  | a :: as, p :: ps, H, h, hn, j + 1, b, e => by
    obtain ⟨q, e1, e2⟩ := putL_at as ps (upd H a (.tup p)) (Nat.succ.inj h) (List.nodup_cons.mp hn).2 j b (by simpa using e)
    exact ⟨q, by simpa using e1, e2⟩
def tListZip3 (K : PySem.W.Frag) (ta : TA) : TE := fun σ H Q => ta σ H fun vs H1 => ∃ (a b c : Addr) (xs ys zs : List V), vs = [.ref a, .ref b, .ref c] ∧ SqL K H1 a xs ∧ SqL K H1 b ys ∧ SqL K H1 c zs ∧ xs.length ≤ ys.length ∧ xs.length ≤ zs.length ∧
  ∀ (H' : Hp) (p : Addr) (ts : List Addr), (∀ b o, H1 b = some o → H' b = some o) → H1 p = none → (∀ t ∈ ts, H1 t = none) → p ∉ ts → H' p = some (.lst (ts.map V.ref)) → ts.length = xs.length →
    (∀ (j : Nat) (t : Addr), ts[j]? = some t → ∃ x y z, xs[j]? = some x ∧ ys[j]? = some y ∧ zs[j]? = some z ∧ H' t = some (.tup [x, y, z])) → Q (.ref p) H'
section
variable {X : Cx} {ta : TA}
theorem laid3 {pyins : List (Addr × Obj)} {σ : L2.St} {H : Hp} {s : Shared} {h' : Heap} {N tk c : Nat} {xs ys zs : List V} {us vs ws : List Value} {acc : Array Value} {as : List Nat} (I : Inv X pyins σ H s) (hN : s.heap.objs.size = N) (hz : xs.length ≤ sizeLine) (hy : xs.length ≤ ys.length) (hu : xs.length ≤ zs.length) (r1 : Vals xs us) (r2 : Vals ys vs) (r3 : Vals zs ws)
    (hk : ∀ (b : Nat) o, b < N → s.heap.get? b = some o → h'.get? b = some o) (hyS : h'.get? (N + 6) = some { cls := .type "list", dict := none, data := .seq acc c, slots := #[] }) (hl : as.length = xs.length) (hyG : Made3 us.toArray vs.toArray ws.toArray (N + 6) h' as) (hyacc : acc.toList = as.map Value.ref) :
    ∃ (H' : Hp), (∀ b o, H b = some o → H' b = some o) ∧ H (N + 6) = none ∧ (∀ t ∈ as, H t = none) ∧ (N + 6 : Nat) ∉ as ∧ H' (N + 6) = some (.lst (as.map V.ref)) ∧ (∀ (j : Nat) (t : Nat), as[j]? = some t → ∃ x y z, xs[j]? = some x ∧ ys[j]? = some y ∧ zs[j]? = some z ∧ H' t = some (.tup [x, y, z])) ∧ Inv X pyins σ H' { s with heap := h', toks := tk } := by
  have hSn : (N + 6 : Nat) ∉ as := fun z => Nat.lt_irrefl _ (hyG.above _ z).1
  have nd : as.Nodup := List.Pairwise.imp (fun {a b} (h : a < b) => Nat.ne_of_lt h) hyG.rise
  have new : ∀ t ∈ as, H t = none := fun t ht => I.hok.fresh (by have := (hyG.above t ht).1; exact Nat.le_trans (by omega) (Nat.le_of_lt this))
  have newS : H (N + 6) = none := I.hok.fresh (by rw [hN]; exact Nat.le_add_right _ _)
  have low : ∀ (b : Nat) o, s.heap.get? b = some o → b < N := fun b o e => by have := Heap.lt_size e; rw [hN] at this; exact this
  have hps : as.length = ((xs.zip (ys.zip zs)).map fun p => [p.1, p.2.1, p.2.2]).length := by
    rw [List.length_map, List.length_zip, List.length_zip, hl]; omega
  have atP := putL_at as ((xs.zip (ys.zip zs)).map fun p => [p.1, p.2.1, p.2.2]) (upd H (N + 6) (.lst (as.map V.ref))) hps nd
  have oyff : ∀ (b : Nat), b ∉ as → b ≠ N + 6 → putL (upd H (N + 6) (.lst (as.map V.ref))) as ((xs.zip (ys.zip zs)).map fun p => [p.1, p.2.1, p.2.2]) b = H b := fun b h1 h2 => by rw [putL_off as _ _ h1, upd_ne h2]
  have off2 : ∀ (b : Nat) o, s.heap.get? b = some o → b ∉ as ∧ b ≠ N + 6 := fun b o e => ⟨fun z => by have := (hyG.above b z).1; have := low b o e; omega, by have := low b o e; omega⟩
  have kp : ∀ b u, H b = some u → (putL (upd H (N + 6) (.lst (as.map V.ref))) as ((xs.zip (ys.zip zs)).map fun p => [p.1, p.2.1, p.2.2])) b = some u := fun b u e => by
    rw [oyff b (fun z => by rw [new b z] at e; cases e) (fun z => by rw [z, newS] at e; cases e)]
    exact e
  have eS : putL (upd H (N + 6) (.lst (as.map V.ref))) as ((xs.zip (ys.zip zs)).map fun p => [p.1, p.2.1, p.2.2]) (N + 6) = some (.lst (as.map V.ref)) := by rw [putL_off as _ _ hSn, upd_same]
  have trip : ∀ (j : Nat) (t : Nat), as[j]? = some t → ∃ x y z, xs[j]? = some x ∧ ys[j]? = some y ∧ zs[j]? = some z ∧ putL (upd H (N + 6) (.lst (as.map V.ref))) as ((xs.zip (ys.zip zs)).map fun p => [p.1, p.2.1, p.2.2]) t = some (.tup [x, y, z]) := fun j t e => by
    obtain ⟨p, e1, e2⟩ := atP j t e
    rw [List.getElem?_map] at e1
    cases h3 : (xs.zip (ys.zip zs))[j]? with
    | none => rw [h3] at e1; cases e1
    | some q =>
      rw [h3] at e1
      have e1 : [q.1, q.2.1, q.2.2] = p := by simpa using e1
      subst e1
      obtain ⟨z1, z2⟩ := List.getElem?_zip_eq_some.mp h3
      obtain ⟨z3, z4⟩ := List.getElem?_zip_eq_some.mp z2
      exact ⟨_, _, _, z1, z3, z4, e2⟩
  refine ⟨_, kp, newS, new, hSn, eS, trip, ?_⟩
  refine I.call' (ch := []) rfl ⟨fun b o q _ _ _ => hk b o (low b o q) q, fun b o q _ _ _ => ⟨o.slots, hk b o (low b o q) q⟩, fun b o q n _ => ?_, fun b o q _ => ⟨o, hk b o (low b o q) q⟩, fun b xs q => kp b _ q, fun b o u q => kp b _ q, fun b ps q => ⟨#[], by rw [kp b _ q]; simp⟩⟩ (fun b u q => ?_) I.bare fun b z => by simp at z
  · obtain ⟨z1, z2⟩ := off2 b o q
    rw [oyff b z1 z2]
    exact n
  · by_cases hyb : b ∈ as
    · obtain ⟨j, e1⟩ := List.getElem?_of_mem hyb
      obtain ⟨x, y, z, g1, g2, g3, e3⟩ := trip j b e1
      rw [e3] at q
      cases q
      obtain ⟨x', y', z', f1, f2, f3, f4⟩ := hyG.trip j b e1
      obtain ⟨x2, i1, i2⟩ := r1.get g1
      obtain ⟨y2, j1, j2⟩ := r2.get g2
      obtain ⟨z2, k1, k2⟩ := r3.get g3
      rw [List.getElem?_toArray] at f1 f2 f3
      rw [f1] at i1; rw [f2] at j1; rw [f3] at k1
      cases i1; cases j1; cases k1
      exact ⟨by show 3 ≤ sizeLine; decide, [x', y', z'], .cons i2 (.cons j2 (.cons k2 .nil)), ⟨_, f4, rfl, _, rfl⟩⟩
    · by_cases hb2 : b = N + 6
      · rw [hb2] at q ⊢
        rw [eS] at q
        cases q
        refine ⟨by rw [List.length_map]; omega, acc.toList, c, by rw [hyacc]; exact LiI.vals_refs as, ?_⟩
        rw [Array.toArray_toList]
        exact hyS
      · rw [oyff b hyb hb2] at q
        exact (I.hok b u q).stay (fun d v _ y => hk d v (low d v y) y) (fun d y => kp d _ y) fun d xs y => kp d _ y
/-- list(zip(a, b, c)) -/
theorem pe_listZip3 {e e2 e3 : Expr} {p p2 pos2 pos : Pos} (hc : X.calm = true) (hya : PA X [e, e2, e3] ta) (hg : Gl X "list") (hym : X.mg "list" = none) (hv : bootBuiltins "list" = some (.type "list")) (hg2 : Gl X "zip") (hm2 : X.mg "zip" = none)
    (hs2 : starEach [e, e2, e3] X.env = (false, eval e X.env) :: starEach [e2, e3] X.env := by rfl) (hpl2 : (backTo pos2 (starEach [e2, e3] X.env)).any (·.1) = false := by rfl)
    (hys : starEach [.Call (.Name "zip" p2) [e, e2, e3] [] pos2] X.env = (false, eval (.Call (.Name "zip" p2) [e, e2, e3] [] pos2) X.env) :: starEach [] X.env := by rfl) :
    PE X (.Call (.Name "list" p) [.Call (.Name "zip" p2) [e, e2, e3] [] pos2] [] pos) (tListZip3 X.K ta) := by
  refine ⟨fun pyins s σ H Q I hq => ?_⟩
  refine wpAny_Call_Name_kw (ld_blt I hg hym hv ?_)
  refine PyProof.Rows.callWith_type1 ?_ hys rfl
  rw [hys]
  show wpAny _ _ (spliced ((false, eval (.Call (.Name "zip" p2) [e, e2, e3] [] pos2) X.env) :: backTo pos (starEach [] X.env))) _ _ s
  refine Calls.spliced_cons ?_
  refine wpAny_Call_Name_kw (ld_blt I hg2 hm2 PyProof.Rows.boot_zip (PyProof.Rows.callWith_type1 (thn (hya.run pos2 pyins s σ H _ I hq) fun us s1 ⟨vs, H1, I1, r1, q1⟩ => ?_) hs2 hpl2))
  obtain ⟨a, b, c, xs, ys, zs, ex, g1, g2, g3, hy, hu, q⟩ := q1
  subst ex
  have hh := I1.ok.hd hc
  obtain ⟨us1, v1, L1, z1⟩ := I1.list g1
  obtain ⟨us2, v2, L2, z2⟩ := I1.list g2
  obtain ⟨us3, v3, L3, z3⟩ := I1.list g3
  cases r1 with
  | cons r rr => cases rr with
    | cons r' rr => cases rr with
      | cons r'' rr =>
        cases rr; cases r; cases r'; cases r''
        refine zip_begins3 (begins_list a us1.toArray) (begins_list b us2.toArray) (begins_list c us3.toArray) L1.isList L2.isList L3.isList fun h' hz hTI hTO y1 y2 y3 hsz hk => ?_
        refine Calls.spliced_nil ?_
        have sz : us1.toArray.size = xs.length := by rw [List.size_toArray, v1.length]
        have sy : us2.toArray.size = ys.length := by rw [List.size_toArray, v2.length]
        have su : us3.toArray.size = zs.length := by rw [List.size_toArray, v3.length]
        have I2 : Inv X pyins σ H1 { s1 with heap := h' } := I1.kept (t' := s1.toks) hk
        refine call_list_zip3 (N := s1.heap.objs.size) (xs := us1.toArray) (ys := us2.toArray) (zs := us3.toArray) hh L1.lt L2.lt L3.lt (by rw [sz, sy]; exact hy) (by rw [sz, su]; exact hu) (by rw [sz]; exact z1) hsz ⟨hTI, ⟨_, y1, rfl, rfl⟩, ⟨_, y2, rfl, rfl⟩, ⟨_, y3, rfl, rfl⟩, L1.isList.at fun o e => hk _ o e, L2.isList.at fun o e => hk _ o e, L3.isList.at fun o e => hk _ o e,   .inl ⟨hz, _, _, _, hTO⟩⟩ hz fun h2 tk acc c as hk2 hyS hl hyG hyacc => ?_
        obtain ⟨H', k1, k2, k3, k4, k5, k6, J⟩ := laid3 (tk := tk) I1 rfl z1 hy hu v1 v2 v3 (fun b o hyb e => hk2 b o hyb (hk b o e)) hyS (hl.trans sz) hyG hyacc
        exact ⟨.ref _, H', J, rfl, q H' _ as k1 k2 k3 k4 k5 (hl.trans sz) k6⟩
end
end Mc
/-! Ly1: data over two heaps. M holds what never changes, H all; an environment tells the slots' data, own cells what may change. -/
namespace Ly
open PySem L2

/-- data: a plain value; a list, a tuple, an instance that never change -/
inductive D where
  | raw (v : V)
  | lst (ds : List D)
  | tup (ds : List D)
  | ins (C : Addr) (fs : List (Str × D))
abbrev D.int (i : Int) : D := .raw (.int i)
abbrev D.bl (b : Bool) : D := .raw (.bl b)
abbrev D.str (x : Str) : D := .raw (.str x)
abbrev D.non : D := .raw .non
abbrev D.ref (a : Addr) : D := .raw (.ref a)

mutual
inductive Dv (M : Hp) : V → D → Prop
  | raw (v : V) : Dv M v (.raw v)
  | lst {a : Addr} {vs : List V} {ds : List D} : M a = some (.lst vs) → Dvs M vs ds → Dv M (.ref a) (.lst ds)
  | tup {a : Addr} {vs : List V} {ds : List D} : M a = some (.tup vs) → Dvs M vs ds → Dv M (.ref a) (.tup ds)
  | ins {a C dx : Addr} {fv : List (Str × V)} {fs : List (Str × D)} : M a = some (.ins C dx fv) → Dfs M fv fs → Dv M (.ref a) (.ins C fs)
inductive Dvs (M : Hp) : List V → List D → Prop
  | nil : Dvs M [] []
  | cons {v : V} {vs : List V} {d : D} {ds : List D} : Dv M v d → Dvs M vs ds → Dvs M (v :: vs) (d :: ds)
inductive Dfs (M : Hp) : List (Str × V) → List (Str × D) → Prop
  | nil : Dfs M [] []
  | cons {f : Str} {v : V} {fv : List (Str × V)} {d : D} {fs : List (Str × D)} : Dv M v d → Dfs M fv fs → Dfs M ((f, v) :: fv) ((f, d) :: fs)
end

section
variable {M M' : Hp}
mutual
theorem Dv.mono (e : Same M M') : ∀ {v : V} {d : D}, Dv M v d → Dv M' v d
  | _, _, .raw v => .raw v
  | _, _, .lst h hs => .lst (e _ _ h) (Dvs.mono e hs)
  | _, _, .tup h hs => .tup (e _ _ h) (Dvs.mono e hs)
  | _, _, .ins h hs => .ins (e _ _ h) (Dfs.mono e hs)
theorem Dvs.mono (e : Same M M') : ∀ {vs : List V} {ds : List D}, Dvs M vs ds → Dvs M' vs ds
  | _, _, .nil => .nil
  | _, _, .cons h hs => .cons (Dv.mono e h) (Dvs.mono e hs)
theorem Dfs.mono (e : Same M M') : ∀ {vs : List (Str × V)} {ds : List (Str × D)}, Dfs M vs ds → Dfs M' vs ds
  | _, _, .nil => .nil
  | _, _, .cons h hs => .cons (Dv.mono e h) (Dfs.mono e hs)
end
theorem Dv.raw_eq {v u : V} (h : Dv M v (.raw u)) : v = u := by cases h; rfl
theorem Dvs.length {vs : List V} {ds : List D} (h : Dvs M vs ds) : vs.length = ds.length := by
  induction ds generalizing vs with
  | nil => cases h; rfl
  | cons d ds ih => cases h with
    | cons h hs => simp [ih hs]
theorem Dvs.get {vs : List V} {ds : List D} (h : Dvs M vs ds) : ∀ {i : Nat} {d : D}, ds[i]? = some d → ∃ v, vs[i]? = some v ∧ Dv M v d := by
  induction ds generalizing vs with
  | nil => intro i d e; simp at e
  | cons d ds ih =>
    intro i x e
    cases h with
    | cons h hs =>
      cases i with
      | zero => simp at e; subst e; exact ⟨_, rfl, h⟩
      | succ i => simpa using ih hs (by simpa using e)
theorem Dvs.getV {vs : List V} {ds : List D} (h : Dvs M vs ds) : ∀ {i : Nat} {v : V}, vs[i]? = some v → ∃ d, ds[i]? = some d ∧ Dv M v d := by
  induction ds generalizing vs with
  | nil => intro i v e; cases h; simp at e
  | cons d ds ih =>
    intro i x e
    cases h with
    | cons h hs =>
      cases i with
      | zero => simp at e; subst e; exact ⟨_, rfl, h⟩
      | succ i => simpa using ih hs (by simpa using e)
theorem Dvs.append {vs ws : List V} {ds es : List D} (h : Dvs M vs ds) (h' : Dvs M ws es) : Dvs M (vs ++ ws) (ds ++ es) := by
  induction ds generalizing vs with
  | nil => cases h; exact h'
  | cons d ds ih => cases h with
    | cons h hs => exact .cons h (ih hs)
theorem Dvs.take {vs : List V} {ds : List D} (h : Dvs M vs ds) : ∀ n : Nat, Dvs M (vs.take n) (ds.take n) := by
  induction ds generalizing vs with
  | nil => intro n; cases h; simp; exact .nil
  | cons d ds ih =>
    intro n
    cases h with
    | cons h hs =>
      cases n with
      | zero => exact .nil
      | succ n => exact .cons h (ih hs n)
theorem Dvs.drop {vs : List V} {ds : List D} (h : Dvs M vs ds) : ∀ n : Nat, Dvs M (vs.drop n) (ds.drop n) := by
  induction ds generalizing vs with
  | nil => intro n; cases h; simp; exact .nil
  | cons d ds ih =>
    intro n
    cases h with
    | cons h hs =>
      cases n with
      | zero => exact .cons h hs
      | succ n => exact ih hs n
theorem Dvs.set {vs : List V} {ds : List D} (h : Dvs M vs ds) {v : V} {d : D} (hv : Dv M v d) : ∀ n : Nat, Dvs M (vs.set n v) (ds.set n d) := by
  induction ds generalizing vs with
  | nil => intro n; cases h; exact .nil
  | cons d ds ih =>
    intro n
    cases h with
    | cons h hs =>
      cases n with
      | zero => exact .cons hv hs
      | succ n => exact .cons h (ih hs n)
theorem Dvs.eraseIdx {vs : List V} {ds : List D} (h : Dvs M vs ds) : ∀ n : Nat, Dvs M (vs.eraseIdx n) (ds.eraseIdx n) := by
  induction ds generalizing vs with
  | nil => intro n; cases h; exact .nil
  | cons d ds ih =>
    intro n
    cases h with
    | cons h hs =>
      cases n with
      | zero => exact hs
      | succ n => exact .cons h (ih hs n)
theorem Dvs.dropLast {vs : List V} {ds : List D} (h : Dvs M vs ds) : Dvs M vs.dropLast ds.dropLast := by
  rw [List.dropLast_eq_take, List.dropLast_eq_take, h.length]
  exact h.take _
theorem Dvs.reverse {vs : List V} {ds : List D} (h : Dvs M vs ds) : Dvs M vs.reverse ds.reverse := by
  induction ds generalizing vs with
  | nil => cases h; exact .nil
  | cons d ds ih => cases h with
    | cons h hs => rw [List.reverse_cons, List.reverse_cons]; exact (ih hs).append (.cons h .nil)
theorem Dvs.rep {vs : List V} {ds : List D} (h : Dvs M vs ds) (k : Nat) : Dvs M (List.replicate k vs).flatten (List.replicate k ds).flatten := by
  induction k with
  | zero => exact .nil
  | succ k ih => rw [List.replicate_succ, List.replicate_succ, List.flatten_cons, List.flatten_cons]; exact h.append ih
theorem Dvs.raws (vs : List V) : Dvs M vs (vs.map D.raw) := by
  induction vs with
  | nil => exact .nil
  | cons v vs ih => exact .cons (.raw v) ih
theorem Dvs.raws_eq {vs us : List V} (h : Dvs M vs (us.map D.raw)) : vs = us := by
  induction us generalizing vs with
  | nil => cases h; rfl
  | cons u us ih => cases h with
    | cons h hs => rw [h.raw_eq, ih hs]
theorem Dfs.look {fv : List (Str × V)} {fs : List (Str × D)} (h : Dfs M fv fs) {f : Str} {d : D} (e : fs.lookup f = some d) : ∃ v, fv.lookup f = some v ∧ Dv M v d := by
  induction fs generalizing fv with
  | nil => simp at e
  | cons p fs ih =>
    cases h with
    | @cons g v fv d' fs h hs =>
      simp only [List.lookup] at e ⊢
      split at e
      · cases e; exact ⟨_, rfl, h⟩
      · exact ih hs e
theorem Dfs.look_none {fv : List (Str × V)} {fs : List (Str × D)} (h : Dfs M fv fs) {f : Str} (e : fs.lookup f = none) : fv.lookup f = none := by
  induction fs generalizing fv with
  | nil => cases h; rfl
  | cons p fs ih =>
    cases h with
    | @cons g v fv d' fs h hs =>
      simp only [List.lookup] at e ⊢
      split at e
      · cases e
      · exact ih hs e
theorem Dfs.length {fv : List (Str × V)} {fs : List (Str × D)} (h : Dfs M fv fs) : fv.length = fs.length := by
  induction fs generalizing fv with
  | nil => cases h; rfl
  | cons p fs ih => cases h with
    | cons h hs => simp [ih hs]
end
/-- an attribute stored -/
def putD (f : Str) (d : D) : List (Str × D) → List (Str × D)
  | [] => [(f, d)]
  | (g, x) :: r => if g = f then (g, d) :: r else (g, x) :: putD f d r
theorem putF_cons (f : Str) (v : V) (g : Str) (x : V) (r : List (Str × V)) : putF f v ((g, x) :: r) = if g = f then (g, v) :: r else (g, x) :: putF f v r := rfl
theorem putF_nil (f : Str) (v : V) : putF f v [] = [(f, v)] := rfl
theorem Dfs.put {M : Hp} {fv : List (Str × V)} {fs : List (Str × D)} (h : Dfs M fv fs) {f : Str} {v : V} {d : D} (hv : Dv M v d) : Dfs M (putF f v fv) (putD f d fs) := by
  induction fs generalizing fv with
  | nil => cases h; exact .cons hv .nil
  | cons p fs ih =>
    cases h with
    | @cons g x fv x' fs h hs =>
      rw [putF_cons]
      show Dfs M _ (if g = f then (g, d) :: fs else (g, x') :: putD f d fs)
      by_cases e : g = f
      · rw [if_pos e, if_pos e]; exact .cons hv hs
      · rw [if_neg e, if_neg e]; exact .cons h (ih hs)

/-! ### steps -/
/-- nothing known changes; what may change stays out of M -/
structure Pu (M H M' H' : Hp) : Prop where
  mm : Same M M'
  hh : Same H H'
  mh : Same M' H'
  nn : ∀ b o, H b = some o → M b = none → M' b = none
theorem Pu.refl {M H : Hp} (h : Same M H) : Pu M H M H := ⟨Same.refl _, Same.refl _, h, fun _ _ _ n => n⟩
theorem Pu.trans {M H M1 H1 M2 H2 : Hp} (a : Pu M H M1 H1) (b : Pu M1 H1 M2 H2) : Pu M H M2 H2 :=
  ⟨a.mm.trans b.mm, a.hh.trans b.hh, b.mh, fun c o h n => b.nn c o (a.hh c o h) (a.nn c o h n)⟩
theorem same_new {H : Hp} {p : Addr} {o : HO} (h : H p = none) : Same H (upd H p o) := fun a u e => by
  rw [upd_ne (ne_of_none e h)]; exact e
theorem same_back {M H : Hp} (e : Same M H) {p : Addr} (h : H p = none) : M p = none := e.free h
/-- a new object that stays out of M -/
theorem Pu.newH {M H : Hp} (h : Same M H) {p : Addr} {o : HO} (hp : H p = none) : Pu M H M (upd H p o) :=
  ⟨Same.refl _, same_new hp, h.trans (same_new hp), fun _ _ _ n => n⟩
/-- a new object that never changes -/
theorem Pu.newM {M H : Hp} (h : Same M H) {p : Addr} {o : HO} (hp : H p = none) : Pu M H (upd M p o) (upd H p o) := by
  refine ⟨same_new (same_back h hp), same_new hp, fun b u e => ?_, fun b u e n => ?_⟩
  · by_cases hb : b = p
    · rw [hb, upd_same] at e ⊢; exact e
    · rw [upd_ne hb] at e ⊢; exact h b u e
  · rw [upd_ne (ne_of_none e hp)]; exact n
/-- an object that is known to stay from now on -/
theorem Pu.frz {M H M' H' : Hp} (h : Same M H) (u : Pu M H M' H') {p : Addr} {o : HO} (hp : H p = none) (ho : H' p = some o) (hm : M' p = none) : Pu M H (upd M' p o) H' := by
  refine ⟨fun b x e => ?_, u.hh, fun b x e => ?_, fun b x e n => ?_⟩
  · rw [upd_ne (ne_of_none (h b x e) hp)]; exact u.mm b x e
  · by_cases hb : b = p
    · rw [hb, upd_same] at e; rw [hb, ho]; exact e
    · rw [upd_ne hb] at e; exact u.mh b x e
  · rw [upd_ne (ne_of_none e hp)]; exact u.nn b x e n

/-! ### the slots -/
abbrev Ev := List (Option D)
def EnvD (M : Hp) : St → Ev → Prop
  | [], [] => True
  | s :: σ, r :: ρ => (match r with | none => True | some d => ∃ v, s = some v ∧ Dv M v d) ∧ EnvD M σ ρ
  | _, _ => False
section
variable {M M' : Hp}
theorem EnvD.mono (e : Same M M') : ∀ {σ : St} {ρ : Ev}, EnvD M σ ρ → EnvD M' σ ρ
  | [], [], _ => trivial
  | s :: σ, none :: ρ, h => ⟨trivial, EnvD.mono e h.2⟩
  | s :: σ, some d :: ρ, h => ⟨let ⟨v, h1, h2⟩ := h.1; ⟨v, h1, h2.mono e⟩, EnvD.mono e h.2⟩
  | [], _ :: _, h => h.elim
  | _ :: _, [], h => h.elim
theorem EnvD.get : ∀ {σ : St} {ρ : Ev}, EnvD M σ ρ → ∀ {i : Nat} {d : D}, ρ[i]? = some (some d) → ∃ v, σ[i]? = some (some v) ∧ Dv M v d
  | [], [], _, i, d, e => by simp at e
  | s :: σ, r :: ρ, h, 0, d, e => by
    simp at e; subst e
    obtain ⟨v, h1, h2⟩ := h.1
    exact ⟨v, by simp [h1], h2⟩
  | s :: σ, r :: ρ, h, i + 1, d, e => by
    simpa using EnvD.get h.2 (by simpa using e)
  | [], _ :: _, h, _, _, _ => h.elim
  | _ :: _, [], h, _, _, _ => h.elim
theorem EnvD.set {v : V} {d : D} (hv : Dv M v d) : ∀ {σ : St} {ρ : Ev}, EnvD M σ ρ → ∀ (i : Nat), EnvD M (σ.set i (some v)) (ρ.set i (some d))
  | [], [], _, i => trivial
  | s :: σ, r :: ρ, h, 0 => ⟨⟨v, rfl, hv⟩, h.2⟩
  | s :: σ, r :: ρ, h, i + 1 => ⟨h.1, EnvD.set hv h.2 i⟩
  | [], _ :: _, h, _ => h.elim
  | _ :: _, [], h, _ => h.elim
theorem EnvD.forget : ∀ {σ : St} {ρ : Ev}, EnvD M σ ρ → ∀ (i : Nat), EnvD M σ (ρ.set i none)
  | [], [], _, i => trivial
  | s :: σ, r :: ρ, h, 0 => ⟨trivial, h.2⟩
  | s :: σ, r :: ρ, h, i + 1 => ⟨h.1, EnvD.forget h.2 i⟩
  | [], _ :: _, h, _ => h.elim
  | _ :: _, [], h, _ => h.elim
theorem EnvD.unset (x : Option V) : ∀ {σ : St} {ρ : Ev}, EnvD M σ ρ → ∀ (i : Nat), EnvD M (σ.set i x) (ρ.set i none)
  | [], [], _, i => trivial
  | s :: σ, r :: ρ, h, 0 => ⟨trivial, h.2⟩
  | s :: σ, r :: ρ, h, i + 1 => ⟨h.1, EnvD.unset x h.2 i⟩
  | [], _ :: _, h, _ => h.elim
  | _ :: _, [], h, _ => h.elim
theorem EnvD.nones : ∀ (n : Nat), EnvD M (List.replicate n none) (List.replicate n none)
  | 0 => trivial
  | n + 1 => ⟨trivial, EnvD.nones n⟩
theorem EnvD.somes {vs : List V} {ds : List D} (h : Dvs M vs ds) {σ : St} {ρ : Ev} (t : EnvD M σ ρ) : EnvD M (vs.map some ++ σ) (ds.map some ++ ρ) := by
  induction ds generalizing vs with
  | nil => cases h; exact t
  | cons d ds ih => cases h with
    | cons h hs => exact ⟨⟨_, rfl, h⟩, ih hs⟩
end
def wipeD (ρ : Ev) : List Nat → Ev
  | [] => ρ
  | v :: vs => (wipeD ρ vs).set v none
theorem EnvD.wipe {M : Hp} {σ : St} {ρ : Ev} (h : EnvD M σ ρ) : ∀ vs : List Nat, EnvD M (wipe σ vs) (wipeD ρ vs)
  | [] => h
  | v :: vs => (EnvD.wipe h vs).unset none v
/-- the data at a def's entry -/
def startD (n : Nat) (ds : List D) : Ev := ds.map some ++ List.replicate (n - ds.length) none
theorem EnvD.start {M : Hp} {vs : List V} {ds : List D} (h : Dvs M vs ds) (N : List Str) : EnvD M (start N vs) (startD N.length ds) := by
  unfold L2.start startD
  rw [← h.length]
  exact EnvD.somes h (EnvD.nones _)

/-! ### own cells -/
inductive OC where
  | l (ds : List D)
  | ins (C : Addr) (fs : List (Str × D))
  | dk (kvs : List (Key × D))
  | dt (kvs : List (List Key × D))
  | tp (ds : List D)
abbrev Own := List (Addr × OC)
def Dks {κ : Type} (M : Hp) : List (κ × V) → List (κ × D) → Prop
  | [], [] => True
  | p :: ps, q :: qs => (p.1 = q.1 ∧ Dv M p.2 q.2) ∧ Dks M ps qs
  | _, _ => False
theorem Dks.mono {κ : Type} {M M' : Hp} (e : Same M M') : ∀ {ps : List (κ × V)} {qs : List (κ × D)}, Dks M ps qs → Dks M' ps qs
  | [], [], _ => trivial
  | _ :: _, _ :: _, h => ⟨⟨h.1.1, h.1.2.mono e⟩, Dks.mono e h.2⟩
  | [], _ :: _, h => h.elim
  | _ :: _, [], h => h.elim
def OCok (M : Hp) (o : HO) : OC → Prop
  | .l ds => ∃ vs, o = .lst vs ∧ Dvs M vs ds
  | .ins C fs => ∃ dx fv, o = .ins C dx fv ∧ Dfs M fv fs
  | .dk kvs => ∃ kv, o = .dK kv ∧ Dks M kv kvs
  | .dt kvs => ∃ kv, o = .dT kv ∧ Dks M kv kvs
  | .tp ds => ∃ vs, o = .tup vs ∧ Dvs M vs ds
theorem OCok.mono {M M' : Hp} (e : Same M M') {o : HO} : ∀ {c : OC}, OCok M o c → OCok M' o c
  | .l _, ⟨vs, h1, h2⟩ => ⟨vs, h1, h2.mono e⟩
  | .ins _ _, ⟨dx, fv, h1, h2⟩ => ⟨dx, fv, h1, h2.mono e⟩
  | .dk _, ⟨kv, h1, h2⟩ => ⟨kv, h1, h2.mono e⟩
  | .dt _, ⟨kv, h1, h2⟩ => ⟨kv, h1, h2.mono e⟩
  | .tp _, ⟨vs, h1, h2⟩ => ⟨vs, h1, h2.mono e⟩
structure OwnOk (M H : Hp) (own : Own) : Prop where
  nd : (own.map (·.1)).Nodup
  at_ : ∀ p ∈ own, M p.1 = none ∧ ∃ o, H p.1 = some o ∧ OCok M o p.2
theorem OwnOk.nil {M H : Hp} : OwnOk M H [] := ⟨List.nodup_nil, fun _ h => nomatch h⟩
theorem OwnOk.pure {M H M' H' : Hp} {own : Own} (h : OwnOk M H own) (u : Pu M H M' H') : OwnOk M' H' own :=
  ⟨h.nd, fun p hp => let ⟨a, o, b, c⟩ := h.at_ p hp; ⟨u.nn _ _ b a, o, u.hh _ _ b, c.mono u.mm⟩⟩
theorem OwnOk.get {M H : Hp} {own : Own} (h : OwnOk M H own) {k : Nat} {a : Addr} {c : OC} (e : own[k]? = some (a, c)) : M a = none ∧ ∃ o, H a = some o ∧ OCok M o c :=
  h.at_ (a, c) (List.mem_of_getElem? e)

/-- where one stands -/
structure Sd (own : Own) (ρ : Ev) (σ : St) (M H : Hp) : Prop where
  mh : Same M H
  env : EnvD M σ ρ
  ow : OwnOk M H own
theorem Sd.pure {own : Own} {ρ : Ev} {σ : St} {M H M' H' : Hp} (s : Sd own ρ σ M H) (u : Pu M H M' H') : Sd own ρ σ M' H' := ⟨u.mh, s.env.mono u.mm, s.ow.pure u⟩

/-! ### what a reading gives -/
def E (own : Own) (ρ : Ev) (te : TE) (d : D) : Prop := ∀ (σ : St) (M H : Hp), Sd own ρ σ M H → ∀ Q : VK, (∀ v M' H', Pu M H M' H' → Dv M' v d → Q v H') → te σ H Q
def ET (own : Own) (ρ : Ev) (tt : TT) (b : Bool) : Prop := ∀ (σ : St) (M H : Hp), Sd own ρ σ M H → ∀ Q : Bool → Hp → Prop, (∀ M' H', Pu M H M' H' → Q b H') → tt σ H Q
def EA (own : Own) (ρ : Ev) (ta : TA) (ds : List D) : Prop := ∀ (σ : St) (M H : Hp), Sd own ρ σ M H → ∀ Q : List V → Hp → Prop, (∀ vs M' H', Pu M H M' H' → Dvs M' vs ds → Q vs H') → ta σ H Q
def EO (own : Own) (ρ : Ev) (to : TO) (o : Option Int) : Prop := ∀ (σ : St) (M H : Hp), Sd own ρ σ M H → ∀ Q : Option Int → Hp → Prop, (∀ M' H', Pu M H M' H' → Q o H') → to σ H Q
/-- a new list, not yet let go -/
def EN (own : Own) (ρ : Ev) (te : TE) (ds : List D) : Prop := ∀ (σ : St) (M H : Hp), Sd own ρ σ M H → ∀ Q : VK, (∀ p vs M' H', Pu M H M' H' → H p = none → M' p = none → H' p = some (.lst vs) → Dvs M' vs ds → Q (.ref p) H') → te σ H Q
section
variable {own : Own} {ρ : Ev} {ta tb te : TE}
theorem EN.e {ds : List D} (h : EN own ρ te ds) : E own ρ te (.lst ds) := fun σ M H s Q q => h σ M H s Q fun p vs M' H' u n m e r =>
  q (.ref p) (upd M' p (.lst vs)) H' (u.frz s.mh n e m) (.lst upd_same (r.mono (same_new m)))
theorem e_var {i : Nat} {d : D} (h : ρ[i]? = some (some d)) : E own ρ (tVar i) d := fun σ M H s Q q => by
  obtain ⟨v, h1, h2⟩ := s.env.get h
  exact ⟨v, h1, q v M H (.refl s.mh) h2⟩
theorem e_c {v : V} : E own ρ (tC v) (.raw v) := fun σ M H s Q q => q v M H (.refl s.mh) (.raw v)
theorem ea_nil : EA own ρ tNil [] := fun σ M H s Q q => q [] M H (.refl s.mh) .nil
theorem ea_cons {tr : TA} {d : D} {ds : List D} (h : E own ρ te d) (hr : EA own ρ tr ds) : EA own ρ (tCons te tr) (d :: ds) := fun σ M H s Q q =>
  h σ M H s _ fun v M1 H1 u1 r1 => hr σ M1 H1 (s.pure u1) _ fun vs M2 H2 u2 r2 => q (v :: vs) M2 H2 (u1.trans u2) (.cons (r1.mono u2.mm) r2)
/-- two operands, then what the operation gives -/
theorem e_op {r : R2} {x y z : D} (ha : E own ρ ta x) (hb : E own ρ tb y)
    (hr : ∀ (v w : V) (M H : Hp), Same M H → OwnOk M H own → Dv M v x → Dv M w y → ∀ Q : VK, (∀ u M' H', Pu M H M' H' → Dv M' u z → Q u H') → r v w H Q) : E own ρ (tOp r ta tb) z := fun σ M H s Q q =>
  ha σ M H s _ fun v M1 H1 u1 r1 => hb σ M1 H1 (s.pure u1) _ fun w M2 H2 u2 r2 =>
    hr v w M2 H2 u2.mh ((s.ow.pure u1).pure u2) (r1.mono u2.mm) r2 Q fun u M3 H3 u3 r3 => q u M3 H3 ((u1.trans u2).trans u3) r3
theorem e_un {r : V → Hp → VK → Prop} {x z : D} (ha : E own ρ ta x)
    (hr : ∀ (v : V) (M H : Hp), Same M H → OwnOk M H own → Dv M v x → ∀ Q : VK, (∀ u M' H', Pu M H M' H' → Dv M' u z → Q u H') → r v H Q) : E own ρ (tUn r ta) z := fun σ M H s Q q =>
  ha σ M H s _ fun v M1 H1 u1 r1 => hr v M1 H1 u1.mh (s.ow.pure u1) r1 Q fun u M3 H3 u3 r3 => q u M3 H3 (u1.trans u3) r3
theorem e_opI {r : R2} {i j : Int} {z : V} (ha : E own ρ ta (.int i)) (hb : E own ρ tb (.int j)) (hr : ∀ (H : Hp) (Q : VK), Q z H → r (.int i) (.int j) H Q) : E own ρ (tOp r ta tb) (.raw z) :=
  e_op ha hb fun v w M H mh _ r1 r2 Q q => by
    rw [r1.raw_eq, r2.raw_eq]
    exact hr H Q (q z M H (.refl mh) (.raw z))
theorem e_rI0 {g : Int → Int → V} {i j : Int} (ha : E own ρ ta (.int i)) (hb : E own ρ tb (.int j)) : E own ρ (tOp (rI0 g) ta tb) (.raw (g i j)) := e_opI ha hb fun H Q q => ⟨i, j, rfl, rfl, q⟩
theorem e_rI {C : Int → Int → Prop} {g : Int → Int → V} {i j : Int} (ha : E own ρ ta (.int i)) (hb : E own ρ tb (.int j)) (hc : C i j) : E own ρ (tOp (rI C g) ta tb) (.raw (g i j)) := e_opI ha hb fun H Q q => ⟨i, j, rfl, rfl, hc, q⟩
/-- a builtin's or a type's call -/
theorem e_cb {r : List V → Hp → VK → Prop} {t : TA} {ds : List D} {z : D} (ha : EA own ρ t ds)
    (hr : ∀ (vs : List V) (M H : Hp), Same M H → OwnOk M H own → Dvs M vs ds → ∀ Q : VK, (∀ u M' H', Pu M H M' H' → Dv M' u z → Q u H') → r vs H Q) : E own ρ (tCB r t) z := fun σ M H s Q q =>
  ha σ M H s _ fun vs M1 H1 u1 r1 => hr vs M1 H1 u1.mh (s.ow.pure u1) r1 Q fun u M3 H3 u3 r3 => q u M3 H3 (u1.trans u3) r3
theorem e_tup {t : TA} {ds : List D} (h : EA own ρ t ds) (hl : ds.length ≤ 100000 := by decide) : E own ρ (tTup t) (.tup ds) := fun σ M H s Q q =>
  h σ M H s _ fun vs M1 H1 u1 r1 => ⟨by rw [r1.length]; exact Nat.le_trans hl (by decide), fun p hp => q (.ref p) _ _ (u1.trans (Pu.newM u1.mh hp)) (.tup upd_same (r1.mono (same_new (same_back u1.mh hp))))⟩
theorem en_lst {t : TA} {ds : List D} (h : EA own ρ t ds) (hl : ds.length ≤ 100000 := by decide) : EN own ρ (tLst t) ds := fun σ M H s Q q =>
  h σ M H s _ fun vs M1 H1 u1 r1 => ⟨by rw [r1.length]; exact Nat.le_trans hl (by decide), fun p hp => q p vs _ _ (u1.trans (Pu.newH u1.mh hp)) (u1.hh.free hp) (same_back u1.mh hp) upd_same r1⟩
/-- tests -/
theorem et_test {b : Bool} (h : E own ρ te (.bl b)) : ET own ρ (tTest te) b := fun σ M H s Q q => h σ M H s _ fun v M1 H1 u1 r1 => ⟨b, r1.raw_eq, q M1 H1 u1⟩
theorem et_B {b : Bool} (h : E own ρ te (.bl b)) : ET own ρ (tB te) b := fun σ M H s Q q => h σ M H s _ fun v M1 H1 u1 r1 => ⟨b, r1.raw_eq, q M1 H1 u1⟩
theorem et_not {t : TT} {b : Bool} (h : ET own ρ t b) : ET own ρ (tNot t) (!b) := fun σ M H s Q q => h σ M H s _ fun M1 H1 u1 => q M1 H1 u1
theorem et_and {t u : TT} {a b : Bool} (h1 : ET own ρ t a) (h2 : a = true → ET own ρ u b) : ET own ρ (tAnd t u) (a && b) := fun σ M H s Q q => h1 σ M H s _ fun M1 H1 u1 => by
  cases a with
  | true => show u σ H1 Q; exact h2 rfl σ M1 H1 (s.pure u1) Q fun M2 H2 u2 => q M2 H2 (u1.trans u2)
  | false => show Q false H1; exact q M1 H1 u1
theorem et_or {t u : TT} {a b : Bool} (h1 : ET own ρ t a) (h2 : a = false → ET own ρ u b) : ET own ρ (tOr t u) (a || b) := fun σ M H s Q q => h1 σ M H s _ fun M1 H1 u1 => by
  cases a with
  | true => show Q true H1; exact q M1 H1 u1
  | false => show u σ H1 Q; exact h2 rfl σ M1 H1 (s.pure u1) Q fun M2 H2 u2 => q M2 H2 (u1.trans u2)
theorem e_andV {a : Bool} {x z : D} (h1 : E own ρ ta (.bl a)) (h2 : a = true → E own ρ tb x) (hz : z = if a = true then x else .bl false) : E own ρ (tAndV ta tb) z := fun σ M H s Q q => h1 σ M H s _ fun v M1 H1 u1 r1 => ⟨a, r1.raw_eq, by
  subst hz
  cases a with
  | true => show tb σ H1 Q; exact h2 rfl σ M1 H1 (s.pure u1) Q fun v2 M2 H2 u2 r2 => q v2 M2 H2 (u1.trans u2) r2
  | false => show Q (.bl false) H1; exact q _ M1 H1 u1 (.raw _)⟩
theorem e_orV {a : Bool} {x z : D} (h1 : E own ρ ta (.bl a)) (h2 : a = false → E own ρ tb x) (hz : z = if a = true then .bl true else x) : E own ρ (tOrV ta tb) z := fun σ M H s Q q => h1 σ M H s _ fun v M1 H1 u1 r1 => ⟨a, r1.raw_eq, by
  subst hz
  cases a with
  | true => show Q (.bl true) H1; exact q _ M1 H1 u1 (.raw _)
  | false => show tb σ H1 Q; exact h2 rfl σ M1 H1 (s.pure u1) Q fun v2 M2 H2 u2 r2 => q v2 M2 H2 (u1.trans u2) r2⟩
theorem e_notV {a : Bool} (h1 : E own ρ ta (.bl a)) : E own ρ (tNotV ta) (.bl (!a)) := fun σ M H s Q q => h1 σ M H s _ fun v M1 H1 u1 r1 => ⟨a, r1.raw_eq, q _ M1 H1 u1 (.raw _)⟩
theorem e_if {t : TT} {b : Bool} {d : D} (h : ET own ρ t b) (h1 : b = true → E own ρ ta d) (h2 : b = false → E own ρ tb d) : E own ρ (tIf t ta tb) d := fun σ M H s Q q => h σ M H s _ fun M1 H1 u1 => by
  cases b with
  | true => show ta σ H1 Q; exact h1 rfl σ M1 H1 (s.pure u1) Q fun v2 M2 H2 u2 r2 => q v2 M2 H2 (u1.trans u2) r2
  | false => show tb σ H1 Q; exact h2 rfl σ M1 H1 (s.pure u1) Q fun v2 M2 H2 u2 r2 => q v2 M2 H2 (u1.trans u2) r2
theorem et_is {t : TT} {a b : Bool} (h : ET own ρ t a) (e : a = b) : ET own ρ t b := e ▸ h
theorem e_is {d e : D} (h : E own ρ te d) (q : d = e) : E own ρ te e := q ▸ h
theorem eo_none : EO own ρ tNoPart none := fun σ M H s Q q => q M H (.refl s.mh)
theorem eo_some {i : Int} (h : E own ρ te (.int i)) : EO own ρ (tPart te) (some i) := fun σ M H s Q q => h σ M H s _ fun v M1 H1 u1 r1 => ⟨i, r1.raw_eq, q M1 H1 u1⟩
end
end Ly
/-! Ly2: where a def stands (C), its statements, loops, comprehensions. -/
namespace Ly
open PySem L2 Mc

/-- since the entry: what was known stays known; but for F nothing that stood has changed -/
structure Bs (F : List Addr) (M0 H0 M H : Hp) : Prop where
  mm : Same M0 M
  hh : ∀ b o, b ∉ F → H0 b = some o → H b = some o
  nn : ∀ b o, H0 b = some o → M0 b = none → M b = none
theorem Bs.refl {F : List Addr} {M H : Hp} : Bs F M H M H := ⟨Same.refl _, fun _ _ _ h => h, fun _ _ _ n => n⟩
theorem Bs.pure {F : List Addr} {M0 H0 M H M' H' : Hp} (b : Bs F M0 H0 M H) (hF : ∀ a ∈ F, ∃ o, H a = some o) (u : Pu M H M' H') : Bs F M0 H0 M' H' := by
  refine ⟨b.mm.trans u.mm, fun c o hc h => u.hh c o (b.hh c o hc h), fun c o h n => ?_⟩
  by_cases hc : c ∈ F
  · obtain ⟨o', h'⟩ := hF c hc
    exact u.nn c o' h' (b.nn c o h n)
  · exact u.nn c o (b.hh c o hc h) (b.nn c o h n)
/-- where a def stands -/
structure C (F : List Addr) (M0 H0 : Hp) (own : Own) (ρ : Ev) (σ : St) (M H : Hp) : Prop where
  sd : Sd own ρ σ M H
  bs : Bs F M0 H0 M H
  ownF : ∀ p ∈ own, p.1 ∈ F ∨ H0 p.1 = none
  inF : ∀ a ∈ F, ∃ c, (a, c) ∈ own
section
variable {F : List Addr} {M0 H0 M H M' H' : Hp} {own own' : Own} {ρ ρ' : Ev} {σ σ' : St}
theorem C.F_at (c : C F M0 H0 own ρ σ M H) : ∀ a ∈ F, ∃ o, H a = some o := fun a ha => by
  obtain ⟨k, hk⟩ := c.inF a ha
  obtain ⟨_, o, h, _⟩ := c.sd.ow.at_ _ hk
  exact ⟨o, h⟩
theorem C.pure (c : C F M0 H0 own ρ σ M H) (u : Pu M H M' H') : C F M0 H0 own ρ σ M' H' := ⟨c.sd.pure u, c.bs.pure c.F_at u, c.ownF, c.inF⟩
theorem C.env (c : C F M0 H0 own ρ σ M H) (h : EnvD M σ' ρ') : C F M0 H0 own ρ' σ' M H := ⟨⟨c.sd.mh, h, c.sd.ow⟩, c.bs, c.ownF, c.inF⟩
theorem C.set (c : C F M0 H0 own ρ σ M H) {v : V} {d : D} (h : Dv M v d) (i : Nat) : C F M0 H0 own (ρ.set i (some d)) (σ.set i (some v)) M H := c.env (c.sd.env.set h i)
theorem C.forget (c : C F M0 H0 own ρ σ M H) (i : Nat) : C F M0 H0 own (ρ.set i none) σ M H := c.env (c.sd.env.forget i)
end

/-- an evaluation that may change own cells; P tells what comes and what the cells are then -/
def X (own : Own) (ρ : Ev) (te : TE) (P : D → Own → Prop) : Prop := ∀ (F : List Addr) (M0 H0 : Hp) (σ : St) (M H : Hp), C F M0 H0 own ρ σ M H → ∀ Q : VK, (∀ v d own' M' H', P d own' → C F M0 H0 own' ρ σ M' H' → Same M M' → Dv M' v d → Q v H') → te σ H Q
def XT (own : Own) (ρ : Ev) (tt : TT) (P : Bool → Own → Prop) : Prop := ∀ (F : List Addr) (M0 H0 : Hp) (σ : St) (M H : Hp), C F M0 H0 own ρ σ M H → ∀ Q : Bool → Hp → Prop, (∀ b own' M' H', P b own' → C F M0 H0 own' ρ σ M' H' → Same M M' → Q b H') → tt σ H Q
def XA (own : Own) (ρ : Ev) (ta : TA) (P : List D → Own → Prop) : Prop := ∀ (F : List Addr) (M0 H0 : Hp) (σ : St) (M H : Hp), C F M0 H0 own ρ σ M H → ∀ Q : List V → Hp → Prop, (∀ vs ds own' M' H', P ds own' → C F M0 H0 own' ρ σ M' H' → Same M M' → Dvs M' vs ds → Q vs H') → ta σ H Q
section
variable {F : List Addr} {M0 H0 M H M' H' : Hp} {own own' : Own} {ρ ρ' : Ev} {σ σ' : St} {te ta tb : TE} {d : D} {P : D → Own → Prop} {D : Ends}
theorem E.x (h : E own ρ te d) : X own ρ te (fun x o => x = d ∧ o = own) := fun F M0 H0 σ M H c Q q => h σ M H c.sd Q fun v M' H' u r => q v d own M' H' ⟨rfl, rfl⟩ (c.pure u) u.mm r
theorem ET.x {tt : TT} {b : Bool} (h : ET own ρ tt b) : XT own ρ tt (fun x o => x = b ∧ o = own) := fun F M0 H0 σ M H c Q q => h σ M H c.sd Q fun M' H' u => q b own M' H' ⟨rfl, rfl⟩ (c.pure u) u.mm
theorem EA.x {ta : TA} {ds : List Ly.D} (h : EA own ρ ta ds) : XA own ρ ta (fun x o => x = ds ∧ o = own) := fun F M0 H0 σ M H c Q q => h σ M H c.sd Q fun vs M' H' u r => q vs ds own M' H' ⟨rfl, rfl⟩ (c.pure u) u.mm r
theorem X.imp {P' : Ly.D → Own → Prop} (h : X own ρ te P) (k : ∀ d o, P d o → P' d o) : X own ρ te P' := fun F M0 H0 σ M H c Q q => h F M0 H0 σ M H c Q fun v d o M' H' p => q v d o M' H' (k d o p)
theorem XT.imp {tt : TT} {P P' : Bool → Own → Prop} (h : XT own ρ tt P) (k : ∀ d o, P d o → P' d o) : XT own ρ tt P' := fun F M0 H0 σ M H c Q q => h F M0 H0 σ M H c Q fun d o M' H' p => q d o M' H' (k d o p)
/-- two operands in a row: the operation by what it gives -/
theorem x_op {r : R2} {Pa : Ly.D → Own → Prop} {Pb : Ly.D → Ly.D → Own → Prop} (ha : X own ρ ta Pa) (hb : ∀ x o, Pa x o → X o ρ tb (Pb x))
    (hr : ∀ x y o, (∃ o1, Pa x o1 ∧ Pb x y o) → ∃ z, P z o ∧ ∀ (v w : V) (M H : Hp), Same M H → OwnOk M H o → Dv M v x → Dv M w y → ∀ Q : VK, (∀ u M' H', Pu M H M' H' → Dv M' u z → Q u H') → r v w H Q) : X own ρ (tOp r ta tb) P :=
  fun F M0 H0 σ M H c Q q => ha F M0 H0 σ M H c _ fun v x o1 M1 H1 p1 c1 s1 r1 => hb x o1 p1 F M0 H0 σ M1 H1 c1 _ fun w y o2 M2 H2 p2 c2 s2 r2 => by
    obtain ⟨z, pz, k⟩ := hr x y o2 ⟨o1, p1, p2⟩
    exact k v w M2 H2 c2.sd.mh c2.sd.ow (r1.mono s2) r2 Q fun u M3 H3 u3 r3 => q u z o2 M3 H3 pz (c2.pure u3) ((s1.trans s2).trans u3.mm) r3
theorem xa_nil : XA own ρ tNil (fun x o => x = [] ∧ o = own) := fun F M0 H0 σ M H c Q q => q [] [] own M H ⟨rfl, rfl⟩ c (Same.refl _) .nil
theorem xa_cons {tr : TA} {Pa : Ly.D → Own → Prop} {Pr : Ly.D → List Ly.D → Own → Prop} (ha : X own ρ te Pa) (hr : ∀ x o, Pa x o → XA o ρ tr (Pr x)) : XA own ρ (tCons te tr) (fun ds o => ∃ x r o1, ds = x :: r ∧ Pa x o1 ∧ Pr x r o) :=
  fun F M0 H0 σ M H c Q q => ha F M0 H0 σ M H c _ fun v x o1 M1 H1 p1 c1 s1 r1 => hr x o1 p1 F M0 H0 σ M1 H1 c1 _ fun vs r o2 M2 H2 p2 c2 s2 r2 => q (v :: vs) (x :: r) o2 M2 H2 ⟨x, r, o1, rfl, p1, p2⟩ c2 (s1.trans s2) (.cons (r1.mono s2) r2)
theorem XA.imp {ta : TA} {P P' : List Ly.D → Own → Prop} (h : XA own ρ ta P) (k : ∀ d o, P d o → P' d o) : XA own ρ ta P' := fun F M0 H0 σ M H c Q q => h F M0 H0 σ M H c Q fun v d o M' H' p => q v d o M' H' (k d o p)
theorem x_tup {t : TA} {P : List Ly.D → Own → Prop} (h : XA own ρ t P) (hl : ∀ ds o, P ds o → ds.length ≤ 100000) : X own ρ (tTup t) (fun d o => ∃ ds, d = .tup ds ∧ P ds o) := fun F M0 H0 σ M H c Q q =>
  h F M0 H0 σ M H c _ fun vs ds o M1 H1 p1 c1 s1 r1 => ⟨by rw [r1.length]; exact Nat.le_trans (hl ds o p1) (by decide), fun p hp => by
    have u := Pu.newM (o := .tup vs) c1.sd.mh hp
    exact q (.ref p) (.tup ds) o _ _ ⟨ds, rfl, p1⟩ (c1.pure u) (s1.trans u.mm) (.tup upd_same (r1.mono u.mm))⟩
theorem x_lst {t : TA} {P : List Ly.D → Own → Prop} (h : XA own ρ t P) (hl : ∀ ds o, P ds o → ds.length ≤ 100000) : X own ρ (tLst t) (fun d o => ∃ ds, d = .lst ds ∧ P ds o) := fun F M0 H0 σ M H c Q q =>
  h F M0 H0 σ M H c _ fun vs ds o M1 H1 p1 c1 s1 r1 => ⟨by rw [r1.length]; exact Nat.le_trans (hl ds o p1) (by decide), fun p hp => by
    have u := Pu.newM (o := .lst vs) c1.sd.mh hp
    exact q (.ref p) (.lst ds) o _ _ ⟨ds, rfl, p1⟩ (c1.pure u) (s1.trans u.mm) (.lst upd_same (r1.mono u.mm))⟩
theorem xt_test {P : Bool → Own → Prop} (h : X own ρ te (fun d o => ∃ b, d = .bl b ∧ P b o)) : XT own ρ (tTest te) P := fun F M0 H0 σ M H c Q q => h F M0 H0 σ M H c _ fun v d o M1 H1 ⟨b, e, p⟩ c1 s1 r1 => by
  subst e
  exact ⟨b, r1.raw_eq, q b o M1 H1 p c1 s1⟩
theorem xt_or {t u : TT} {Pa Pb P : Bool → Own → Prop} (h1 : XT own ρ t Pa) (h2 : ∀ o, Pa false o → XT o ρ u P) (h3 : ∀ o, Pa true o → P true o) : XT own ρ (tOr t u) P := fun F M0 H0 σ M H c Q q => h1 F M0 H0 σ M H c _ fun b o M1 H1 p1 c1 s1 => by
  cases b with
  | true => show Q true H1; exact q true o M1 H1 (h3 o p1) c1 s1
  | false => show u σ H1 Q; exact h2 o p1 F M0 H0 σ M1 H1 c1 Q fun b o2 M2 H2 p2 c2 s2 => q b o2 M2 H2 p2 c2 (s1.trans s2)
theorem xt_and {t u : TT} {Pa P : Bool → Own → Prop} (h1 : XT own ρ t Pa) (h2 : ∀ o, Pa true o → XT o ρ u P) (h3 : ∀ o, Pa false o → P false o) : XT own ρ (tAnd t u) P := fun F M0 H0 σ M H c Q q => h1 F M0 H0 σ M H c _ fun b o M1 H1 p1 c1 s1 => by
  cases b with
  | true => show u σ H1 Q; exact h2 o p1 F M0 H0 σ M1 H1 c1 Q fun b o2 M2 H2 p2 c2 s2 => q b o2 M2 H2 p2 c2 (s1.trans s2)
  | false => show Q false H1; exact q false o M1 H1 (h3 o p1) c1 s1
theorem x_if {t : TT} {Pt : Bool → Own → Prop} (h : XT own ρ t Pt) (h1 : ∀ o, Pt true o → X o ρ ta P) (h2 : ∀ o, Pt false o → X o ρ tb P) : X own ρ (tIf t ta tb) P := fun F M0 H0 σ M H c Q q => h F M0 H0 σ M H c _ fun b o M1 H1 p1 c1 s1 => by
  cases b with
  | true => show ta σ H1 Q; exact h1 o p1 F M0 H0 σ M1 H1 c1 Q fun v d o2 M2 H2 p2 c2 s2 => q v d o2 M2 H2 p2 c2 (s1.trans s2)
  | false => show tb σ H1 Q; exact h2 o p1 F M0 H0 σ M1 H1 c1 Q fun v d o2 M2 H2 p2 c2 s2 => q v d o2 M2 H2 p2 c2 (s1.trans s2)

/-! ### statements -/
theorem sq {t u : TS} (h : t { D with nx := u D } σ H) : tSeq t u D σ H := h
/-- what a target does with a datum -/
def EG (g : TG) (d : Ly.D) (f : Ev → Ev) : Prop := ∀ (own : Own) (ρ : Ev) (σ : St) (M H : Hp) (v : V), Sd own ρ σ M H → Dv M v d → ∀ Q : St → Hp → Prop, (∀ σ', EnvD M σ' (f ρ) → Q σ' H) → g v σ H Q
theorem eg_name {i : Nat} {d : Ly.D} : EG (gName i) d (fun ρ => ρ.set i (some d)) := fun own ρ σ M H v s r Q q => q _ (s.env.set r i)
def EGs (g : TGs) (ds : List Ly.D) (f : Ev → Ev) : Prop := ∀ (ρ : Ev) (σ : St) (M H : Hp) (vs : List V), EnvD M σ ρ → Dvs M vs ds → ∀ Q : St → Hp → Prop, (∀ σ', EnvD M σ' (f ρ) → Q σ' H) → g vs σ H Q
theorem egs_nil : EGs gNil [] (fun ρ => ρ) := fun ρ σ M H vs s r Q q => by
  cases r
  exact ⟨rfl, q σ s⟩
theorem egs_name {i : Nat} {d : Ly.D} {ds : List Ly.D} {g : TGs} {f : Ev → Ev} (h : EGs g ds f) : EGs (gCons (gName i) g) (d :: ds) (fun ρ => f (ρ.set i (some d))) := fun ρ σ M H vs s r Q q => by
  cases r with
  | cons r rs => exact ⟨_, _, rfl, h (ρ.set i (some d)) _ M H _ (s.set r i) rs Q q⟩
theorem eg_tup {K : PySem.W.Frag} {n : Nat} {g : TGs} {ds : List Ly.D} {f : Ev → Ev} (h : EGs g ds f) (hn : ds.length = n := by rfl) : EG (gTup K n g) (.tup ds) f := fun own ρ σ M H v s r Q q => by
  cases r with
  | @tup a vs _ ha hs => exact ⟨a, vs, rfl, .of (s.mh _ _ ha), hs.length.trans hn, h ρ σ M H vs s.env hs Q q⟩
theorem eg_unl {K : PySem.W.Frag} {n : Nat} {g : TGs} {ds : List Ly.D} {f : Ev → Ev} (h : EGs g ds f) (hn : ds.length = n := by rfl) : EG (gUnl K n g) (.lst ds) f := fun own ρ σ M H v s r Q q => by
  cases r with
  | @lst a vs _ ha hs => exact ⟨a, vs, rfl, .of (s.mh _ _ ha), hs.length.trans hn, h ρ σ M H vs s.env hs Q q⟩
theorem s_asg {g : TG} {f : Ly.D → Ev → Ev} (c : C F M0 H0 own ρ σ M H) (h : X own ρ te P) (hg : ∀ d o, P d o → EG g d (f d)) (k : ∀ d o σ' M' H', P d o → Same M M' → C F M0 H0 o (f d ρ) σ' M' H' → D.nx σ' H') : tAsg te g D σ H :=
  h F M0 H0 σ M H c _ fun v d o M1 H1 p c1 s1 r1 => hg d o p o ρ σ M1 H1 v c1.sd r1 _ fun σ' en => k d o σ' M1 H1 p s1 (c1.env en)
/-- name = e, e plain -/
theorem s_set {i : Nat} (c : C F M0 H0 own ρ σ M H) (h : E own ρ te d) (k : ∀ σ' M' H', C F M0 H0 own (ρ.set i (some d)) σ' M' H' → D.nx σ' H') : tAsg te (gName i) D σ H :=
  s_asg c h.x (f := fun d ρ => ρ.set i (some d)) (fun d o p => eg_name) fun d o σ' M' H' p _ c' => by
    obtain ⟨rfl, rfl⟩ := p
    exact k σ' M' H' c'
/-- name = e, e may change own cells -/
theorem s_setX {i : Nat} (c : C F M0 H0 own ρ σ M H) (h : X own ρ te P) (k : ∀ d o σ' M' H', P d o → C F M0 H0 o (ρ.set i (some d)) σ' M' H' → D.nx σ' H') : tAsg te (gName i) D σ H :=
  s_asg c h (f := fun d ρ => ρ.set i (some d)) (fun d o p => eg_name) fun d o σ' M' H' p _ c' => k d o σ' M' H' p c'
theorem s_drop (c : C F M0 H0 own ρ σ M H) (h : X own ρ te P) (k : ∀ d o M' H', P d o → C F M0 H0 o ρ σ M' H' → D.nx σ H') : tDrop te D σ H :=
  h F M0 H0 σ M H c _ fun v d o M1 H1 p c1 s1 r1 => k d o M1 H1 p c1
theorem s_ret (c : C F M0 H0 own ρ σ M H) (h : X own ρ te P) (k : ∀ v d o M' H', P d o → C F M0 H0 o ρ σ M' H' → Dv M' v d → D.rt v H') : tRet te D σ H :=
  h F M0 H0 σ M H c _ fun v d o M1 H1 p c1 s1 r1 => k v d o M1 H1 p c1 r1
theorem s_ifX {t : TT} {ta tb : TS} {P : Bool → Own → Prop} (c : C F M0 H0 own ρ σ M H) (h : XT own ρ t P) (h1 : ∀ o M' H', P true o → C F M0 H0 o ρ σ M' H' → ta D σ H') (h2 : ∀ o M' H', P false o → C F M0 H0 o ρ σ M' H' → tb D σ H') : tIfS t ta tb D σ H :=
  h F M0 H0 σ M H c _ fun b o M1 H1 p c1 _ => by
    cases b with
    | true => show ta D σ H1; exact h1 o M1 H1 p c1
    | false => show tb D σ H1; exact h2 o M1 H1 p c1
theorem s_if {t : TT} {ta tb : TS} {b : Bool} (c : C F M0 H0 own ρ σ M H) (h : ET own ρ t b) (h1 : b = true → ∀ M' H', C F M0 H0 own ρ σ M' H' → ta D σ H') (h2 : b = false → ∀ M' H', C F M0 H0 own ρ σ M' H' → tb D σ H') : tIfS t ta tb D σ H :=
  s_ifX c h.x (fun o M' H' p c' => by obtain ⟨e, rfl⟩ := p; exact h1 e.symm M' H' c') fun o M' H' p c' => by obtain ⟨e, rfl⟩ := p; exact h2 e.symm M' H' c'
theorem s_next (h : D.nx σ H) : tNext D σ H := h

/-! ### what a loop walks -/
/-- J walks ds while what was known stays known -/
structure Wk (J : It) (ds : List Ly.D) (M0 : Hp) : Prop where
  goes : ∀ i M H, i < ds.length → Same M0 M → Same M H → J.go i H
  stops : ∀ M H, Same M0 M → Same M H → J.stop ds.length H
  yields : ∀ i x d M H H', ds[i]? = some d → Same M0 M → Same M H → J.yld i H x H' → ∃ M', Pu M H M' H' ∧ Dv M' x d
def EI (own : Own) (ρ : Ev) (wi : TI) (ds : List Ly.D) : Prop := ∀ (σ : St) (M H : Hp), Sd own ρ σ M H → ∀ R : It → Hp → Prop, (∀ J M' H', Pu M H M' H' → Wk J ds M' → R J H') → wi σ H R
theorem wk_list {K : PySem.W.Frag} {a : Addr} {vs : List V} {ds : List Ly.D} (h : M a = some (.lst vs)) (hs : Dvs M vs ds) : Wk (Itl K a) ds M where
  goes := fun i M' H hi s1 s2 => ⟨vs, vs[i]'(by rw [hs.length]; exact hi), .of (s2 _ _ (s1 _ _ h)), by simp [hs.length, hi]⟩
  stops := fun M' H s1 s2 => ⟨vs, .of (s2 _ _ (s1 _ _ h)), Nat.le_of_eq hs.length⟩
  yields := fun i x d M' H H' e s1 s2 y => by
    obtain ⟨e1, e2⟩ := y
    obtain ⟨v, hv, r⟩ := hs.get e
    have := e2 vs (.of (s2 _ _ (s1 _ _ h)))
    rw [hv] at this; cases this
    exact ⟨M', by rw [e1]; exact .refl s2, r.mono s1⟩
theorem wk_tup {K : PySem.W.Frag} {a : Addr} {vs : List V} {ds : List Ly.D} (h : M a = some (.tup vs)) (hs : Dvs M vs ds) : Wk (Itt K a) ds M where
  goes := fun i M' H hi s1 s2 => ⟨vs, vs[i]'(by rw [hs.length]; exact hi), .of (s2 _ _ (s1 _ _ h)), by simp [hs.length, hi]⟩
  stops := fun M' H s1 s2 => ⟨vs, .of (s2 _ _ (s1 _ _ h)), Nat.le_of_eq hs.length⟩
  yields := fun i x d M' H H' e s1 s2 y => by
    obtain ⟨e1, e2⟩ := y
    obtain ⟨v, hv, r⟩ := hs.get e
    have := e2 vs (.of (s2 _ _ (s1 _ _ h)))
    rw [hv] at this; cases this
    exact ⟨M', by rw [e1]; exact .refl s2, r.mono s1⟩
/-- the numbers lo, lo + 1, .. -/
def rgD (lo : Int) (n : Nat) : List Ly.D := (List.range n).map fun i : Nat => .int (lo + (i : Int))
theorem rgD_len {lo : Int} {n : Nat} : (rgD lo n).length = n := by unfold rgD; rw [List.length_map, List.length_range]
theorem rgD_get {lo : Int} {n i : Nat} {d : Ly.D} (h : (rgD lo n)[i]? = some d) : i < n ∧ d = .int (lo + (i : Int)) := by
  have hi : i < n := by have := (List.getElem?_eq_some_iff.mp h).1; rwa [rgD_len] at this
  unfold rgD at h
  rw [List.getElem?_map, List.getElem?_range hi] at h
  exact ⟨hi, by simpa using h.symm⟩
theorem wk_range {lo : Int} {n : Nat} : Wk (Itr lo n) (rgD lo n) M where
  goes := fun i M' H hi s1 s2 => by rw [rgD_len] at hi; exact hi
  stops := fun M' H s1 s2 => by rw [rgD_len]; exact Nat.le_refl _
  yields := fun i x d M' H H' e s1 s2 y => by
    obtain ⟨e1, e2⟩ := y
    obtain ⟨_, rfl⟩ := rgD_get e
    exact ⟨M', by rw [e1]; exact .refl s2, by rw [e2]; exact .raw _⟩
theorem ei_list {K : PySem.W.Frag} {ds : List Ly.D} (h : E own ρ te (.lst ds)) : EI own ρ (iList K te) ds := fun σ M H s R q => h σ M H s _ fun v M1 H1 u r => by
  cases r with
  | @lst a vs _ ha hs => exact ⟨a, rfl, ⟨vs, .of (u.mh _ _ ha)⟩, q _ M1 H1 u (wk_list ha hs)⟩
theorem ei_tup {K : PySem.W.Frag} {ds : List Ly.D} (h : E own ρ te (.tup ds)) : EI own ρ (iTup K te) ds := fun σ M H s R q => h σ M H s _ fun v M1 H1 u r => by
  cases r with
  | @tup a vs _ ha hs => exact ⟨a, rfl, ⟨vs, .of (u.mh _ _ ha)⟩, q _ M1 H1 u (wk_tup ha hs)⟩
theorem ei_range1 {ta : TA} {n : Int} (h : EA own ρ ta [.int n]) (h1 : -(2 ^ 62) ≤ n := by omega) (h2 : n < 2 ^ 62 := by omega) : EI own ρ (iRng1 ta) (rgD 0 n.toNat) := fun σ M H s R q => h σ M H s _ fun vs M1 H1 u r => by
  have e : vs = [.int n] := Dvs.raws_eq (us := [.int n]) r
  exact ⟨n, e, h1, h2, q _ M1 H1 u wk_range⟩
theorem ei_range2 {ta : TA} {a n : Int} (h : EA own ρ ta [.int a, .int n]) (h1 : -(2 ^ 62) ≤ n := by omega) (h2 : n < 2 ^ 62 := by omega) (h3 : -(2 ^ 62) ≤ a := by omega) (h4 : a < 2 ^ 62 := by omega) : EI own ρ (iRng2 ta) (rgD a (n - a).toNat) := fun σ M H s R q => h σ M H s _ fun vs M1 H1 u r => by
  have e : vs = [.int a, .int n] := Dvs.raws_eq (us := [.int a, .int n]) r
  exact ⟨a, n, e, ⟨h3, h4, h1, h2⟩, q _ M1 H1 u wk_range⟩

/-- new tuples, Y tells of what -/
theorem wk_w {n : Nat} {G : Hp → Prop} {Y : Nat → List V → Prop} {ds : List Ly.D} (hn : ds.length = n) (hG : ∀ M' H, Same M M' → Same M' H → G H) (hY : ∀ i ys d, ds[i]? = some d → Y i ys → ∃ es, d = .tup es ∧ Dvs M ys es) : Wk (Itw n G Y) ds M where
  goes := fun i M' H hi s1 s2 => ⟨by rw [← hn]; exact hi, hG M' H s1 s2⟩
  stops := fun M' H s1 s2 => ⟨hn, hG M' H s1 s2⟩
  yields := fun i x d M' H H' e s1 s2 y => by
    obtain ⟨T, ys, rfl, hT, hy, rfl⟩ := y
    obtain ⟨es, rfl, r⟩ := hY i ys d e hy
    have u := Pu.newM (o := .tup ys) s2 hT
    exact ⟨_, u, .tup upd_same (r.mono (s1.trans u.mm))⟩
/-- a datum that is a list or a tuple -/
inductive SqD : Ly.D → List Ly.D → Prop
  | lst (ds : List Ly.D) : SqD (.lst ds) ds
  | tup (ds : List Ly.D) : SqD (.tup ds) ds
theorem SqD.at_ {d : Ly.D} {ds : List Ly.D} {v : V} (s : SqD d ds) (r : Dv M v d) : ∃ (k : Bool) (a : Addr) (vs : List V), v = .ref a ∧ Dvs M vs ds ∧ ∀ (K : PySem.W.Frag) (M' H : Hp), Same M M' → Same M' H → SqK k K H a vs := by
  cases s with
  | lst => cases r with
    | @lst a vs _ ha hs => exact ⟨true, a, vs, rfl, hs, fun K M' H s1 s2 => SqL.of (s2 _ _ (s1 _ _ ha))⟩
  | tup => cases r with
    | @tup a vs _ ha hs => exact ⟨false, a, vs, rfl, hs, fun K M' H s1 s2 => SqT.of (s2 _ _ (s1 _ _ ha))⟩
def enD (ds : List Ly.D) : List Ly.D := (List.range ds.length).map fun i : Nat => .tup [.int (i : Int), ds.getD i .non]
def zip2D (xs ys : List Ly.D) : List Ly.D := (xs.zip ys).map fun p => .tup [p.1, p.2]
def zip3D (xs ys zs : List Ly.D) : List Ly.D := (xs.zip (ys.zip zs)).map fun p => .tup [p.1, p.2.1, p.2.2]
theorem enD_len {ds : List Ly.D} : (enD ds).length = ds.length := by unfold enD; rw [List.length_map, List.length_range]
theorem enD_get {ds : List Ly.D} {i : Nat} {d : Ly.D} (h : (enD ds)[i]? = some d) : ∃ x, ds[i]? = some x ∧ d = .tup [.int (i : Int), x] := by
  have hi : i < ds.length := by have := (List.getElem?_eq_some_iff.mp h).1; rwa [enD_len] at this
  unfold enD at h
  rw [List.getElem?_map, List.getElem?_range hi] at h
  refine ⟨ds[i], by simp [hi], ?_⟩
  have e : ds.getD i .non = ds[i] := by simp [List.getD, hi]
  rw [← e]
  simpa using h.symm
theorem ei_en {K : PySem.W.Frag} {d : Ly.D} {ds : List Ly.D} (h : E own ρ te d) (sd : SqD d ds) : EI own ρ (iEn K (tCons te tNil)) (enD ds) := fun σ M H s R q => h σ M H s _ fun v M1 H1 u r => by
  obtain ⟨k, a, vs, rfl, hs, hk⟩ := sd.at_ r
  refine ⟨k, a, vs, rfl, hk K _ _ (Same.refl _) u.mh, q _ M1 H1 u (wk_w (enD_len.trans hs.length.symm) (fun M' H' s1 s2 => hk K M' H' s1 s2) fun i ys d e y => ?_)⟩
  obtain ⟨x, hx, rfl⟩ := enD_get e
  obtain ⟨w, hw, rfl⟩ := y
  obtain ⟨w', hw', rw'⟩ := hs.get hx
  rw [hw] at hw'; cases hw'
  exact ⟨_, rfl, .cons (.raw _) (.cons rw' .nil)⟩
theorem ei_zip2 {K : PySem.W.Frag} {d e : Ly.D} {ds es : List Ly.D} (h : E own ρ ta d) (h' : E own ρ tb e) (sd : SqD d ds) (se : SqD e es) : EI own ρ (iZip2 K (tCons ta (tCons tb tNil))) (zip2D ds es) := fun σ M H s R q => h σ M H s _ fun v M1 H1 u r => h' σ M1 H1 (s.pure u) _ fun w M2 H2 u2 r2 => by
  obtain ⟨k, a, vs, rfl, hs, hk⟩ := sd.at_ (r.mono u2.mm)
  obtain ⟨k2, b, ws, rfl, hs2, hk2⟩ := se.at_ r2
  refine ⟨k, k2, a, b, vs, ws, rfl, hk K _ _ (Same.refl _) u2.mh, hk2 K _ _ (Same.refl _) u2.mh, q _ M2 H2 (u.trans u2) (wk_w ?_ (fun M' H' s1 s2 => ⟨hk K M' H' s1 s2, hk2 K M' H' s1 s2⟩) fun i ys d e y => ?_)⟩
  · unfold zip2D; rw [List.length_map, List.length_zip, hs.length, hs2.length]
  · obtain ⟨x1, x2, e1, e2, rfl⟩ := y
    unfold zip2D at e
    rw [List.getElem?_map, Option.map_eq_some_iff] at e
    obtain ⟨p, hp, rfl⟩ := e
    obtain ⟨p1, p2⟩ := p
    obtain ⟨g1, g2⟩ := List.getElem?_zip_eq_some.mp hp
    obtain ⟨w1, hw1, r1⟩ := hs.get g1
    obtain ⟨w2, hw2, r2'⟩ := hs2.get g2
    rw [e1] at hw1; cases hw1
    rw [e2] at hw2; cases hw2
    exact ⟨_, rfl, .cons r1 (.cons r2' .nil)⟩
theorem ei_zip3 {K : PySem.W.Frag} {tc : TE} {d e f : Ly.D} {ds es fs : List Ly.D} (h : E own ρ ta d) (h' : E own ρ tb e) (h'' : E own ρ tc f) (sd : SqD d ds) (se : SqD e es) (sf : SqD f fs) : EI own ρ (iZip3 K (tCons ta (tCons tb (tCons tc tNil)))) (zip3D ds es fs) :=
  fun σ M H s R q => h σ M H s _ fun v M1 H1 u r => h' σ M1 H1 (s.pure u) _ fun w M2 H2 u2 r2 => h'' σ M2 H2 ((s.pure u).pure u2) _ fun z M3 H3 u3 r3 => by
  obtain ⟨k, a, vs, rfl, hs, hk⟩ := sd.at_ ((r.mono u2.mm).mono u3.mm)
  obtain ⟨k2, b, ws, rfl, hs2, hk2⟩ := se.at_ (r2.mono u3.mm)
  obtain ⟨k3, c, zs, rfl, hs3, hk3⟩ := sf.at_ r3
  refine ⟨k, k2, k3, a, b, c, vs, ws, zs, rfl, hk K _ _ (Same.refl _) u3.mh, hk2 K _ _ (Same.refl _) u3.mh, hk3 K _ _ (Same.refl _) u3.mh, q _ M3 H3 ((u.trans u2).trans u3) (wk_w ?_ (fun M' H' s1 s2 => ⟨hk K M' H' s1 s2, hk2 K M' H' s1 s2, hk3 K M' H' s1 s2⟩) fun i ys d e y => ?_)⟩
  · unfold zip3D; rw [List.length_map, List.length_zip, List.length_zip, hs.length, hs2.length, hs3.length]; omega
  · obtain ⟨x1, x2, x3, e1, e2, e3, rfl⟩ := y
    unfold zip3D at e
    rw [List.getElem?_map, Option.map_eq_some_iff] at e
    obtain ⟨p, hp, rfl⟩ := e
    obtain ⟨p1, p2, p3⟩ := p
    obtain ⟨g1, g23⟩ := List.getElem?_zip_eq_some.mp hp
    obtain ⟨g2, g3⟩ := List.getElem?_zip_eq_some.mp g23
    obtain ⟨w1, hw1, r1⟩ := hs.get g1
    obtain ⟨w2, hw2, r2'⟩ := hs2.get g2
    obtain ⟨w3, hw3, r3'⟩ := hs3.get g3
    rw [e1] at hw1; cases hw1
    rw [e2] at hw2; cases hw2
    rw [e3] at hw3; cases hw3
    exact ⟨_, rfl, .cons r1 (.cons r2' (.cons r3' .nil))⟩

/-! ### for -/
/-- a for: what holds ahead of turn i is P i x of some x, the cells ow x, the slots rh x -/
theorem s_for {wi : TI} {g : TG} {tb : TS} {ds : List Ly.D} {G : Type} (P : Nat → G → Prop) (ow : G → Own) (rh : G → Ev) (x0 : G) (c : C F M0 H0 own ρ σ M H) (hi : EI own ρ wi ds)
    (h0 : P 0 x0) (ho : ow x0 = own) (hr : ∀ σ M H, C F M0 H0 own ρ σ M H → C F M0 H0 own (rh x0) σ M H) (f : Ly.D → Ev → Ev) (hg : ∀ (i : Nat) (d : Ly.D), ds[i]? = some d → EG g d (f d))
    (hs : ∀ (i : Nat) (d : Ly.D) x σ' M' H', ds[i]? = some d → P i x → C F M0 H0 (ow x) (f d (rh x)) σ' M' H' → ∀ D' : Ends, D'.rt = D.rt → D'.bk = D.nx → (∀ x' σ2 M2 H2, P (i + 1) x' → C F M0 H0 (ow x') (rh x') σ2 M2 H2 → Same M' M2 → D'.nx σ2 H2) → tb D' σ' H')
    (hd : ∀ x σ' M' H', P ds.length x → C F M0 H0 (ow x) (rh x) σ' M' H' → D.nx σ' H') : tFor wi g tb D σ H :=
  hi σ M H c.sd _ fun J M1 H1 u w => by
    have c1 := c.pure u
    have wk : Walk J ds.length (fun H' => ∃ M', Same M1 M' ∧ Same M' H') (fun i H' x H'' => ∀ M', Same M1 M' → Same M' H' → ∀ d, ds[i]? = some d → ∃ M'', Pu M' H' M'' H'' ∧ Dv M'' x d) :=
      ⟨fun i H' hi ⟨M', s1, s2⟩ => w.goes i M' H' hi s1 s2, fun H' ⟨M', s1, s2⟩ => w.stops M' H' s1 s2, fun i H' x H'' _ _ y M' s1 s2 d e => w.yields i x d M' H' H'' e s1 s2 y⟩
    refine for_it wk (fun i σ' H' => ∃ x M', P i x ∧ C F M0 H0 (ow x) (rh x) σ' M' H' ∧ Same M1 M') ⟨x0, M1, h0, by rw [ho]; exact hr σ M1 H1 c1, Same.refl _⟩ (fun i σ' H' _ ⟨x, M', _, c', s⟩ => ⟨M', s, c'.sd.mh⟩) (fun i v σ' H' H'' hi ⟨x, M', p, c', s⟩ y => ?_) (fun σ' H' ⟨x, M', p, c', s⟩ => hd x σ' M' H' p c')
    have e : ds[i]? = some ds[i] := by simp [hi]
    obtain ⟨M'', u', r⟩ := y M' s c'.sd.mh _ e
    have c2 := c'.pure u'
    refine hg i _ e (ow x) (rh x) σ' M'' H'' v c2.sd r _ fun σ2 en => ?_
    refine hs i _ x σ2 M'' H'' e p (c2.env en) { D with nx := fun σ' H' => ∃ x M', P (i + 1) x ∧ C F M0 H0 (ow x) (rh x) σ' M' H' ∧ Same M1 M', ct := fun σ' H' => ∃ x M', P (i + 1) x ∧ C F M0 H0 (ow x) (rh x) σ' M' H' ∧ Same M1 M', bk := D.nx } rfl rfl fun x' σ3 M3 H3 p3 c3 s3 => ⟨x', M3, p3, c3, (s.trans u'.mm).trans s3⟩
/-- a while -/
theorem s_while {t : TT} {tb : TS} {G : Type} (P : G → Prop) (μ : G → Nat) (ow : G → Own) (rh : G → Ev) (x0 : G) (c : C F M0 H0 own ρ σ M H) (h0 : P x0) (ho : ow x0 = own) (hr : C F M0 H0 own ρ σ M H → C F M0 H0 own (rh x0) σ M H)
    (b : G → Bool) (ht : ∀ x, P x → ET (ow x) (rh x) t (b x))
    (hs : ∀ x σ' M' H', P x → b x = true → C F M0 H0 (ow x) (rh x) σ' M' H' → ∀ D' : Ends, D'.rt = D.rt → (∀ x' σ2 M2 H2, P x' → μ x' < μ x → C F M0 H0 (ow x') (rh x') σ2 M2 H2 → D'.nx σ2 H2) → tb D' σ' H')
    (hd : ∀ x σ' M' H', P x → b x = false → C F M0 H0 (ow x) (rh x) σ' M' H' → D.nx σ' H') : tWhile t tb D σ H := by
  refine ⟨fun m σ' H' => ∃ x M', m = μ x ∧ P x ∧ C F M0 H0 (ow x) (rh x) σ' M' H', ⟨μ x0, x0, M, rfl, h0, by rw [ho]; exact hr c⟩, fun m σ' H' ⟨x, M', em, p, c'⟩ => ?_⟩
  refine ht x p σ' M' H' c'.sd _ fun M2 H2 u => ?_
  have c2 := c'.pure u
  cases hb : b x with
  | true =>
    rw [if_pos rfl]
    exact ⟨fun σ' H' => ∃ x' M', P x' ∧ μ x' < m ∧ C F M0 H0 (ow x') (rh x') σ' M' H', fun σ3 H3 ⟨x', M3, p', l, c3⟩ => ⟨μ x', l, x', M3, rfl, p', c3⟩,
      hs x σ' M2 H2 p hb c2 { D with nx := fun σ' H' => ∃ x' M', P x' ∧ μ x' < m ∧ C F M0 H0 (ow x') (rh x') σ' M' H', ct := fun σ' H' => ∃ x' M', P x' ∧ μ x' < m ∧ C F M0 H0 (ow x') (rh x') σ' M' H', bk := D.nx } rfl fun x' σ3 M3 H3 p' l c3 => ⟨x', M3, p', by rw [em]; exact l, c3⟩⟩
  | false =>
    rw [if_neg Bool.false_ne_true]; exact hd x σ' M2 H2 p hb c2

/-! ### list comprehensions -/
theorem wipe_set {σ : L2.St} {j : Nat} {x : Option V} : ∀ {vs : List Nat}, j ∈ vs → wipe (σ.set j x) vs = wipe σ vs
  | v :: vs, h => by
    unfold wipe
    by_cases hj : j ∈ vs
    · rw [wipe_set hj]
    · have e : j = v := by
        obtain e | e := List.mem_cons.mp h
        · exact e
        · exact absurd e hj
      subst e
      have key : ∀ (us : List Nat), j ∉ us → wipe (σ.set j x) us = (wipe σ us).set j x := by
        intro us
        induction us with
        | nil => intro _; rfl
        | cons u us ih =>
          intro hu
          have h1 : j ≠ u := fun z => hu (by rw [z]; exact List.mem_cons_self ..)
          have h2 : j ∉ us := fun z => hu (List.mem_cons_of_mem _ z)
          show (wipe (σ.set j x) us).set u none = ((wipe σ us).set u none).set j x
          rw [ih h2, List.set_comm _ _ h1]
      rw [key vs hj, List.set_set]
theorem wipe_wipe {σ : L2.St} : ∀ (us vs : List Nat), (∀ u ∈ us, u ∈ vs) → wipe (wipe σ us) vs = wipe σ vs
  | [], vs, _ => rfl
  | u :: us, vs, h => by
    show wipe ((wipe σ us).set u none) vs = _
    rw [wipe_set (h u (List.mem_cons_self ..)), wipe_wipe us vs fun w hw => h w (List.mem_cons_of_mem _ hw)]
/-- a comprehension's target: what it does with a datum, within the slots vs -/
def EW (g : TG) (vs : List Nat) (d : Ly.D) (f : Ev → Ev) : Prop := ∀ (own : Own) (ρ : Ev) (σ : L2.St) (M H : Hp) (v : V), Sd own ρ σ M H → Dv M v d → ∀ Q : L2.St → Hp → Prop, (∀ σ', EnvD M σ' (f ρ) → wipe σ' vs = wipe σ vs → Q σ' H) → g v σ H Q
theorem ew_name {i : Nat} {vs : List Nat} {d : Ly.D} (h : i ∈ vs) : EW (gName i) vs d (fun ρ => ρ.set i (some d)) := fun own ρ σ M H v s r Q q => q _ (s.env.set r i) (wipe_set h)
def EWs (g : TGs) (vs : List Nat) (ds : List Ly.D) (f : Ev → Ev) : Prop := ∀ (ρ : Ev) (σ : L2.St) (M H : Hp) (us : List V), EnvD M σ ρ → Dvs M us ds → ∀ Q : L2.St → Hp → Prop, (∀ σ', EnvD M σ' (f ρ) → wipe σ' vs = wipe σ vs → Q σ' H) → g us σ H Q
theorem ews_nil {vs : List Nat} : EWs gNil vs [] (fun ρ => ρ) := fun ρ σ M H us s r Q q => by
  cases r
  exact ⟨rfl, q σ s rfl⟩
theorem ews_name {i : Nat} {vs : List Nat} {d : Ly.D} {ds : List Ly.D} {g : TGs} {f : Ev → Ev} (hi : i ∈ vs) (h : EWs g vs ds f) : EWs (gCons (gName i) g) vs (d :: ds) (fun ρ => f (ρ.set i (some d))) := fun ρ σ M H us s r Q q => by
  cases r with
  | cons r rs => exact ⟨_, _, rfl, h (ρ.set i (some d)) _ M H _ (s.set r i) rs Q fun σ' e w => q σ' e (w.trans (wipe_set hi))⟩
theorem ew_tup {K : PySem.W.Frag} {n : Nat} {vs : List Nat} {g : TGs} {ds : List Ly.D} {f : Ev → Ev} (h : EWs g vs ds f) (hn : ds.length = n := by rfl) : EW (gTup K n g) vs (.tup ds) f := fun own ρ σ M H v s r Q q => by
  cases r with
  | @tup a us _ ha hs => exact ⟨a, us, rfl, .of (s.mh _ _ ha), hs.length.trans hn, h ρ σ M H us s.env hs Q q⟩
/-- the items kept: those of ds of which p holds, each turned by e -/
def keep (ds : List Ly.D) (p : Ly.D → Bool) (e : Ly.D → Ly.D) : List Ly.D := (ds.filter p).map e
theorem keep_snoc (ds : List Ly.D) (p : Ly.D → Bool) (e : Ly.D → Ly.D) (i : Nat) (d : Ly.D) (h : ds[i]? = some d) : keep (ds.take (i + 1)) p e = keep (ds.take i) p e ++ if p d = true then [e d] else [] := by
  unfold keep
  rw [List.take_add_one, h, List.filter_append, List.map_append]
  congr 1
  by_cases hp : p d = true
  · simp [hp]
  · simp [hp]
theorem en_lc {wi : TI} {g : TG} {tt : TT} {vs : List Nat} {ds : List Ly.D} (p : Ly.D → Bool) (e : Ly.D → Ly.D) (f : Ly.D → Ev → Ev) (hi : EI own ρ wi ds) (hl : ds.length ≤ 100000)
    (hg : ∀ (i : Nat) (d : Ly.D), ds[i]? = some d → EW g vs d (f d)) (ht : ∀ (i : Nat) (d : Ly.D), ds[i]? = some d → ET own (f d (wipeD ρ vs)) tt (p d)) (he : ∀ (i : Nat) (d : Ly.D), ds[i]? = some d → p d = true → E own (f d (wipeD ρ vs)) te (e d)) :
    EN own ρ (tLc wi g tt te vs) (keep ds p e) := fun σ M H s Q q =>
  hi σ M H s _ fun J M1 H1 u w D hD => by
    have s1 := s.pure u
    have wk : Walk J ds.length (fun H' => ∃ M', Same M1 M' ∧ Same M' H') (fun i H' x H'' => ∀ M', Same M1 M' → Same M' H' → ∀ d, ds[i]? = some d → ∃ M'', Pu M' H' M'' H'' ∧ Dv M'' x d) :=
      ⟨fun i H' hi ⟨M', s1, s2⟩ => w.goes i M' H' hi s1 s2, fun H' ⟨M', s1, s2⟩ => w.stops M' H' s1 s2, fun i H' x H'' _ _ y M' s1 s2 d e => w.yields i x d M' H' H'' e s1 s2 y⟩
    refine lc_it wk (fun i H' => ∃ M' us, Pu M1 H1 M' H' ∧ M' D = none ∧ H' D = some (.lst us) ∧ Dvs M' us (keep (ds.take i) p e)) ⟨M1, [], Pu.newH u.mh hD, same_back u.mh hD, upd_same, by simp [keep]; exact .nil⟩
      (fun i H' _ ⟨M', us, u', _⟩ => ⟨M', u'.mm, u'.mh⟩) (fun i x H' H'' hi ⟨M', us, u', n', a', r'⟩ y => ?_) (fun H' ⟨M', us, u', n', a', r'⟩ => ?_)
    · have ed : ds[i]? = some ds[i] := by simp [hi]
      obtain ⟨M2, u2, r2⟩ := y M' u'.mm u'.mh _ ed
      have hus : us.length ≤ i := by
        rw [r'.length]
        unfold keep
        rw [List.length_map]
        exact Nat.le_trans (List.length_filter_le _ _) (by rw [List.length_take]; omega)
      have s2 : Sd own (wipeD ρ vs) (wipe σ vs) M2 H'' := ⟨u2.mh, (((s1.pure u').pure u2).env).wipe vs, ((s1.ow.pure u').pure u2)⟩
      refine hg i _ ed own (wipeD ρ vs) (wipe σ vs) M2 H'' x s2 r2 _ fun σ2 en hw => ⟨hw.trans (by rw [wipe_wipe vs vs fun _ h => h]), ?_⟩
      have s3 : Sd own (f ds[i] (wipeD ρ vs)) σ2 M2 H'' := ⟨s2.mh, en, s2.ow⟩
      refine ht i _ ed σ2 M2 H'' s3 _ fun M3 H3 u3 => ?_
      have nD : ∀ {Ma Mb Ha Hb : Hp}, Pu Ma Ha Mb Hb → Ha D = some (.lst us) → Ma D = none → Mb D = none := fun u a n => u.nn _ _ a n
      cases hp : p ds[i] with
      | true =>
        rw [if_pos rfl]
        refine he i _ ed hp σ2 M3 H3 (s3.pure u3) _ fun v M4 H4 u4 r4 => ?_
        have n2 := nD u2 a' n'
        have a2 := u2.hh _ _ a'
        have n3 := nD u3 a2 n2
        have a3 := u3.hh _ _ a2
        have n4 := nD u4 a3 n3
        have a4 := u4.hh _ _ a3
        have u5 := ((u'.trans u2).trans u3).trans u4
        refine ⟨us, a4, by rw [sizeLine_eq]; omega, M4, us ++ [v], ⟨u5.mm, fun b o h => ?_, fun b o h => ?_, u5.nn⟩, n4, upd_same, ?_⟩
        · have hb : b ≠ D := ne_of_none h hD
          rw [upd_ne hb]; exact u5.hh b o h
        · have hb : b ≠ D := ne_of_none h n4
          rw [upd_ne hb]; exact u5.mh b o h
        · rw [keep_snoc ds p e i _ ed, if_pos hp]
          exact (r'.mono ((u2.mm.trans u3.mm).trans u4.mm)).append (.cons r4 .nil)
      | false =>
        rw [if_neg Bool.false_ne_true]; have n2 := nD u2 a' n'
        have a2 := u2.hh _ _ a'
        refine ⟨M3, us, (u'.trans u2).trans u3, nD u3 a2 n2, u3.hh _ _ a2, ?_⟩
        rw [keep_snoc ds p e i _ ed, if_neg (by rw [hp]; decide), List.append_nil]
        exact r'.mono (u2.mm.trans u3.mm)
    · rw [List.take_length] at r'
      exact q D us M' H' (u.trans u') (u.hh.free hD) n' a' r'
/-- no test -/
theorem et_yes : ET own ρ tYes true := fun σ M H s Q q => q M H (.refl s.mh)
end
end Ly
/-! Ly3: the best reading of a text over a family of contexts; rules by what data come. -/
namespace Ly
open PySem L2 Mc

section
variable {ι : Type} (Z : ι → Cx)
def wE (e : Expr) : TE := fun σ H Q => ∃ t : TE, (∀ i, PE (Z i) e t) ∧ t σ H Q
def wT (e : Expr) : TT := fun σ H Q => ∃ t : TT, (∀ i, PT (Z i) e t) ∧ t σ H Q
def wA (es : List Expr) : TA := fun σ H Q => ∃ t : TA, (∀ i, PA (Z i) es t) ∧ t σ H Q
def wO (e : Option Expr) : TO := fun σ H Q => ∃ t : TO, (∀ i, PO (Z i) e t) ∧ t σ H Q
def wG (e : Expr) : TG := fun v σ H Q => ∃ t : TG, (∀ i, PG (Z i) e t) ∧ t v σ H Q
def wGs (es : List Expr) : TGs := fun v σ H Q => ∃ t : TGs, (∀ i, PGs (Z i) es t) ∧ t v σ H Q
def wI (tg e : Expr) : TI := fun σ H R => ∃ t : TI, (∀ i, PI (Z i) tg e t) ∧ t σ H R
def wTs (es : List Expr) : TT := fun σ H Q => ∃ t : TT, (∀ i, PTs (Z i) es t) ∧ t σ H Q
def wS (st : Stmt) : TS := fun D σ H => ∃ t : TS, (∀ i, PS (Z i) st t) ∧ t D σ H
def wB (b : List Stmt) : TS := fun D σ H => ∃ t : TS, (∀ i, PSs (Z i) b t) ∧ t D σ H
end
section
variable {ι : Type} {Z : ι → Cx}
theorem pe_w {e : Expr} (i : ι) : PE (Z i) e (wE Z e) := ⟨fun pins s σ H Q I ⟨_, h, q⟩ => (h i).run pins s σ H Q I q⟩
theorem pt_w {e : Expr} (i : ι) : PT (Z i) e (wT Z e) := ⟨fun pins s σ H Q I ⟨_, h, q⟩ => (h i).run pins s σ H Q I q⟩
theorem pa_w {e : List Expr} (i : ι) : PA (Z i) e (wA Z e) := ⟨fun pos pins s σ H Q I ⟨_, h, q⟩ => (h i).run pos pins s σ H Q I q⟩
theorem po_w {e : Option Expr} (i : ι) : PO (Z i) e (wO Z e) := ⟨fun pins s σ H Q I ⟨_, h, q⟩ => (h i).run pins s σ H Q I q⟩
theorem pg_w {e : Expr} (i : ι) : PG (Z i) e (wG Z e) := ⟨fun pins s σ H v u Q I r ⟨_, h, q⟩ => (h i).run pins s σ H v u Q I r q⟩
theorem pgs_w {e : List Expr} (i : ι) : PGs (Z i) e (wGs Z e) := ⟨fun pins s σ H v u Q I r ⟨_, h, q⟩ => (h i).run pins s σ H v u Q I r q⟩
theorem pi_w {tg e : Expr} (i : ι) : PI (Z i) tg e (wI Z tg e) := ⟨fun pins s σ H R I ⟨_, h, q⟩ => (h i).run pins s σ H R I q⟩
theorem pts_w {e : List Expr} (i : ι) : PTs (Z i) e (wTs Z e) := ⟨fun pins s σ H Q I ⟨_, h, q⟩ => (h i).run pins s σ H Q I q⟩
theorem ps_w {e : Stmt} (i : ι) : PS (Z i) e (wS Z e) := ⟨fun pins s σ H D I ⟨_, h, q⟩ => (h i).run pins s σ H D I q⟩
theorem pb_w {e : List Stmt} (i : ι) : PSs (Z i) e (wB Z e) := ⟨fun pins s σ H D I ⟨_, h, q⟩ => (h i).run pins s σ H D I q⟩
end

/-- what all contexts of a family have -/
structure Fam {ι : Type} (Z : ι → Cx) (P_ : Program) (w_ : World) (K_ : PySem.W.Frag) (mg_ : Str → Option Value) (base_ : Heap) (N_ : List Str) (k_ : Nat) : Prop where
  P : ∀ i, (Z i).prog = P_
  w : ∀ i, (Z i).w = w_
  K : ∀ i, (Z i).K = K_
  mg : ∀ i, (Z i).mg = mg_
  base : ∀ i, (Z i).base = base_
  N : ∀ i, (Z i).N = N_
  nd : N_.Nodup
  calm : ∀ i, (Z i).calm = true
  room : ∀ i, Room k_ (Z i).A

section
variable {ι : Type} {Z : ι → Cx} {own : Own} {ρ : Ev} {P : Program} {wd : World} {K : PySem.W.Frag} {mg : Str → Option Value} {base : Heap} {N : List Str} {k : Nat} (fm : Fam Z P wd K mg base N k)
variable {a b c e : Expr} {es : List Expr} {x y z d : D} {ds xs ys : List D} {i j : Int} {pos p p2 : Pos} {nm : Str}
theorem E.wz {t : TE} (k : E own ρ t d) (h : ∀ i, PE (Z i) e t) : E own ρ (wE Z e) d := fun σ M H s Q q => ⟨t, h, k σ M H s Q q⟩
theorem EN.wz {t : TE} (k : EN own ρ t ds) (h : ∀ i, PE (Z i) e t) : EN own ρ (wE Z e) ds := fun σ M H s Q q => ⟨t, h, k σ M H s Q q⟩
theorem ET.wz {t : TT} {b : Bool} (k : ET own ρ t b) (h : ∀ i, PT (Z i) e t) : ET own ρ (wT Z e) b := fun σ M H s Q q => ⟨t, h, k σ M H s Q q⟩
theorem EA.wz {t : TA} (k : EA own ρ t ds) (h : ∀ i, PA (Z i) es t) : EA own ρ (wA Z es) ds := fun σ M H s Q q => ⟨t, h, k σ M H s Q q⟩

/-! ### names, constants -/
theorem w_nm (v : Nat) (hN : ∀ j, (Z j).N[v]? = some nm) (h : ρ[v]? = some (some d)) (hv : ∀ j, Vis (Z j).env.scope nm := by intro _; first | exact Or.inl rfl | exact Or.inr (Or.inl rfl) | exact Or.inr (Or.inr rfl))
    (hd : (nm == ("__debug__" : Str)) = false := by decide) (hcd : (nm == ("__classdict__" : Str)) = false := by decide) : E own ρ (wE Z (.Name nm pos)) d := (e_var h).wz fun j => pe_var (hN j) (hv j) hd hcd
theorem w_int {i : Int} {j} : E own ρ (wE Z (.Constant (.int i) j pos)) (.int i) := e_c.wz fun _ => pe_int
theorem w_bl {i : Bool} {j} : E own ρ (wE Z (.Constant (.bool i) j pos)) (.bl i) := e_c.wz fun _ => pe_bl
theorem w_non {j} : E own ρ (wE Z (.Constant .none j pos)) .non := e_c.wz fun _ => pe_non
theorem w_str {i : Str} {j} : E own ρ (wE Z (.Constant (.str i) j pos)) (.str i) := e_c.wz fun _ => pe_str
include fm in
theorem w_glob {v : V} {u : Value} (hm : mg nm = some u) (r : RelV v u) (hg : ∀ i, Gl (Z i) nm := by intro _; rfl) (hd : (nm == ("__debug__" : Str)) = false := by decide) : E own ρ (wE Z (.Name nm pos)) (.raw v) :=
  e_c.wz fun i => pe_glob (hg i) (by rw [fm.mg]; exact hm) r hd
include fm in
theorem w_blt {v : V} {u : Value} (hm : mg nm = none) (hv : bootBuiltins nm = some u) (r : RelV v u) (hg : ∀ i, Gl (Z i) nm := by intro _; rfl) (hn : nm ≠ "__name__" := by decide) (hd : (nm == ("__debug__" : Str)) = false := by decide) : E own ρ (wE Z (.Name nm pos)) (.raw v) :=
  e_c.wz fun i => pe_bltn (hg i) (by rw [fm.mg]; exact hm) hv r hn hd

/-! ### numbers -/
theorem w_sub (ha : E own ρ (wE Z a) (.int i)) (hb : E own ρ (wE Z b) (.int j)) : E own ρ (wE Z (.BinOp a .Sub b pos)) (.int (i - j)) := (e_rI0 ha hb).wz fun n => pe_op op_sub (pe_w n) (pe_w n)
theorem w_div (ha : E own ρ (wE Z a) (.int i)) (hb : E own ρ (wE Z b) (.int j)) (h : 0 < j ∧ j < 1073741824) : E own ρ (wE Z (.BinOp a .FloorDiv b pos)) (.int (i / j)) := (e_rI ha hb h).wz fun n => pe_op op_fdiv (pe_w n) (pe_w n)
theorem w_mod (ha : E own ρ (wE Z a) (.int i)) (hb : E own ρ (wE Z b) (.int j)) (h : 0 < j) : E own ρ (wE Z (.BinOp a .Mod b pos)) (.int (i % j)) := (e_rI (C := fun _ j => 0 < j) ha hb h).wz fun n => pe_op op_mod (pe_w n) (pe_w n)
theorem w_pow (ha : E own ρ (wE Z a) (.int i)) (hb : E own ρ (wE Z b) (.int j)) (h : 0 ≤ j ∧ j ≤ 1000000 ∧ i.natAbs < 2 ^ 64) : E own ρ (wE Z (.BinOp a .Pow b pos)) (.int (i ^ j.toNat)) := (e_rI (C := CPow) ha hb h).wz fun n => pe_op op_pow (pe_w n) (pe_w n)
theorem w_neg (ha : E own ρ (wE Z a) (.int i)) : E own ρ (wE Z (.UnaryOp .USub a pos)) (.int (-i)) := (e_un ha fun v M H mh _ r Q q => ⟨i, r.raw_eq, q _ M H (.refl mh) (.raw _)⟩).wz fun n => pe_un un_neg (pe_w n)
theorem Dv.lst_inv {M : Hp} {v : V} (h : Dv M v (.lst ds)) : ∃ a vs, v = .ref a ∧ M a = some (.lst vs) ∧ Dvs M vs ds := by cases h; exact ⟨_, _, rfl, by assumption, by assumption⟩
theorem Dv.tup_inv {M : Hp} {v : V} (h : Dv M v (.tup ds)) : ∃ a vs, v = .ref a ∧ M a = some (.tup vs) ∧ Dvs M vs ds := by cases h; exact ⟨_, _, rfl, by assumption, by assumption⟩
/-- a + b -/
def addD : D → D → D
  | .raw (.int i), .raw (.int j) => .int (i + j)
  | .lst xs, .lst ys => .lst (xs ++ ys)
  | .tup xs, .tup ys => .tup (xs ++ ys)
  | _, _ => .non
def addOk : D → D → Prop
  | .raw (.int _), .raw (.int _) => True
  | .lst xs, .lst ys => xs.length + ys.length ≤ 100000
  | .tup xs, .tup ys => xs.length + ys.length ≤ 100000
  | _, _ => False
theorem OpR.or {X : Cx} {f : Value → Value → Sem Value} {r r' : R2} (h : OpR X f r) (h' : OpR X f r') : OpR X f (fun x y H Q => r x y H Q ∨ r' x y H Q) := by
  intros pins s σ H x y v u Q I rx ry q
  rcases q with q | q
  · refine h pins s σ H x y v u Q I rx ry q
  · refine h' pins s σ H x y v u Q I rx ry q
theorem big : 100000 ≤ sizeLine := by decide
/-- a new tuple where the reading gives it at any free place -/
theorem q_tup {M H : Hp} {Q : VK} {vs : List V} (mh : Same M H) (r : Dvs M vs ds) (q : ∀ u M' H', Pu M H M' H' → Dv M' u (.tup ds) → Q u H') : ∀ p, H p = none → Q (.ref p) (upd H p (.tup vs)) :=
  fun p hp => q _ _ _ (Pu.newM mh hp) (.tup upd_same (r.mono (same_new (same_back mh hp))))
theorem q_lst {M H : Hp} {Q : VK} {vs : List V} (mh : Same M H) (r : Dvs M vs ds) (q : ∀ u M' H', Pu M H M' H' → Dv M' u (.lst ds) → Q u H') : ∀ p, H p = none → Q (.ref p) (upd H p (.lst vs)) :=
  fun p hp => q _ _ _ (Pu.newM mh hp) (.lst upd_same (r.mono (same_new (same_back mh hp))))
/-- a new list that is not let go -/
theorem q_new {M H : Hp} {Q : VK} {vs : List V} (mh : Same M H) (r : Dvs M vs ds) (q : ∀ p us M' H', Pu M H M' H' → H p = none → M' p = none → H' p = some (.lst us) → Dvs M' us ds → Q (.ref p) H') : ∀ p, H p = none → Q (.ref p) (upd H p (.lst vs)) :=
  fun p hp => q p vs M _ (Pu.newH mh hp) hp (same_back mh hp) upd_same r
def addR (K : PySem.W.Frag) : R2 := fun x y H Q => (rI0 fun i j => .int (i + j)) x y H Q ∨ rCat x y H Q ∨ rCatA K x y H Q
include fm in
theorem w_add (ha : E own ρ (wE Z a) x) (hb : E own ρ (wE Z b) y) (h : addOk x y) : E own ρ (wE Z (.BinOp a .Add b pos)) (addD x y) := by
  refine E.wz (t := tOp (addR K) (wE Z a) (wE Z b)) (e_op ha hb fun v u M H mh _ r1 r2 Q q => ?_) fun n => pe_op (fm.K n ▸ op_add.or (op_cat.or op_catA)) (pe_w n) (pe_w n)
  unfold addOk at h
  split at h
  · exact .inl ⟨_, _, r1.raw_eq, r2.raw_eq, q _ M H (.refl mh) (.raw _)⟩
  · obtain ⟨a, vs, rfl, ha, rs⟩ := r1.lst_inv
    obtain ⟨b, us, rfl, hb, rt⟩ := r2.lst_inv
    exact .inr (.inl ⟨a, b, vs, us, rfl, rfl, mh _ _ ha, mh _ _ hb, by rw [rs.length, rt.length]; exact Nat.le_trans h big, q_lst mh (rs.append rt) q⟩)
  · rename_i xs ys
    obtain ⟨a, vs, rfl, ha, rs⟩ := r1.tup_inv
    obtain ⟨b, us, rfl, hb, rt⟩ := r2.tup_inv
    refine .inr (.inr ⟨a, b, vs, us, rfl, rfl, .of (mh _ _ ha), .of (mh _ _ hb), by rw [rs.length, rt.length]; exact Nat.le_trans h big, fun e => ?_, fun e e' => ?_, fun _ _ => q_tup mh (rs.append rt) q⟩)
    · subst e; cases rs; exact q _ M H (.refl mh) (.tup hb rt)
    · subst e'; cases rt; refine q _ M H (.refl mh) ?_
      show Dv M _ (.tup (xs ++ []))
      rw [List.append_nil]
      exact .tup ha rs
  · exact h.elim
/-- xs + ys, not yet let go -/
theorem n_cat (ha : E own ρ (wE Z a) (.lst xs)) (hb : E own ρ (wE Z b) (.lst ys)) (h : xs.length + ys.length ≤ 100000) : EN own ρ (wE Z (.BinOp a .Add b pos)) (xs ++ ys) := by
  refine EN.wz (t := tOp rCat (wE Z a) (wE Z b)) (fun σ M H s Q q => ha σ M H s _ fun v M1 H1 u1 r1 => hb σ M1 H1 (s.pure u1) _ fun v2 M2 H2 u2 r2 => ?_) fun n => pe_op op_cat (pe_w n) (pe_w n)
  obtain ⟨a, vs, rfl, ha, rs⟩ := (r1.mono u2.mm).lst_inv
  obtain ⟨b, us, rfl, hb, rt⟩ := r2.lst_inv
  have u := u1.trans u2
  exact ⟨a, b, vs, us, rfl, rfl, u2.mh _ _ ha, u2.mh _ _ hb, by rw [rs.length, rt.length]; exact Nat.le_trans h big, fun p hp => q p _ M2 _ (u.trans (Pu.newH u2.mh hp)) (u.hh.free hp) (same_back u2.mh hp) upd_same (rs.append rt)⟩
/-- a * b -/
def mulD : D → D → D
  | .raw (.int i), .raw (.int j) => .int (i * j)
  | .lst xs, .raw (.int j) => .lst (List.replicate j.toNat xs).flatten
  | .tup xs, .raw (.int j) => .tup (List.replicate j.toNat xs).flatten
  | _, _ => .non
def mulOk : D → D → Prop
  | .raw (.int i), .raw (.int j) => CMul i j
  | .lst xs, .raw (.int j) => j ≤ 10000 ∧ -10000 ≤ j ∧ xs.length ≤ 1
  | .tup xs, .raw (.int j) => xs ≠ [] ∧ 0 ≤ j ∧ j ≤ 1000 ∧ xs.length ≤ 1000
  | _, _ => False
def mulR (K : PySem.W.Frag) : R2 := fun x y H Q => (rI CMul fun i j => .int (i * j)) x y H Q ∨ rRep x y H Q ∨ rRepU K x y H Q
theorem rep_le {n : Nat} {vs : List V} (h : vs.length ≤ 1) : vs.length * n ≤ n := by
  rcases Nat.le_one_iff_eq_zero_or_eq_one.mp h with e | e <;> rw [e] <;> simp
include fm in
theorem w_mul (ha : E own ρ (wE Z a) x) (hb : E own ρ (wE Z b) y) (h : mulOk x y) : E own ρ (wE Z (.BinOp a .Mult b pos)) (mulD x y) := by
  refine E.wz (t := tOp (mulR K) (wE Z a) (wE Z b)) (e_op ha hb fun v u M H mh _ r1 r2 Q q => ?_) fun n => pe_op (fm.K n ▸ op_mul.or (op_rep.or op_repU)) (pe_w n) (pe_w n)
  unfold mulOk at h
  split at h
  · exact .inl ⟨_, _, r1.raw_eq, r2.raw_eq, h, q _ M H (.refl mh) (.raw _)⟩
  · rename_i xs j
    obtain ⟨a, vs, rfl, ha, rs⟩ := r1.lst_inv
    obtain ⟨h1, h2, h3⟩ := h
    have h4 : vs.length * j.toNat ≤ 10000 := Nat.le_trans (rep_le (by rw [rs.length]; exact h3)) (by omega)
    exact .inr (.inl ⟨a, _, vs, rfl, r2.raw_eq, mh _ _ ha, by omega, by omega, Nat.le_trans h4 (by decide), q_lst mh (rs.rep _) q⟩)
  · rename_i xs j
    obtain ⟨a, vs, rfl, ha, rs⟩ := r1.tup_inv
    obtain ⟨h1, h2, h3, h4⟩ := h
    have ej : (j.toNat : Int) = j := by omega
    refine .inr (.inr ⟨a, j.toNat, vs, rfl, by rw [ej]; exact r2.raw_eq, .of (mh _ _ ha), fun e => h1 ?_, by omega, by rw [rs.length]; exact h4, fun e => ?_, fun _ => q_tup mh (rs.rep _) q⟩)
    · subst e; cases rs; rfl
    · refine q _ M H (.refl mh) ?_
      show Dv M _ (.tup (List.replicate j.toNat xs).flatten)
      rw [e]
      simp only [List.replicate_one, List.flatten_singleton]
      exact .tup ha rs
  · exact h.elim
/-- [x] * n, not yet let go -/
theorem n_rep (ha : E own ρ (wE Z a) (.lst xs)) (hb : E own ρ (wE Z b) (.int j)) (h : j ≤ 10000 ∧ -10000 ≤ j ∧ xs.length ≤ 1) : EN own ρ (wE Z (.BinOp a .Mult b pos)) (List.replicate j.toNat xs).flatten := by
  refine EN.wz (t := tOp rRep (wE Z a) (wE Z b)) (fun σ M H s Q q => ha σ M H s _ fun v M1 H1 u1 r1 => hb σ M1 H1 (s.pure u1) _ fun v2 M2 H2 u2 r2 => ?_) fun n => pe_op op_rep (pe_w n) (pe_w n)
  obtain ⟨a, vs, rfl, ha, rs⟩ := (r1.mono u2.mm).lst_inv
  have u := u1.trans u2
  obtain ⟨h1, h2, h3⟩ := h
  have h4 : vs.length * j.toNat ≤ 10000 := Nat.le_trans (rep_le (by rw [rs.length]; exact h3)) (by omega)
  exact ⟨a, _, vs, rfl, r2.raw_eq, u2.mh _ _ ha, by omega, by omega, Nat.le_trans h4 (by decide), fun p hp => q p _ M2 _ (u.trans (Pu.newH u2.mh hp)) (u.hh.free hp) (same_back u2.mh hp) upd_same (rs.rep _)⟩

/-! ### comparisons -/
def Cm (Z : ι → Cx) (op : CmpOp) (x y : D) (b : Bool) : Prop := ∃ r : R2, (∀ i, OpR (Z i) (compareOp op) r) ∧ ∀ (v u : V) (M H : Hp), Same M H → Dv M v x → Dv M u y → ∀ Q : VK, Q (.bl b) H → r v u H Q
theorem e_cm {op : CmpOp} {g : Bool} {ta tb : TE} (ha : E own ρ ta x) (hb : E own ρ tb y) {r : R2} (h : ∀ (v u : V) (M H : Hp), Same M H → Dv M v x → Dv M u y → ∀ Q : VK, Q (.bl g) H → r v u H Q) : E own ρ (tOp r ta tb) (.bl g) :=
  e_op ha hb fun v u M H mh _ r1 r2 Q q => h v u M H mh r1 r2 Q (q _ M H (.refl mh) (.raw _))
theorem w_cmp {op : CmpOp} {g : Bool} (ha : E own ρ (wE Z a) x) (hb : E own ρ (wE Z b) y) (h : Cm Z op x y g) (hm : behindInMarks op b = false := by first | exact nomark _ | with_unfolding_all rfl) : E own ρ (wE Z (.Compare a [op] [b] pos)) (.bl g) := by
  obtain ⟨r, h1, h2⟩ := h
  exact (e_cm (op := op) ha hb h2).wz fun n => pe_cmpR (h1 n) (pe_w n) (pe_w n) hm
theorem t_cmp {op : CmpOp} {g : Bool} (ha : E own ρ (wE Z a) x) (hb : E own ρ (wE Z b) y) (h : Cm Z op x y g) (hm : behindInMarks op b = false := by first | exact nomark _ | with_unfolding_all rfl) : ET own ρ (wT Z (.Compare a [op] [b] pos)) g := by
  obtain ⟨r, h1, h2⟩ := h
  exact (et_test (e_cm (op := op) ha hb h2)).wz fun n => pt_cmpR (h1 n) (pe_w n) (pe_w n) hm
theorem e_chain {ta tb tc : TE} {r r' : R2} {g g' : Bool} (ha : E own ρ ta x) (hb : E own ρ tb y) (hc : E own ρ tc z) (h : ∀ (v u : V) (M H : Hp), Same M H → Dv M v x → Dv M u y → ∀ Q : VK, Q (.bl g) H → r v u H Q)
    (h' : ∀ (v u : V) (M H : Hp), Same M H → Dv M v y → Dv M u z → ∀ Q : VK, Q (.bl g') H → r' v u H Q) : E own ρ (tChain r r' ta tb tc) (.bl (g && g')) := fun σ M H s Q q =>
  ha σ M H s _ fun v M1 H1 u1 r1 => hb σ M1 H1 (s.pure u1) _ fun u M2 H2 u2 r2 => h v u M2 H2 u2.mh (r1.mono u2.mm) r2 _ ⟨g, rfl, by
    cases g with
    | true => rw [if_pos rfl]; exact hc σ M2 H2 ((s.pure u1).pure u2) _ fun y M3 H3 u3 r3 => h' u y M3 H3 u3.mh (r2.mono u3.mm) r3 Q (q _ M3 H3 ((u1.trans u2).trans u3) (.raw _))
    | false => rw [if_neg Bool.false_ne_true]; exact q _ M2 H2 (u1.trans u2) (.raw _)⟩
theorem w_chain {op op' : CmpOp} {g g' : Bool} (ha : E own ρ (wE Z a) x) (hb : E own ρ (wE Z b) y) (hc : E own ρ (wE Z c) z) (h : Cm Z op x y g) (h' : Cm Z op' y z g') (hm : lastMarks [op, op'] [b, c] = false := by with_unfolding_all rfl) :
    E own ρ (wE Z (.Compare a [op, op'] [b, c] pos)) (.bl (g && g')) := by
  obtain ⟨r, h1, h2⟩ := h
  obtain ⟨r', h3, h4⟩ := h'
  exact (e_chain ha hb hc h2 h4).wz fun n => pe_chain (h1 n) (h3 n) (pe_w n) (pe_w n) (pe_w n) hm
theorem t_chain {op op' : CmpOp} {g g' : Bool} (ha : E own ρ (wE Z a) x) (hb : E own ρ (wE Z b) y) (hc : E own ρ (wE Z c) z) (h : Cm Z op x y g) (h' : Cm Z op' y z g') (hm : lastMarks [op, op'] [b, c] = false := by with_unfolding_all rfl) :
    ET own ρ (wT Z (.Compare a [op, op'] [b, c] pos)) (g && g') := by
  obtain ⟨r, h1, h2⟩ := h
  obtain ⟨r', h3, h4⟩ := h'
  exact (et_test (e_chain ha hb hc h2 h4)).wz fun n => pt_chain (h1 n) (h3 n) (pe_w n) (pe_w n) (pe_w n) hm
theorem cm_I {op : CmpOp} {g : Int → Int → V} {k : Bool} (h : ∀ n, OpR (Z n) (compareOp op) (rI0 g)) (e : g i j = .bl k) : Cm Z op (.int i) (.int j) k := ⟨_, h, fun v u M H _ r1 r2 Q q => ⟨i, j, r1.raw_eq, r2.raw_eq, by rw [e]; exact q⟩⟩
theorem cm_lt : Cm Z .Lt (.int i) (.int j) (decide (i < j)) := cm_I (fun _ => op_lt) rfl
theorem cm_le : Cm Z .LtE (.int i) (.int j) (decide (i ≤ j)) := cm_I (fun _ => op_le) rfl
theorem cm_gt : Cm Z .Gt (.int i) (.int j) (decide (j < i)) := cm_I (fun _ => op_gt) rfl
theorem cm_ge : Cm Z .GtE (.int i) (.int j) (decide (j ≤ i)) := cm_I (fun _ => op_ge) rfl
theorem cm_eqS {v u : V} (h : scal v u = true := by rfl) : Cm Z .Eq (.raw v) (.raw u) (decide (v = u)) := ⟨_, fun _ => op_eq, fun v' u' M H _ r1 r2 Q q => by rw [r1.raw_eq, r2.raw_eq]; exact ⟨h, q⟩⟩
theorem cm_neS {v u : V} (h : scal v u = true := by rfl) : Cm Z .NotEq (.raw v) (.raw u) (!decide (v = u)) := ⟨_, fun _ => op_ne, fun v' u' M H _ r1 r2 Q q => by rw [r1.raw_eq, r2.raw_eq]; exact ⟨h, q⟩⟩
-- data as pure data
mutual
inductive Py : D → PyData → Prop
  | non : Py .non .none
  | bl (b : Bool) : Py (.bl b) (.bool b)
  | int (i : Int) : Py (.int i) (.int i)
  | str (x : Str) : Py (.str x) (.str x)
  | lst {ds : List D} {ps : List PyData} : Pys ds ps → Py (.lst ds) (.list ps)
  | tup {ds : List D} {ps : List PyData} : Pys ds ps → Py (.tup ds) (.tuple ps)
inductive Pys : List D → List PyData → Prop
  | nil : Pys [] []
  | cons {d : D} {ds : List D} {p : PyData} {ps : List PyData} : Py d p → Pys ds ps → Pys (d :: ds) (p :: ps)
end
mutual
theorem Py.dp {M H : Hp} (mh : Same M H) : ∀ {p : PyData} {d : D} {v : V}, Py d p → Dv M v d → Dp K H v p
  | _, _, _, .non, r => by rw [r.raw_eq]; exact .non
  | _, _, _, .bl b, r => by rw [r.raw_eq]; exact .bl b
  | _, _, _, .int i, r => by rw [r.raw_eq]; exact .int i
  | _, _, _, .str x, r => by rw [r.raw_eq]; exact .str x
  | _, _, _, .lst h, .lst e r => .lst (SqL.of (mh _ _ e)) (Pys.dp mh h r)
  | _, _, _, .tup h, .tup e r => .tup (SqT.of (mh _ _ e)) (Pys.dp mh h r)
theorem Pys.dp {M H : Hp} (mh : Same M H) : ∀ {p : List PyData} {d : List D} {v : List V}, Pys d p → Dvs M v d → DpAll K H v p
  | _, _, _, .nil, .nil => .nil
  | _, _, _, .cons h hs, .cons r rs => .cons (Py.dp mh h r) (Pys.dp mh hs rs)
end
include fm in
theorem cm_eqP {p q : PyData} (hx : Py x p) (hy : Py y q) (sp : SeqAt.shaped p = true) (sq : SeqAt.shaped q = true) : Cm Z .Eq x y (PyData.eqv p q) :=
  ⟨rEqD K, fun n => fm.K n ▸ op_eqD (fm.room n).units, fun v u M H mh r1 r2 Q k => ⟨p, q, hx.dp mh r1, hy.dp mh r2, sp, sq, k⟩⟩
include fm in
theorem cm_neP {p q : PyData} (hx : Py x p) (hy : Py y q) (sp : SeqAt.shaped p = true) (sq : SeqAt.shaped q = true) : Cm Z .NotEq x y (!PyData.eqv p q) :=
  ⟨rNeD K, fun n => fm.K n ▸ op_neD (fm.room n).units, fun v u M H mh r1 r2 Q k => ⟨p, q, hx.dp mh r1, hy.dp mh r2, sp, sq, k⟩⟩
theorem SqD.sq {M H : Hp} {v : V} (s : SqD d ds) (mh : Same M H) (r : Dv M v d) : ∃ a vs, v = .ref a ∧ Dvs M vs ds ∧ (SqL K H a vs ∨ SqT K H a vs) := by
  cases s with
  | lst => obtain ⟨a, vs, rfl, ha, rs⟩ := r.lst_inv; exact ⟨a, vs, rfl, rs, .inl (.of (mh _ _ ha))⟩
  | tup => obtain ⟨a, vs, rfl, ha, rs⟩ := r.tup_inv; exact ⟨a, vs, rfl, rs, .inr (.of (mh _ _ ha))⟩
include fm in
theorem cm_in {v : V} {us : List V} (s : SqD y (us.map D.raw)) (fv : flatV v = true := by rfl) (fu : us.all flatV = true) : Cm Z .In (.raw v) y (inV v us) :=
  ⟨rIn K false, fun n => fm.K n ▸ op_in_seq, fun v' u' M H mh r1 r2 Q k => by
    obtain ⟨a, vs, rfl, rs, hs⟩ := s.sq (K := K) mh r2
    rw [rs.raws_eq] at hs
    rw [r1.raw_eq]
    exact ⟨a, us, rfl, hs, fv, fu, k⟩⟩
include fm in
theorem cm_notIn {v : V} {us : List V} (s : SqD y (us.map D.raw)) (fv : flatV v = true := by rfl) (fu : us.all flatV = true) : Cm Z .NotIn (.raw v) y (!inV v us) :=
  ⟨rIn K true, fun n => fm.K n ▸ op_notIn_seq, fun v' u' M H mh r1 r2 Q k => by
    obtain ⟨a, vs, rfl, rs, hs⟩ := s.sq (K := K) mh r2
    rw [rs.raws_eq] at hs
    rw [r1.raw_eq]
    exact ⟨a, us, rfl, hs, fv, fu, k⟩⟩

/-! ### and, or, not, if -/
theorem t_not {g : Bool} (h : ET own ρ (wT Z a) g) : ET own ρ (wT Z (.UnaryOp .Not a pos)) (!g) := (et_not h).wz fun n => pt_not (pt_w n)
theorem w_not {g : Bool} (h : E own ρ (wE Z a) (.bl g)) : E own ρ (wE Z (.UnaryOp .Not a pos)) (.bl (!g)) := (e_notV h).wz fun n => pe_not (pe_w n)
/-- a test whatever its whole is -/
def wW (Z : ι → Cx) (e : Expr) : TT := fun σ H Q => ∃ t : TT, (∀ i, PW (Z i) e t) ∧ t σ H Q
theorem pw_w {e : Expr} (i : ι) : PW (Z i) e (wW Z e) := ⟨fun wh pins s σ H Q I ⟨_, h, q⟩ => (h i).run wh pins s σ H Q I q⟩
theorem ET.ww {t : TT} {g : Bool} (k : ET own ρ t g) (h : ∀ i, PW (Z i) e t) : ET own ρ (wW Z e) g := fun σ M H s Q q => ⟨t, h, k σ M H s Q q⟩
theorem t_pw {g : Bool} (h : ET own ρ (wW Z a) g) : ET own ρ (wT Z a) g := h.wz fun n => (pw_w n).pt
theorem v_and1 {g : Bool} (h : ET own ρ (wT Z a) g) : ET own ρ (wW Z (.BoolOp .And [a] pos)) g := h.ww fun n => pw_and1 (pt_w n)
theorem v_or1 {g : Bool} (h : ET own ρ (wT Z a) g) : ET own ρ (wW Z (.BoolOp .Or [a] pos)) g := h.ww fun n => pw_or1 (pt_w n)
theorem v_and {g g' : Bool} {rest : List Expr} (h : ET own ρ (wT Z a) g) (h' : g = true → ET own ρ (wW Z (.BoolOp .And (b :: rest) pos)) g') : ET own ρ (wW Z (.BoolOp .And (a :: b :: rest) pos)) (g && g') := (et_and h h').ww fun n => pw_and (pt_w n) (pw_w n)
theorem v_or {g g' : Bool} {rest : List Expr} (h : ET own ρ (wT Z a) g) (h' : g = false → ET own ρ (wW Z (.BoolOp .Or (b :: rest) pos)) g') : ET own ρ (wW Z (.BoolOp .Or (a :: b :: rest) pos)) (g || g') := (et_or h h').ww fun n => pw_or (pt_w n) (pw_w n)
theorem w_one {op} (h : E own ρ (wE Z a) x) : E own ρ (wE Z (.BoolOp op [a] pos)) x := h.wz fun n => pe_one (pe_w n)
/-- values: all are True or False -/
theorem w_and {g g' : Bool} {rest : List Expr} (h : E own ρ (wE Z a) (.bl g)) (h' : g = true → E own ρ (wE Z (.BoolOp .And (b :: rest) pos)) (.bl g')) : E own ρ (wE Z (.BoolOp .And (a :: b :: rest) pos)) (.bl (g && g')) :=
  (e_andV h h' (by cases g <;> rfl)).wz fun n => pe_and (pe_w n) (pe_w n)
theorem w_or {g g' : Bool} {rest : List Expr} (h : E own ρ (wE Z a) (.bl g)) (h' : g = false → E own ρ (wE Z (.BoolOp .Or (b :: rest) pos)) (.bl g')) : E own ρ (wE Z (.BoolOp .Or (a :: b :: rest) pos)) (.bl (g || g')) :=
  (e_orV h h' (by cases g <;> rfl)).wz fun n => pe_or (pe_w n) (pe_w n)
theorem w_if {g : Bool} (h : ET own ρ (wT Z c) g) (h1 : g = true → E own ρ (wE Z a) d) (h2 : g = false → E own ρ (wE Z b) d) : E own ρ (wE Z (.IfExp c a b pos)) d := (e_if h h1 h2).wz fun n => pe_ifExp (pt_w n) (pe_w n) (pe_w n)
/-- a value as a test -/
theorem t_val {g : Bool} (h : E own ρ (wE Z e) (.bl g)) (he : ∀ n whole, isTrue e (Z n).env whole = (do let v ← whole; standAt e.pos; holding [v] (truthy v)) := by intro _ _; rfl) : ET own ρ (wT Z e) g := (et_B h).wz fun n => pt_val (pe_w n) (he n)
theorem et_eq {t : TT} {g g' : Bool} (h : ET own ρ t g) (e : g = g') : ET own ρ t g' := e ▸ h
theorem E.eq {t : TE} (h : E own ρ t x) (e : x = y) : E own ρ t y := e ▸ h

/-! ### items, slices, fields -/
theorem atI_vs {M : Hp} {vs : List V} (r : Dvs M vs ds) (h : atI ds i = some z) : ∃ v, atI vs i = some v ∧ Dv M v z := by
  unfold atI at h ⊢
  rw [r.length]
  cases hk : ixN ds.length i with
  | none => rw [hk] at h; cases h | some k =>
    rw [hk] at h
    exact r.get (show ds[k]? = some z from h)
include fm in
theorem w_ix (ha : E own ρ (wE Z a) x) (hb : E own ρ (wE Z b) (.int i)) (s : SqD x ds) (h : atI ds i = some z) (hs : PlainIx b := by intro _ _; rfl) : E own ρ (wE Z (.Subscript a b pos)) z :=
  E.wz (t := tOp (fun x y H Q => rIxL K x y H Q ∨ rIxT K x y H Q) (wE Z a) (wE Z b)) (e_op ha hb fun v u M H mh _ r1 r2 Q q => by
    cases s with
    | lst => obtain ⟨a, vs, rfl, ha, rs⟩ := r1.lst_inv; obtain ⟨w, h1, h2⟩ := atI_vs rs h; exact .inl ⟨a, vs, i, w, rfl, r2.raw_eq, .of (mh _ _ ha), h1, q _ M H (.refl mh) h2⟩
    | tup => obtain ⟨a, vs, rfl, ha, rs⟩ := r1.tup_inv; obtain ⟨w, h1, h2⟩ := atI_vs rs h; exact .inr ⟨a, vs, i, w, rfl, r2.raw_eq, .of (mh _ _ ha), h1, q _ M H (.refl mh) h2⟩) fun n => pe_ix (fm.K n ▸ ix_list.or ix_tup) (pe_w n) (pe_w n) hs
theorem atI_of {α : Type} {xs : List α} {z : α} {i : Int} (n : Nat) (h : xs[n]? = some z) (e : i = n := by rfl) : atI xs i = some z := by
  subst e
  unfold atI ixN
  rw [if_pos (Int.natCast_nonneg n), if_pos (by have := (List.getElem?_eq_some_iff.mp h).1; omega)]
  simpa using h
/-- the part of a list that a slice is -/
def cutD {α : Type} (xs : List α) (lo hi : Option Int) : List α := (xs.drop (HT.sIx xs.length 0 lo)).take (HT.sIx xs.length xs.length hi - HT.sIx xs.length 0 lo)
theorem Dvs.cut {M : Hp} {vs : List V} (r : Dvs M vs ds) (lo hi : Option Int) : Dvs M (cutV vs lo hi) (cutD ds lo hi) := by
  unfold cutV cutD
  rw [r.length]
  exact (r.drop _).take _
theorem cut_whole {α : Type} {xs : List α} {lo hi : Option Int} (h : HT.sIx xs.length 0 lo = 0 ∧ HT.sIx xs.length xs.length hi = xs.length) : cutD xs lo hi = xs := by
  unfold cutD
  rw [h.1, h.2]
  simp
def slD (lo hi : Option Int) : D → D
  | .lst ds => .lst (cutD ds lo hi)
  | .tup ds => .tup (cutD ds lo hi)
  | x => x
def wlo (Z : ι → Cx) (e : Option Expr) : TO := wO Z e
theorem o_none : EO own ρ (wO Z none) none := fun σ M H s Q q => ⟨_, fun _ => po_none, eo_none σ M H s Q q⟩
theorem o_some (h : E own ρ (wE Z e) (.int i)) : EO own ρ (wO Z (some e)) (some i) := fun σ M H s Q q => ⟨_, fun n => po_some (pe_w n), eo_some h σ M H s Q q⟩
include fm in
theorem w_sl {lo hi : Option Expr} {l h : Option Int} (ha : E own ρ (wE Z a) x) (hl : EO own ρ (wO Z lo) l) (hh : EO own ρ (wO Z hi) h) (s : SqD x ds) : E own ρ (wE Z (.Subscript a (.Slice lo hi none p2) pos)) (slD l h x) := by
  refine E.wz (t := tSl (fun x lo hi H Q => rSlL K x lo hi H Q ∨ rSlA K x lo hi H Q) (wE Z a) (wO Z lo) (wO Z hi)) (fun σ M H sd Q q => ha σ M H sd _ fun v M1 H1 u1 r1 => hl σ M1 H1 (sd.pure u1) _ fun M2 H2 u2 => hh σ M2 H2 ((sd.pure u1).pure u2) _ fun M3 H3 u3 => ?_)
    fun n => pe_slice (fm.K n ▸ sl_list.or sl_tupA) (pe_w n) (po_w n) (po_w n)
  have r := (r1.mono u2.mm).mono u3.mm
  have u := (u1.trans u2).trans u3
  cases s with
  | lst =>
    obtain ⟨a, vs, rfl, ha, rs⟩ := r.lst_inv
    exact .inl ⟨a, vs, rfl, .of (u3.mh _ _ ha), q_lst u3.mh (rs.cut l h) fun w M4 H4 u4 r4 => q w M4 H4 (u.trans u4) r4⟩
  | tup =>
    obtain ⟨a, vs, rfl, ha, rs⟩ := r.tup_inv
    refine .inr ⟨a, vs, rfl, .of (u3.mh _ _ ha), fun e => ?_, fun _ => q_tup u3.mh (rs.cut l h) fun w M4 H4 u4 r4 => q w M4 H4 (u.trans u4) r4⟩
    refine q _ M3 H3 u ?_
    show Dv M3 _ (.tup (cutD ds l h))
    rw [cut_whole (by rw [← rs.length]; exact e)]
    exact .tup ha rs
include fm in
theorem w_rev {j : Nat} {p1 p2 p3 : Pos} (ha : E own ρ (wE Z a) (.lst ds)) : E own ρ (wE Z (.Subscript a (.Slice none none (some (.UnaryOp .USub (.Constant (.int 1) j p1) p2)) p3) pos)) (.lst ds.reverse) :=
  E.wz (t := tRevL K (wE Z a)) (fun σ M H sd Q q => ha σ M H sd _ fun v M1 H1 u1 r1 => by
    obtain ⟨a, vs, rfl, ha, rs⟩ := r1.lst_inv
    exact ⟨a, vs, rfl, .of (u1.mh _ _ ha), q_lst u1.mh rs.reverse fun w M4 H4 u4 r4 => q w M4 H4 (u1.trans u4) r4⟩) fun n => fm.K n ▸ pe_revL (pe_w n)
theorem n_rev {j : Nat} {p1 p2 p3 : Pos} (ha : E own ρ (wE Z a) (.lst ds)) (fm : Fam Z P wd K mg base N k) : EN own ρ (wE Z (.Subscript a (.Slice none none (some (.UnaryOp .USub (.Constant (.int 1) j p1) p2)) p3) pos)) ds.reverse :=
  EN.wz (t := tRevL K (wE Z a)) (fun σ M H sd Q q => ha σ M H sd _ fun v M1 H1 u1 r1 => by
    obtain ⟨a, vs, rfl, ha, rs⟩ := r1.lst_inv
    exact ⟨a, vs, rfl, .of (u1.mh _ _ ha), fun p hp => q p _ M1 _ (u1.trans (Pu.newH u1.mh hp)) (u1.hh.free hp) (same_back u1.mh hp) upd_same rs.reverse⟩) fun n => fm.K n ▸ pe_revL (pe_w n)
include fm in
theorem w_fld {C : Addr} {f : Str} {fs : List (Str × D)} (ha : E own ρ (wE Z e) (.ins C fs)) (cl : Cls K C) (na : NoAttr K C f) (h : fs.lookup f = some d) (hb : ∀ n, attributeBase e f (Z n).env (eval e (Z n).env) = eval e (Z n).env := by intro _; rfl) : E own ρ (wE Z (.Attribute e f pos)) d :=
  E.wz (t := tFld K (wE Z e) f) (fun σ M H sd Q q => ha σ M H sd _ fun v M1 H1 u1 r1 => by
    cases r1 with
    | @ins a _ dx fv _ ea hf =>
      obtain ⟨v, h1, h2⟩ := hf.look h
      exact ⟨a, C, dx, fv, v, rfl, u1.mh _ _ ea, cl, na, h1, q v M1 H1 u1 h2⟩) fun n => fm.K n ▸ pe_fld (pe_w n) (hb n)

/-! ### displays, arguments -/
theorem a_nil : EA own ρ (wA Z []) [] := ea_nil.wz fun _ => pa_nil
theorem a_cons (h : E own ρ (wE Z e) d) (hr : EA own ρ (wA Z es) ds) (hs : ∀ n, starEach (e :: es) (Z n).env = (false, eval e (Z n).env) :: starEach es (Z n).env := by intro _; rfl) : EA own ρ (wA Z (e :: es)) (d :: ds) := (ea_cons h hr).wz fun n => pa_cons (pe_w n) (pa_w n) (hs n)
theorem w_tup {n : Nat} (h : EA own ρ (wA Z es) ds) (hl : ds.length ≤ 100000 := by decide) : E own ρ (wE Z (.Tuple es n pos)) (.tup ds) := (e_tup h hl).wz fun n => pe_tup (pa_w n)
theorem n_lst (h : EA own ρ (wA Z es) ds) (hl : ds.length ≤ 100000 := by decide) : EN own ρ (wE Z (.List es pos)) ds := (en_lst h hl).wz fun n => pe_lst (pa_w n)
theorem w_lst (h : EA own ρ (wA Z es) ds) (hl : ds.length ≤ 100000 := by decide) : E own ρ (wE Z (.List es pos)) (.lst ds) := (n_lst h hl).e

/-! ### calls of built-ins -/
/-- the names of built-ins that the program uses are the built-ins' -/
structure Blt (mg : Str → Option Value) : Prop where
  len : mg "len" = none
  isinstance : mg "isinstance" = none
  all : mg "all" = none
  tuple : mg "tuple" = none
  list : mg "list" = none
  range : mg "range" = none
  enumerate : mg "enumerate" = none
  zip : mg "zip" = none
  sum : mg "sum" = none
  max : mg "max" = none
  min : mg "min" = none
  abs : mg "abs" = none
  int : mg "int" = none
  bool : mg "bool" = none
  str : mg "str" = none
  repr : mg "repr" = none
  sorted : mg "sorted" = none
variable (B : Blt mg)
include fm in
theorem w_cb {id : String} {r : List V → Hp → VK → Prop} {pf : Pos} (hc : ∀ n, CallR (Z n) (.builtin id) r) (hm : mg nm = none) (hv : bootBuiltins nm = some (.builtin id)) (ha : EA own ρ (wA Z (e :: es)) ds)
    (hr : ∀ (vs : List V) (M H : Hp), Same M H → OwnOk M H own → Dvs M vs ds → ∀ Q : VK, (∀ u M' H', Pu M H M' H' → Dv M' u z → Q u H') → r vs H Q) (hg : ∀ n, Gl (Z n) nm) (hn : nm ≠ "__name__") (hdb : (nm == ("__debug__" : Str)) = false)
    (he : ∀ n, starEach (e :: es) (Z n).env = (false, eval e (Z n).env) :: starEach es (Z n).env) (hpl : ∀ n, (backTo pos (starEach es (Z n).env)).any (·.1) = false) : E own ρ (wE Z (.Call (.Name nm pf) (e :: es) [] pos)) z :=
  (e_cb ha hr).wz fun n => pe_callB (hc n) (hg n) (by rw [fm.mg]; exact hm) hv (pa_w n) hn hdb (he n) (hpl n)
include fm in
theorem w_ct {T : String} {r : List V → Hp → VK → Prop} {pf : Pos} (hc : ∀ n, CallR (Z n) (.type T) r) (hm : mg nm = none) (hv : bootBuiltins nm = some (.type T)) (ha : EA own ρ (wA Z (e :: es)) ds)
    (hr : ∀ (vs : List V) (M H : Hp), Same M H → OwnOk M H own → Dvs M vs ds → ∀ Q : VK, (∀ u M' H', Pu M H M' H' → Dv M' u z → Q u H') → r vs H Q) (hg : ∀ n, Gl (Z n) nm) (hn : nm ≠ "__name__") (hdb : (nm == ("__debug__" : Str)) = false)
    (he : ∀ n, starEach (e :: es) (Z n).env = (false, eval e (Z n).env) :: starEach es (Z n).env) (hpl : ∀ n, (backTo pos (starEach es (Z n).env)).any (·.1) = false) : E own ρ (wE Z (.Call (.Name nm pf) (e :: es) [] pos)) z :=
  (e_cb ha hr).wz fun n => pe_callTy (hc n) (hg n) (by rw [fm.mg]; exact hm) hv (pa_w n) hn hdb (he n) (hpl n)
theorem Dvs.one {M : Hp} {vs : List V} (h : Dvs M vs [d]) : ∃ v, vs = [v] ∧ Dv M v d := by
  cases h with
  | cons h t => cases t; exact ⟨_, rfl, h⟩
theorem Dvs.two {M : Hp} {vs : List V} (h : Dvs M vs [x, y]) : ∃ v u, vs = [v, u] ∧ Dv M v x ∧ Dv M u y := by
  cases h with
  | cons h t =>
    obtain ⟨u, rfl, hu⟩ := t.one
    exact ⟨_, _, rfl, h, hu⟩
end
end Ly
/-! Ly4: built-ins called, what is walked, comprehensions, statements, calls of defs, a def's body. -/
namespace Ly
open PySem L2 Mc

section
variable {ι : Type} {Z : ι → Cx} {own : Own} {ρ : Ev} {P : Program} {wd : World} {K : PySem.W.Frag} {mg : Str → Option Value} {base : Heap} {N : List Str} {k : Nat} (fm : Fam Z P wd K mg base N k)
variable {a b c e : Expr} {es : List Expr} {x y z d : D} {ds xs ys : List D} {i j : Int} {pos p p2 pf : Pos} {nm : Str}
variable (B : Blt mg)
include fm B
theorem w_len (ha : E own ρ (wE Z a) x) (s : SqD x ds) (hg : ∀ n, Gl (Z n) "len" := by intro _; rfl) (he : ∀ n, starEach (a :: []) (Z n).env = (false, eval a (Z n).env) :: starEach [] (Z n).env := by intro _; rfl) (hpl : ∀ n, (backTo pos (starEach [] (Z n).env)).any (·.1) = false := by intro _; rfl) :
    E own ρ (wE Z (.Call (.Name "len" pf) [a] [] pos)) (.int ds.length) :=
  w_cb fm (r := fun xs H Q => ∃ p ys, xs = [.ref p] ∧ (SqL K H p ys ∨ SqT K H p ys) ∧ Q (.int ys.length) H) (fun n => fm.K n ▸ call_len_seq) B.len (by decide +kernel) (a_cons ha a_nil he) (fun vs M H mh _ r Q q => by
    obtain ⟨v, rfl, r1⟩ := r.one
    obtain ⟨a, us, rfl, rs, h⟩ := s.sq (K := K) mh r1
    exact ⟨a, us, rfl, h, q _ M H (.refl mh) (rs.length ▸ .raw _)⟩) hg (by decide) (by decide) he hpl
theorem w_tuple (ha : E own ρ (wE Z a) x) (s : SqD x ds) (hg : ∀ n, Gl (Z n) "tuple" := by intro _; rfl) (he : ∀ n, starEach (a :: []) (Z n).env = (false, eval a (Z n).env) :: starEach [] (Z n).env := by intro _; rfl) (hpl : ∀ n, (backTo pos (starEach [] (Z n).env)).any (·.1) = false := by intro _; rfl) :
    E own ρ (wE Z (.Call (.Name "tuple" pf) [a] [] pos)) (.tup ds) :=
  w_ct fm (r := fun xs H Q => ∃ p ys, xs = [V.ref p] ∧ ((SqL K H p ys ∧ ∀ l, H l = none → Q (.ref l) (upd H l (.tup ys))) ∨ (SqT K H p ys ∧ Q (.ref p) H))) (fun n => fm.K n ▸ call_tuple_of) B.tuple (by decide +kernel) (a_cons ha a_nil he) (fun vs M H mh _ r Q q => by
    obtain ⟨v, rfl, r1⟩ := r.one
    cases s with
    | lst => obtain ⟨a, vs, rfl, ha, rs⟩ := r1.lst_inv; exact ⟨a, vs, rfl, .inl ⟨.of (mh _ _ ha), q_tup mh rs q⟩⟩
    | tup => obtain ⟨a, vs, rfl, ha, rs⟩ := r1.tup_inv; exact ⟨a, vs, rfl, .inr ⟨.of (mh _ _ ha), q _ M H (.refl mh) (.tup ha rs)⟩⟩) hg (by decide) (by decide) he hpl
theorem n_list (ha : E own ρ (wE Z a) x) (s : SqD x ds) (hg : ∀ n, Gl (Z n) "list" := by intro _; rfl) (he : ∀ n, starEach (a :: []) (Z n).env = (false, eval a (Z n).env) :: starEach [] (Z n).env := by intro _; rfl) (hpl : ∀ n, (backTo pos (starEach [] (Z n).env)).any (·.1) = false := by intro _; rfl) :
    EN own ρ (wE Z (.Call (.Name "list" pf) [a] [] pos)) ds :=
  EN.wz (t := tCB (fun xs H Q => ∃ p ys, xs = [V.ref p] ∧ (SqL K H p ys ∨ SqT K H p ys) ∧ ∀ l, H l = none → Q (.ref l) (upd H l (.lst ys))) (wA Z [a])) (fun σ M H sd Q q => a_cons ha a_nil he σ M H sd _ fun vs M1 H1 u1 r => by
    obtain ⟨v, rfl, r1⟩ := r.one
    obtain ⟨a, us, rfl, rs, h⟩ := s.sq (K := K) u1.mh r1
    exact ⟨a, us, rfl, h, fun p hp => q p _ M1 _ (u1.trans (Pu.newH u1.mh hp)) (u1.hh.free hp) (same_back u1.mh hp) upd_same rs⟩) fun n => pe_callTy (fm.K n ▸ call_list_of) (hg n) (by rw [fm.mg]; exact B.list) (by decide +kernel) (pa_w n) (by decide) (by decide) (he n) (hpl n)
theorem w_list (ha : E own ρ (wE Z a) x) (s : SqD x ds) (hg : ∀ n, Gl (Z n) "list" := by intro _; rfl) (he : ∀ n, starEach (a :: []) (Z n).env = (false, eval a (Z n).env) :: starEach [] (Z n).env := by intro _; rfl) (hpl : ∀ n, (backTo pos (starEach [] (Z n).env)).any (·.1) = false := by intro _; rfl) :
    E own ρ (wE Z (.Call (.Name "list" pf) [a] [] pos)) (.lst ds) := (n_list fm B ha s hg he hpl).e
theorem w_all {bs : List Bool} (ha : E own ρ (wE Z a) (.lst ds)) (hd : ds = bs.map D.bl) (hg : ∀ n, Gl (Z n) "all" := by intro _; rfl) (he : ∀ n, starEach (a :: []) (Z n).env = (false, eval a (Z n).env) :: starEach [] (Z n).env := by intro _; rfl) (hpl : ∀ n, (backTo pos (starEach [] (Z n).env)).any (·.1) = false := by intro _; rfl) :
    E own ρ (wE Z (.Call (.Name "all" pf) [a] [] pos)) (.bl (bs.all id)) :=
  w_cb fm (r := rAll K) (fun n => fm.K n ▸ cr_all (fm.calm n)) B.all (by decide +kernel) (a_cons ha a_nil he) (fun vs M H mh _ r Q q => by
    obtain ⟨v, rfl, r1⟩ := r.one
    obtain ⟨a, vs, rfl, ha, rs⟩ := r1.lst_inv
    have e : vs = bs.map V.bl := Dvs.raws_eq (us := bs.map V.bl) (by rw [List.map_map]; exact hd ▸ rs)
    exact ⟨a, bs, rfl, e ▸ .of (mh _ _ ha), q _ M H (.refl mh) (.raw _)⟩) hg (by decide) (by decide) he hpl
theorem w_sum {ns : List Int} (ha : E own ρ (wE Z a) (.lst ds)) (hd : ds = ns.map D.int) (hg : ∀ n, Gl (Z n) "sum" := by intro _; rfl) (he : ∀ n, starEach (a :: []) (Z n).env = (false, eval a (Z n).env) :: starEach [] (Z n).env := by intro _; rfl) (hpl : ∀ n, (backTo pos (starEach [] (Z n).env)).any (·.1) = false := by intro _; rfl) :
    E own ρ (wE Z (.Call (.Name "sum" pf) [a] [] pos)) (.int ns.sum) :=
  w_cb fm (r := rSum K) (fun n => fm.K n ▸ cr_sum (fm.calm n)) B.sum (by decide +kernel) (a_cons ha a_nil he) (fun vs M H mh _ r Q q => by
    obtain ⟨v, rfl, r1⟩ := r.one
    obtain ⟨a, vs, rfl, ha, rs⟩ := r1.lst_inv
    have e : vs = ns.map V.int := Dvs.raws_eq (us := ns.map V.int) (by rw [List.map_map]; exact hd ▸ rs)
    exact ⟨a, ns, rfl, e ▸ .of (mh _ _ ha), q _ M H (.refl mh) (.raw _)⟩) hg (by decide) (by decide) he hpl
theorem w_max {ns : List Int} {m : Int} (ha : E own ρ (wE Z a) (.lst ds)) (hd : ds = ns.map D.int) (h1 : m ∈ ns) (h2 : ∀ y ∈ ns, y ≤ m) (hg : ∀ n, Gl (Z n) "max" := by intro _; rfl) (he : ∀ n, starEach (a :: []) (Z n).env = (false, eval a (Z n).env) :: starEach [] (Z n).env := by intro _; rfl) (hpl : ∀ n, (backTo pos (starEach [] (Z n).env)).any (·.1) = false := by intro _; rfl) :
    E own ρ (wE Z (.Call (.Name "max" pf) [a] [] pos)) (.int m) :=
  w_cb fm (r := rMax K) (fun n => fm.K n ▸ cr_max (fm.calm n)) B.max (by decide +kernel) (a_cons ha a_nil he) (fun vs M H mh _ r Q q => by
    obtain ⟨v, rfl, r1⟩ := r.one
    obtain ⟨a, vs, rfl, ha, rs⟩ := r1.lst_inv
    have e : vs = ns.map V.int := Dvs.raws_eq (us := ns.map V.int) (by rw [List.map_map]; exact hd ▸ rs)
    refine ⟨a, ns, rfl, e ▸ .of (mh _ _ ha), List.length_pos_of_mem h1, fun m' h3 h4 => ?_⟩
    have e2 : m' = m := Int.le_antisymm (h2 _ h3) (h4 _ h1)
    subst e2
    exact q _ M H (.refl mh) (.raw _)) hg (by decide) (by decide) he hpl
theorem w_abs (ha : E own ρ (wE Z a) (.int i)) (hg : ∀ n, Gl (Z n) "abs" := by intro _; rfl) (he : ∀ n, starEach (a :: []) (Z n).env = (false, eval a (Z n).env) :: starEach [] (Z n).env := by intro _; rfl) (hpl : ∀ n, (backTo pos (starEach [] (Z n).env)).any (·.1) = false := by intro _; rfl) :
    E own ρ (wE Z (.Call (.Name "abs" pf) [a] [] pos)) (.int (if i < 0 then -i else i)) :=
  w_cb fm (fun n => call_abs) B.abs (by decide +kernel) (a_cons ha a_nil he) (fun vs M H mh _ r Q q => by
    obtain ⟨v, rfl, r1⟩ := r.one
    exact ⟨i, by rw [r1.raw_eq], q _ M H (.refl mh) (.raw _)⟩) hg (by decide) (by decide) he hpl
theorem w_int1 (ha : E own ρ (wE Z a) (.int i)) (hg : ∀ n, Gl (Z n) "int" := by intro _; rfl) (he : ∀ n, starEach (a :: []) (Z n).env = (false, eval a (Z n).env) :: starEach [] (Z n).env := by intro _; rfl) (hpl : ∀ n, (backTo pos (starEach [] (Z n).env)).any (·.1) = false := by intro _; rfl) :
    E own ρ (wE Z (.Call (.Name "int" pf) [a] [] pos)) (.int i) :=
  w_ct fm (fun n => call_int1) B.int (by decide +kernel) (a_cons ha a_nil he) (fun vs M H mh _ r Q q => by
    obtain ⟨v, rfl, r1⟩ := r.one
    exact .inl ⟨i, by rw [r1.raw_eq], q _ M H (.refl mh) (.raw _)⟩) hg (by decide) (by decide) he hpl
theorem w_min2 (ha : E own ρ (wE Z a) (.int i)) (hb : E own ρ (wE Z b) (.int j)) (hg : ∀ n, Gl (Z n) "min" := by intro _; rfl) (he : ∀ n, starEach (a :: [b]) (Z n).env = (false, eval a (Z n).env) :: starEach [b] (Z n).env := by intro _; rfl) (he2 : ∀ n, starEach (b :: []) (Z n).env = (false, eval b (Z n).env) :: starEach [] (Z n).env := by intro _; rfl)
    (hpl : ∀ n, (backTo pos (starEach [b] (Z n).env)).any (·.1) = false := by intro _; rfl) : E own ρ (wE Z (.Call (.Name "min" pf) [a, b] [] pos)) (.int (if j < i then j else i)) :=
  w_cb fm (fun n => call_min2 (fm.calm n)) B.min (by decide +kernel) (a_cons ha (a_cons hb a_nil he2) he) (fun vs M H mh _ r Q q => by
    obtain ⟨v, u, rfl, r1, r2⟩ := r.two
    exact ⟨i, j, by rw [r1.raw_eq, r2.raw_eq], q _ M H (.refl mh) (.raw _)⟩) hg (by decide) (by decide) he hpl
/-- a datum's built-in type -/
inductive TyD : D → String → Prop
  | non : TyD .non "NoneType"
  | bl (b : Bool) : TyD (.bl b) "bool"
  | int (i : Int) : TyD (.int i) "int"
  | str (x : Str) : TyD (.str x) "str"
  | lst (ds : List D) : TyD (.lst ds) "list"
  | tup (ds : List D) : TyD (.tup ds) "tuple"
omit fm B in
theorem TyD.tyx {M H : Hp} {v : V} {T : String} (t : TyD d T) (mh : Same M H) (r : Dv M v d) : TyX K H v (.type T) := by
  cases t with
  | non => rw [r.raw_eq]; exact .base .non
  | bl b => rw [r.raw_eq]; exact .base (.bl b)
  | int b => rw [r.raw_eq]; exact .base (.int b)
  | str b => rw [r.raw_eq]; exact .base (.str b)
  | lst ds => obtain ⟨a, vs, rfl, ha, rs⟩ := r.lst_inv; exact .base (.lst (mh _ _ ha))
  | tup ds => obtain ⟨a, vs, rfl, ha, rs⟩ := r.tup_inv; exact .base (.tup (mh _ _ ha))
theorem w_isi {T T' : String} {g : Bool} (ha : E own ρ (wE Z a) x) (hb : E own ρ (wE Z b) (.raw (.ty T'))) (t : TyD x T) (hk : kitB T T' = some g) (hg : ∀ n, Gl (Z n) "isinstance" := by intro _; rfl) (he : ∀ n, starEach (a :: [b]) (Z n).env = (false, eval a (Z n).env) :: starEach [b] (Z n).env := by intro _; rfl) (he2 : ∀ n, starEach (b :: []) (Z n).env = (false, eval b (Z n).env) :: starEach [] (Z n).env := by intro _; rfl)
    (hpl : ∀ n, (backTo pos (starEach [b] (Z n).env)).any (·.1) = false := by intro _; rfl) : E own ρ (wE Z (.Call (.Name "isinstance" pf) [a, b] [] pos)) (.bl g) :=
  w_cb fm (r := rIsi K) (fun n => fm.K n ▸ call_isi) B.isinstance (by decide +kernel) (a_cons ha (a_cons hb a_nil he2) he) (fun vs M H mh _ r Q q => by
    obtain ⟨v, u, rfl, r1, r2⟩ := r.two
    rw [r2.raw_eq]
    exact ⟨v, .ty T', _, _, g, rfl, .ty T', t.tyx mh r1, kit_ty hk, q _ M H (.refl mh) (.raw _)⟩) hg (by decide) (by decide) he hpl
/-- isinstance(x, (T1, T2)) -/
theorem w_isi2 {T T1 T2 : String} {g g1 g2 : Bool} (ha : E own ρ (wE Z a) x) (hb : E own ρ (wE Z b) (.tup [.raw (.ty T1), .raw (.ty T2)])) (t : TyD x T) (hk1 : kitB T T1 = some g1) (hk2 : kitB T T2 = some g2) (e : g = (g1 || g2)) (hg : ∀ n, Gl (Z n) "isinstance" := by intro _; rfl) (he : ∀ n, starEach (a :: [b]) (Z n).env = (false, eval a (Z n).env) :: starEach [b] (Z n).env := by intro _; rfl) (he2 : ∀ n, starEach (b :: []) (Z n).env = (false, eval b (Z n).env) :: starEach [] (Z n).env := by intro _; rfl)
    (hpl : ∀ n, (backTo pos (starEach [b] (Z n).env)).any (·.1) = false := by intro _; rfl) : E own ρ (wE Z (.Call (.Name "isinstance" pf) [a, b] [] pos)) (.bl g) :=
  w_cb fm (r := rIsiT K) (fun n => fm.K n ▸ call_isiT) B.isinstance (by decide +kernel) (a_cons ha (a_cons hb a_nil he2) he) (fun vs M H mh _ r Q q => by
    obtain ⟨v, u, rfl, r1, r2⟩ := r.two
    obtain ⟨tp, cs, rfl, htp, rc⟩ := r2.tup_inv
    have ec : cs = [.ty T1, .ty T2] := Dvs.raws_eq (us := [.ty T1, .ty T2]) rc
    subst ec
    refine ⟨v, tp, _, _, _, g, rfl, mh _ _ htp, .cons (.ty T1) (.cons (.ty T2) .nil), t.tyx mh r1, ?_, q _ M H (.refl mh) (.raw _)⟩
    subst e
    refine kitAny_cons (kit_ty hk1) (fun h => kitAny_cons (kit_ty hk2) (fun h' => ?_) fun h' => ?_) fun h => ?_
    · rw [h, h']; exact kitAny_nil
    · rw [h']; simp
    · rw [h]; rfl) hg (by decide) (by decide) he hpl
/-- list(range(n)) -/
theorem n_listRg {p' pp : Pos} (ha : E own ρ (wE Z a) (.int i)) (h0 : 0 ≤ i) (h1 : i ≤ 10000) (hg : ∀ n, Gl (Z n) "list" := by intro _; rfl) (hg2 : ∀ n, Gl (Z n) "range" := by intro _; rfl)
    (na : ∀ n, starEach [a] (Z n).env = (false, eval a (Z n).env) :: starEach [] (Z n).env := by intro _; rfl) (nb : ∀ n, starEach [.Call (.Name "range" p') [a] [] pp] (Z n).env = (false, eval (.Call (.Name "range" p') [a] [] pp) (Z n).env) :: starEach [] (Z n).env := by intro _; rfl) :
    EN own ρ (wE Z (.Call (.Name "list" pf) [.Call (.Name "range" p') [a] [] pp] [] pos)) (rgD 0 i.toNat) :=
  EN.wz (t := tLstRg (tRg1 (wE Z a))) (fun σ M H sd Q q => ha σ M H sd _ fun v M1 H1 u1 r1 => by
    refine ⟨i, r1.raw_eq, .of_le (Int.le_refl 0) (by omega) (by omega) h0, fun p hp => q p _ M1 _ (u1.trans (Pu.newH u1.mh hp)) (u1.hh.free hp) (same_back u1.mh hp) upd_same ?_⟩
    have e : rgD 0 i.toNat = (rgV 0 i).map D.raw := by
      unfold rgD rgV
      rw [List.map_map, Int.sub_zero]
      rfl
    rw [e]
    exact .raws _) fun n => pe_listRg (fm.calm n) (hg n) (by rw [fm.mg]; exact B.list) (prg_1 (hg2 n) (by rw [fm.mg]; exact B.range) (pe_w n) (na n)) (nb n)

/-! ### what is walked -/
omit fm B in
theorem EI.wz {tg : Expr} {t : TI} (k : EI own ρ t ds) (h : ∀ n, PI (Z n) tg e t) : EI own ρ (wI Z tg e) ds := fun σ M H s R q => ⟨t, h, k σ M H s R q⟩
variable {tg : Expr}
omit B in
theorem i_sq (ha : E own ρ (wE Z a) x) (s : SqD x ds) : EI own ρ (wI Z tg a) ds := by
  cases s with
  | lst => exact EI.wz (t := iList K (wE Z a)) (ei_list ha) fun n => fm.K n ▸ pi_list (pe_w n)
  | tup => exact EI.wz (t := iTup K (wE Z a)) (ei_tup ha) fun n => fm.K n ▸ pi_tup (pe_w n)
theorem i_rg1 (ha : E own ρ (wE Z a) (.int i)) (h1 : i ≤ 1000000000 := by omega) (h0 : -1000000000 ≤ i := by omega) (hg : ∀ n, Gl (Z n) "range" := by intro _; rfl) (na : ∀ n, starEach [a] (Z n).env = (false, eval a (Z n).env) :: starEach [] (Z n).env := by intro _; rfl) : EI own ρ (wI Z tg (.Call (.Name "range" pf) [a] [] pos)) (rgD 0 i.toNat) :=
  EI.wz (ei_range1 (a_cons ha a_nil na) (by omega) (by omega)) fun n => pi_range1 (hg n) (by rw [fm.mg]; exact B.range) (pa_w n) (na n)
theorem i_rg2 (ha : E own ρ (wE Z a) (.int i)) (hb : E own ρ (wE Z b) (.int j)) (h1 : i ≤ 1000000000 := by omega) (h0 : -1000000000 ≤ i := by omega) (h2 : j ≤ 1000000000 := by omega) (h3 : -1000000000 ≤ j := by omega) (hg : ∀ n, Gl (Z n) "range" := by intro _; rfl)
    (na : ∀ n, starEach [a, b] (Z n).env = (false, eval a (Z n).env) :: starEach [b] (Z n).env := by intro _; rfl) (nb : ∀ n, starEach [b] (Z n).env = (false, eval b (Z n).env) :: starEach [] (Z n).env := by intro _; rfl) : EI own ρ (wI Z tg (.Call (.Name "range" pf) [a, b] [] pos)) (rgD i (j - i).toNat) :=
  EI.wz (ei_range2 (a_cons ha (a_cons hb a_nil nb) na) (by omega) (by omega) (by omega) (by omega)) fun n => pi_range2 (hg n) (by rw [fm.mg]; exact B.range) (pa_w n) (by rw [na n, nb n]; rfl) (by rw [nb n]; rfl)
theorem i_en {elts : List Expr} {kk : Nat} {tpos : Pos} (ha : E own ρ (wE Z a) x) (s : SqD x ds) (hg : ∀ n, Gl (Z n) "enumerate" := by intro _; rfl) (na : ∀ n, starEach [a] (Z n).env = (false, eval a (Z n).env) :: starEach [] (Z n).env := by intro _; rfl) : EI own ρ (wI Z (.Tuple elts kk tpos) (.Call (.Name "enumerate" pf) [a] [] pos)) (enD ds) :=
  EI.wz (t := iEn K (tCons (wE Z a) tNil)) (ei_en ha s) fun n => fm.K n ▸ pi_en (hg n) (by rw [fm.mg]; exact B.enumerate) (pa_cons (pe_w n) pa_nil (na n)) (na n)
theorem i_zip2 {elts : List Expr} {kk : Nat} {tpos : Pos} (ha : E own ρ (wE Z a) x) (hb : E own ρ (wE Z b) y) (s : SqD x ds) (s' : SqD y ys) (hg : ∀ n, Gl (Z n) "zip" := by intro _; rfl) (na : ∀ n, starEach [a, b] (Z n).env = (false, eval a (Z n).env) :: starEach [b] (Z n).env := by intro _; rfl) (nb : ∀ n, starEach [b] (Z n).env = (false, eval b (Z n).env) :: starEach [] (Z n).env := by intro _; rfl)
    (hpl : ∀ n, (backTo pos (starEach [b] (Z n).env)).any (·.1) = false := by intro _; rfl) : EI own ρ (wI Z (.Tuple elts kk tpos) (.Call (.Name "zip" pf) [a, b] [] pos)) (zip2D ds ys) :=
  EI.wz (t := iZip2 K (tCons (wE Z a) (tCons (wE Z b) tNil))) (ei_zip2 ha hb s s') fun n => fm.K n ▸ pi_zip2 (hg n) (by rw [fm.mg]; exact B.zip) (pa_cons (pe_w n) (pa_cons (pe_w n) pa_nil (nb n)) (na n)) (na n) (hpl n)
theorem i_zip3 {zs : List D} {elts : List Expr} {kk : Nat} {tpos : Pos} (ha : E own ρ (wE Z a) x) (hb : E own ρ (wE Z b) y) (hc : E own ρ (wE Z c) z) (s : SqD x ds) (s' : SqD y ys) (s'' : SqD z zs) (hg : ∀ n, Gl (Z n) "zip" := by intro _; rfl)
    (na : ∀ n, starEach [a, b, c] (Z n).env = (false, eval a (Z n).env) :: starEach [b, c] (Z n).env := by intro _; rfl) (nb : ∀ n, starEach [b, c] (Z n).env = (false, eval b (Z n).env) :: starEach [c] (Z n).env := by intro _; rfl) (nc : ∀ n, starEach [c] (Z n).env = (false, eval c (Z n).env) :: starEach [] (Z n).env := by intro _; rfl)
    (hpl : ∀ n, (backTo pos (starEach [b, c] (Z n).env)).any (·.1) = false := by intro _; rfl) : EI own ρ (wI Z (.Tuple elts kk tpos) (.Call (.Name "zip" pf) [a, b, c] [] pos)) (zip3D ds ys zs) :=
  EI.wz (t := iZip3 K (tCons (wE Z a) (tCons (wE Z b) (tCons (wE Z c) tNil)))) (ei_zip3 ha hb hc s s' s'') fun n => fm.K n ▸ pi_zip3 (hg n) (by rw [fm.mg]; exact B.zip) (pa_cons (pe_w n) (pa_cons (pe_w n) (pa_cons (pe_w n) pa_nil (nc n)) (nb n)) (na n)) (na n) (hpl n)
omit B

/-! ### comprehensions -/
/-- the contexts of a comprehension's block -/
abbrev Zb {ι : Type} (Z : ι → Cx) (scope : Scope) : ι × (Shared × Hp × Addr × List (Str × Addr) × List Addr) → Cx := fun j => (Z j.1).blk j.2.1 j.2.2.1 scope (compEnvC scope j.2.2.2.2.1 j.2.2.2.1 (Z j.1).env) j.2.2.2.2.2
theorem Fam.blk {scope : Scope} : Fam (Zb Z scope) P wd K mg base N k := ⟨fun i => fm.P i.1, fun i => fm.w i.1, fun i => fm.K i.1, fun i => fm.mg i.1, fun i => fm.base i.1, fun i => fm.N i.1, fm.nd, fun i => fm.calm i.1, fun i => fm.room i.1⟩
-- a target of a comprehension: a name; names 
omit fm in
theorem EW.wz {g : TG} {vs : List Nat} {f : Ev → Ev} (h : EW g vs d f) (hp : ∀ n, PG (Z n) tg g) : EW (wG Z tg) vs d f := fun own ρ σ M H v s r Q q => ⟨g, hp, h own ρ σ M H v s r Q q⟩
theorem cw_name {vs : List Nat} (v : Nat) (hN : ∀ n, (Z n).N[v]? = some nm) (hv : v ∈ vs) (hl : ∀ n, Loc (Z n).env.scope nm := by intro _; first | exact Or.inl rfl | exact Or.inr rfl) (hf : ∀ n, (Z n).fn nm = true ∨ (Z n).env.scope.names.lookup nm = some .local := by intro _; first | exact .inl rfl | exact .inr rfl) :
    EW (wG Z (.Name nm pos)) vs d (fun ρ => ρ.set v (some d)) := (ew_name hv).wz fun n => pg_name (fm.N n ▸ fm.nd) (hN n) (hl n) (hf n)
omit fm in
theorem EWs.wz {g : TGs} {vs : List Nat} {f : Ev → Ev} (h : EWs g vs ds f) (hp : ∀ n, PGs (Z n) es g) : EWs (wGs Z es) vs ds f := fun ρ σ M H us s r Q q => ⟨g, hp, h ρ σ M H us s r Q q⟩
omit fm in
theorem cw_nil {vs : List Nat} : EWs (wGs Z []) vs [] (fun ρ => ρ) := ews_nil.wz fun _ => pgs_nil
theorem cw_cons {vs : List Nat} {f : Ev → Ev} (v : Nat) (hN : ∀ n, (Z n).N[v]? = some nm) (hv : v ∈ vs) (h : EWs (wGs Z es) vs ds f) (hl : ∀ n, Loc (Z n).env.scope nm := by intro _; first | exact Or.inl rfl | exact Or.inr rfl) (hf : ∀ n, (Z n).fn nm = true ∨ (Z n).env.scope.names.lookup nm = some .local := by intro _; first | exact .inl rfl | exact .inr rfl)
    (hs : ∀ n, (assignEach (.Name nm pos :: es) (Z n).env).map (·.2) = assign (.Name nm pos) (Z n).env :: (assignEach es (Z n).env).map (·.2) := by intro _; rfl) : EWs (wGs Z (.Name nm pos :: es)) vs (d :: ds) (fun ρ => f (ρ.set v (some d))) :=
  (ews_name hv h).wz fun n => pgs_cons (pg_name (fm.N n ▸ fm.nd) (hN n) (hl n) (hf n)) (pgs_w n) (hs n)
theorem cw_tup {vs : List Nat} {f : Ev → Ev} {m l : Nat} (h : EWs (wGs Z es) vs ds f) (hm : ds.length = m := by rfl) (hn : ∀ n, (assignEach es (Z n).env).length = m := by intro _; rfl) (hst : ∀ n, (assignEach es (Z n).env).findIdx? (·.1) = none := by intro _; rfl) : EW (wG Z (.Tuple es l pos)) vs (.tup ds) f :=
  (ew_tup (K := K) h hm).wz fun n => fm.K n ▸ pg_tup (fm.calm n) (pgs_w n) (hn n) (hst n)
omit fm in
theorem ts_nil : ET own ρ (wTs Z []) true := fun σ M H s Q q => ⟨_, fun _ => pts_nil, et_yes σ M H s Q q⟩
omit fm in
theorem ts_one {g : Bool} (h : ET own ρ (wT Z c) g) : ET own ρ (wTs Z [c]) g := fun σ M H s Q q => ⟨_, fun n => pts_one (pt_w n), h σ M H s Q q⟩
/-- the reading of [elt for tg in iter if ..] -/
def lcT {ι : Type} (Z : ι → Cx) (ow : List (Str × Nat)) (scope : Scope) (tg iter : Expr) (ifs : List Expr) (elt : Expr) : TE := tLc (wI Z tg iter) (wG (Zb Z scope) tg) (wTs (Zb Z scope) ifs) (wE (Zb Z scope) elt) (ow.map (·.2))
omit fm in
theorem r_lc {elt iter : Expr} {ifs : List Expr} {scope : Scope} (ow : List (Str × Nat)) (q : D → Bool) (g : D → D) (f : D → Ev → Ev) (hi : EI own ρ (wI Z tg iter) ds) (hl : ds.length ≤ 100000)
    (hg : ∀ (i : Nat) (d : D), ds[i]? = some d → EW (wG (Zb Z scope) tg) (ow.map (·.2)) d (f d)) (ht : ∀ (i : Nat) (d : D), ds[i]? = some d → ET own (f d (wipeD ρ (ow.map (·.2)))) (wTs (Zb Z scope) ifs) (q d)) (he : ∀ (i : Nat) (d : D), ds[i]? = some d → q d = true → E own (f d (wipeD ρ (ow.map (·.2)))) (wE (Zb Z scope) elt) (g d)) : EN own ρ (lcT Z ow scope tg iter ifs elt) (keep ds q g) :=
  en_lc q g f hi hl hg ht he
theorem pe_lcT {elt iter : Expr} {ifs : List Expr} {scope sc : Scope} {ow : List (Str × Nat)} (ok : BlkOk N sc scope ow) (hsc : ∀ n, (Z n).env.scope = sc) (hs : ∀ n x, foldedSetIterable iter (Z n).env x = pure x) (n : ι) : PE (Z n) (.ListComp elt [⟨tg, iter, ifs, 0⟩] scope pos) (lcT Z ow scope tg iter ifs elt) :=
  pe_lc (fm.calm n) (fm.N n ▸ fm.nd) (pi_w n) (by rw [fm.N n, hsc n]; exact ok) (fun s H C cl fp => pg_w (Z := Zb Z scope) (n, s, H, C, cl, fp)) (fun s H C cl fp => pts_w (Z := Zb Z scope) (n, s, H, C, cl, fp)) (fun s H C cl fp => pe_w (Z := Zb Z scope) (n, s, H, C, cl, fp)) (hs n)
/-- [elt for tg in iter if ..]; ok by blkOk_by (by decide +kernel) -/
theorem n_lc {elt iter : Expr} {ifs : List Expr} {scope sc : Scope} (ow : List (Str × Nat)) (ok : BlkOk N sc scope ow) (hsc : ∀ n, (Z n).env.scope = sc) (q : D → Bool) (g : D → D) (f : D → Ev → Ev) (hi : EI own ρ (wI Z tg iter) ds) (hl : ds.length ≤ 100000)
    (hg : ∀ (i : Nat) (d : D), ds[i]? = some d → EW (wG (Zb Z scope) tg) (ow.map (·.2)) d (f d)) (ht : ∀ (i : Nat) (d : D), ds[i]? = some d → ET own (f d (wipeD ρ (ow.map (·.2)))) (wTs (Zb Z scope) ifs) (q d)) (he : ∀ (i : Nat) (d : D), ds[i]? = some d → q d = true → E own (f d (wipeD ρ (ow.map (·.2)))) (wE (Zb Z scope) elt) (g d))
    (hs : ∀ n x, foldedSetIterable iter (Z n).env x = pure x := by intro _ _; rfl) : EN own ρ (wE Z (.ListComp elt [⟨tg, iter, ifs, 0⟩] scope pos)) (keep ds q g) :=
  EN.wz (r_lc ow q g f hi hl hg ht he) fun n => pe_lcT fm ok hsc hs n
theorem w_lc {elt iter : Expr} {ifs : List Expr} {scope sc : Scope} (ow : List (Str × Nat)) (ok : BlkOk N sc scope ow) (hsc : ∀ n, (Z n).env.scope = sc) (q : D → Bool) (g : D → D) (f : D → Ev → Ev) (hi : EI own ρ (wI Z tg iter) ds) (hl : ds.length ≤ 100000)
    (hg : ∀ (i : Nat) (d : D), ds[i]? = some d → EW (wG (Zb Z scope) tg) (ow.map (·.2)) d (f d)) (ht : ∀ (i : Nat) (d : D), ds[i]? = some d → ET own (f d (wipeD ρ (ow.map (·.2)))) (wTs (Zb Z scope) ifs) (q d)) (he : ∀ (i : Nat) (d : D), ds[i]? = some d → q d = true → E own (f d (wipeD ρ (ow.map (·.2)))) (wE (Zb Z scope) elt) (g d))
    (hs : ∀ n x, foldedSetIterable iter (Z n).env x = pure x := by intro _ _; rfl) : E own ρ (wE Z (.ListComp elt [⟨tg, iter, ifs, 0⟩] scope pos)) (.lst (keep ds q g)) := (n_lc fm ow ok hsc q g f hi hl hg ht he hs).e
theorem ps_setLcT {i : Nat} {y : Str} {py spos : Pos} {elt iter : Expr} {ifs : List Expr} {scope sc : Scope} {ow : List (Str × Nat)} (ok : BlkOk N sc scope ow) (hsc : ∀ n, (Z n).env.scope = sc) (hs : ∀ n x, foldedSetIterable iter (Z n).env x = pure x) (hN : ∀ n, (Z n).N[i]? = some y) (hyl : ∀ n, (Z n).env.scope.names.lookup y = some .local)
    (hsw : ∀ n, swapsWith (.ListComp elt [⟨tg, iter, ifs, 0⟩] scope pos) (some (.Name y py)) spos.line (Z n).env = pure true) (n : ι) : PS (Z n) (.Assign [.Name y py] (.ListComp elt [⟨tg, iter, ifs, 0⟩] scope pos) spos) (tAsg (lcT Z ow scope tg iter ifs elt) (gName i)) :=
  ps_setLc (fm.calm n) (fm.N n ▸ fm.nd) (hN n) (hyl n) (hsw n) (pi_w n) (by rw [fm.N n, hsc n]; exact ok) (fun s H C cl fp => pg_w (Z := Zb Z scope) (n, s, H, C, cl, fp)) (fun s H C cl fp => pts_w (Z := Zb Z scope) (n, s, H, C, cl, fp)) (fun s H C cl fp => pe_w (Z := Zb Z scope) (n, s, H, C, cl, fp)) (hs n)
-- without tests
omit fm in
theorem keep_all {ds : List D} {g : D → D} : keep ds (fun _ => true) g = ds.map g := by unfold keep; rw [List.filter_eq_self.mpr (by intros; rfl)]

/-! ### statements -/
variable {st : Stmt} {rest body : List Stmt} {D : Ends} {F : List Addr} {M0 H0 M H : Hp} {σ : L2.St}
omit fm in
theorem b_nil (h : D.nx σ H) : wB Z [] D σ H := ⟨_, fun _ => pss_nil, h⟩
omit fm in
theorem b_cons (h : wS Z st { D with nx := wB Z rest D } σ H) : wB Z (st :: rest) D σ H := ⟨_, fun n => pss_cons (ps_w n) (pb_w n), h⟩
omit fm in
theorem b_one (h : wS Z st D σ H) : wB Z [st] D σ H := ⟨_, fun n => pss_one (ps_w n), h⟩
theorem k_set (v : Nat) (c : C F M0 H0 own ρ σ M H) (h : E own ρ (wE Z e) d) (hN : ∀ n, (Z n).N[v]? = some nm) (k : ∀ σ' M' H', C F M0 H0 own (ρ.set v (some d)) σ' M' H' → D.nx σ' H') (hl : ∀ n, Loc (Z n).env.scope nm := by intro _; first | exact Or.inl rfl | exact Or.inr rfl)
    (hf : ∀ n, (Z n).fn nm = true ∨ (Z n).env.scope.names.lookup nm = some .local := by intro _; first | exact .inl rfl | exact .inr rfl) (hs : ∀ n, swapsWith e (some (.Name nm p)) pos.line (Z n).env = pure false := by intro _; rfl) : wS Z (.Assign [.Name nm p] e pos) D σ H :=
  ⟨_, fun n => ps_set (fm.N n ▸ fm.nd) (hN n) (hl n) (pe_w n) (hs n) (hf n), s_set c h k⟩
/-- name = [..] on one line, the name a local; h by r_lc -/
theorem k_setLc {iter elt : Expr} {ifs : List Expr} {scope sc : Scope} {spos : Pos} (v : Nat) (ow : List (Str × Nat)) (ok : BlkOk N sc scope ow) (hsc : ∀ n, (Z n).env.scope = sc) (c : C F M0 H0 own ρ σ M H) (h : EN own ρ (lcT Z ow scope tg iter ifs elt) ds) (hN : ∀ n, (Z n).N[v]? = some nm) (k : ∀ σ' M' H', C F M0 H0 own (ρ.set v (some (.lst ds))) σ' M' H' → D.nx σ' H') (hyl : ∀ n, (Z n).env.scope.names.lookup nm = some .local := by intro _; rfl)
    (hsw : ∀ n, swapsWith (.ListComp elt [⟨tg, iter, ifs, 0⟩] scope pos) (some (.Name nm p)) spos.line (Z n).env = pure true := by intro _; exact sw_true rfl rfl rfl (by decide +kernel)) (hs : ∀ n x, foldedSetIterable iter (Z n).env x = pure x := by intro _ _; rfl) : wS Z (.Assign [.Name nm p] (.ListComp elt [⟨tg, iter, ifs, 0⟩] scope pos) spos) D σ H :=
  ⟨_, fun n => ps_setLcT fm ok hsc hs hN hyl hsw n, s_set c h.e k⟩
omit fm in
theorem k_ret (c : C F M0 H0 own ρ σ M H) (h : E own ρ (wE Z e) d) (k : ∀ v M' H', C F M0 H0 own ρ σ M' H' → Dv M' v d → D.rt v H') : wS Z (.Return (some e) pos) D σ H :=
  ⟨_, fun n => ps_ret (pe_w n), s_ret c h.x fun v d' o M' H' ⟨e1, e2⟩ c' r => by subst e1 e2; exact k v M' H' c' r⟩
omit fm in
theorem k_if {t : Expr} {g : Bool} {b1 b2 : List Stmt} (c : C F M0 H0 own ρ σ M H) (h : ET own ρ (wT Z t) g) (h1 : g = true → ∀ M' H', C F M0 H0 own ρ σ M' H' → wB Z b1 D σ H') (h2 : g = false → ∀ M' H', C F M0 H0 own ρ σ M' H' → wB Z b2 D σ H') : wS Z (.If t b1 b2 pos) D σ H :=
  ⟨_, fun n => ps_if (pt_w n) (pb_w n) (pb_w n), s_if c h h1 h2⟩
-- an assigned target in a for 
omit fm in
theorem EG.wz {g : TG} {f : Ev → Ev} (h : EG g d f) (hp : ∀ n, PG (Z n) tg g) : EG (wG Z tg) d f := fun own ρ σ M H v s r Q q => ⟨g, hp, h own ρ σ M H v s r Q q⟩
theorem g_name (v : Nat) (hN : ∀ n, (Z n).N[v]? = some nm) (hl : ∀ n, Loc (Z n).env.scope nm := by intro _; first | exact Or.inl rfl | exact Or.inr rfl) (hf : ∀ n, (Z n).fn nm = true ∨ (Z n).env.scope.names.lookup nm = some .local := by intro _; first | exact .inl rfl | exact .inr rfl) :
    EG (wG Z (.Name nm pos)) d (fun ρ => ρ.set v (some d)) := eg_name.wz fun n => pg_name (fm.N n ▸ fm.nd) (hN n) (hl n) (hf n)
omit fm in
theorem EGs.wz {g : TGs} {f : Ev → Ev} (h : EGs g ds f) (hp : ∀ n, PGs (Z n) es g) : EGs (wGs Z es) ds f := fun ρ σ M H us s r Q q => ⟨g, hp, h ρ σ M H us s r Q q⟩
omit fm in
theorem g_nil : EGs (wGs Z []) [] (fun ρ => ρ) := egs_nil.wz fun _ => pgs_nil
theorem g_cons {f : Ev → Ev} (v : Nat) (hN : ∀ n, (Z n).N[v]? = some nm) (h : EGs (wGs Z es) ds f) (hl : ∀ n, Loc (Z n).env.scope nm := by intro _; first | exact Or.inl rfl | exact Or.inr rfl) (hf : ∀ n, (Z n).fn nm = true ∨ (Z n).env.scope.names.lookup nm = some .local := by intro _; first | exact .inl rfl | exact .inr rfl)
    (hs : ∀ n, (assignEach (.Name nm pos :: es) (Z n).env).map (·.2) = assign (.Name nm pos) (Z n).env :: (assignEach es (Z n).env).map (·.2) := by intro _; rfl) : EGs (wGs Z (.Name nm pos :: es)) (d :: ds) (fun ρ => f (ρ.set v (some d))) :=
  (egs_name h).wz fun n => pgs_cons (pg_name (fm.N n ▸ fm.nd) (hN n) (hl n) (hf n)) (pgs_w n) (hs n)
theorem g_tup {f : Ev → Ev} {m l : Nat} (h : EGs (wGs Z es) ds f) (hm : ds.length = m := by rfl) (hn : ∀ n, (assignEach es (Z n).env).length = m := by intro _; rfl) (hst : ∀ n, (assignEach es (Z n).env).findIdx? (·.1) = none := by intro _; rfl) : EG (wG Z (.Tuple es l pos)) (.tup ds) f :=
  (eg_tup (K := K) h hm).wz fun n => fm.K n ▸ pg_tup (fm.calm n) (pgs_w n) (hn n) (hst n)
theorem g_unl {f : Ev → Ev} {m l : Nat} (h : EGs (wGs Z es) ds f) (hm : ds.length = m := by rfl) (hn : ∀ n, (assignEach es (Z n).env).length = m := by intro _; rfl) (hst : ∀ n, (assignEach es (Z n).env).findIdx? (·.1) = none := by intro _; rfl) : EG (wG Z (.Tuple es l pos)) (.lst ds) f :=
  (eg_unl (K := K) h hm).wz fun n => fm.K n ▸ pg_unl (fm.calm n) (pgs_w n) (hn n) (hst n)
-- target = e, a target of names 
omit fm in
theorem k_asg {f : Ev → Ev} (c : C F M0 H0 own ρ σ M H) (h : E own ρ (wE Z e) d) (hg : EG (wG Z tg) d f) (k : ∀ σ' M' H', C F M0 H0 own (f ρ) σ' M' H' → D.nx σ' H') (hs : ∀ n, swapsWithSole [tg] e pos.line (Z n).env = pure false := by intro _; rfl) (hw : ∀ n, swappedStores [tg] e (Z n).env = pure none := by intro _; rfl)
    (h1 : ∀ n, (assignEach [tg] (Z n).env).map (·.2) = [assign tg (Z n).env] := by intro _; rfl) : wS Z (.Assign [tg] e pos) D σ H :=
  ⟨_, fun n => ps_asg (pe_w n) (pg_w n) (hs n) (hw n) (h1 n), s_asg (f := fun _ => f) c h.x (fun d' o ⟨e1, _⟩ => e1 ▸ hg) fun d' o σ' M' H' ⟨e1, e2⟩ _ c' => by subst e1 e2; exact k σ' M' H' c'⟩
/-- for -/
theorem k_for {iter : Expr} {G : Type} (P : Nat → G → Prop) (ow : G → Own) (rh : G → Ev) (x0 : G) (f : Ly.D → Ev → Ev) (c : C F M0 H0 own ρ σ M H) (hi : EI own ρ (wI Z tg iter) ds)
    (h0 : P 0 x0) (ho : ow x0 = own) (hr : ∀ σ M H, C F M0 H0 own ρ σ M H → C F M0 H0 own (rh x0) σ M H) (hg : ∀ (i : Nat) (d : Ly.D), ds[i]? = some d → EG (wG Z tg) d (f d))
    (hs : ∀ (i : Nat) (d : Ly.D) x σ' M' H', ds[i]? = some d → P i x → C F M0 H0 (ow x) (f d (rh x)) σ' M' H' → ∀ D' : Ends, D'.rt = D.rt → D'.bk = D.nx → (∀ x' σ2 M2 H2, P (i + 1) x' → C F M0 H0 (ow x') (rh x') σ2 M2 H2 → Same M' M2 → D'.nx σ2 H2) → wB Z body D' σ' H')
    (hd : ∀ x σ' M' H', P ds.length x → C F M0 H0 (ow x) (rh x) σ' M' H' → D.nx σ' H') (hp : ∀ n, PassesOwn (model (Z n).prog (Z n).w) (Z n).A (Z n).env (Z n).xe) (hf : ∀ n x, foldedSetIterable iter (Z n).env x = pure x := by intro _ _; rfl) : wS Z (.For tg iter body [] pos) D σ H :=
  ⟨_, fun n => ps_for (hp n) (fm.calm n) (pi_w n) (pg_w n) (pb_w n) (hf n), s_for P ow rh x0 c hi h0 ho hr f hg hs hd⟩
-- while 
omit fm in
theorem k_while {t : Expr} {G : Type} (P : G → Prop) (μ : G → Nat) (ow : G → Own) (rh : G → Ev) (x0 : G) (b : G → Bool) (c : C F M0 H0 own ρ σ M H) (h0 : P x0) (ho : ow x0 = own) (hr : C F M0 H0 own ρ σ M H → C F M0 H0 own (rh x0) σ M H)
    (ht : ∀ x, P x → ET (ow x) (rh x) (wT Z t) (b x))
    (hs : ∀ x σ' M' H', P x → b x = true → C F M0 H0 (ow x) (rh x) σ' M' H' → ∀ D' : Ends, D'.rt = D.rt → (∀ x' σ2 M2 H2, P x' → μ x' < μ x → C F M0 H0 (ow x') (rh x') σ2 M2 H2 → D'.nx σ2 H2) → wB Z body D' σ' H')
    (hd : ∀ x σ' M' H', P x → b x = false → C F M0 H0 (ow x) (rh x) σ' M' H' → D.nx σ' H') (hp : ∀ n, PassesOwn (model (Z n).prog (Z n).w) (Z n).A (Z n).env (Z n).xe) : wS Z (.While t body [] pos) D σ H :=
  ⟨_, fun n => ps_while (hp n) (pt_w n) (pb_w n), s_while P μ ow rh x0 c h0 ho hr b ht hs hd⟩
-- what is never reached 
omit fm in
theorem k_not (h : False) : wS Z st D σ H := h.elim

/-! ### calls of defs -/
/-- a def of the program that keeps a promise -/
structure Cal (P : Program) (wd : World) (K : PySem.W.Frag) (mg : Str → Option Value) (base : Heap) (x : Str) (k : Nat) (ps : List Str) (sp : Sp) : Prop where
  ex : ∃ f fd, FnOk P wd K mg base (L2.CX P wd) k f fd ps sp ∧ mg x = some (.ref f) ∧ PySem.W.keepIn K (.ref f) = true ∧ Binds K fd ps []
/-- a promise by data: a def that changes nothing -/
def spD (R : List Ly.D → Ly.D → Prop) : Sp := fun vs H Q _ => ∃ M ds d, Same M H ∧ Dvs M vs ds ∧ R ds d ∧ ∀ v M' H', Pu M H M' H' → Dv M' v d → Q v H'
theorem w_call {R : List Ly.D → Ly.D → Prop} {k' : Nat} {ps : List Str} (c : Cal P wd K mg base nm k' ps (spD R)) (ha : EA own ρ (wA Z (e :: es)) ds) (h : R ds d) (hk : k' ≤ k := by decide) (hg : ∀ n, Gl (Z n) nm := by intro _; rfl) (hdb : (nm == ("__debug__" : Str)) = false := by decide)
    (he : ∀ n, starEach (e :: es) (Z n).env = (false, eval e (Z n).env) :: starEach es (Z n).env := by intro _; rfl) (hpl : ∀ n, (backTo pos (starEach es (Z n).env)).any (·.1) = false := by intro _; rfl) : E own ρ (wE Z (.Call (.Name nm p) (e :: es) [] pos)) d := by
  obtain ⟨f, fd, G, hm, hkp, hb⟩ := c.ex
  refine E.wz (t := tCall (spD R) [] E0 (wA Z (e :: es))) (fun σ M H s Q q => ha σ M H s _ fun vs M1 H1 u r => ?_) fun n => ?_
  · rw [List.append_nil]
    exact ⟨M1, ds, d, u.mh, r, h, fun v M2 H2 u2 r2 => q v M2 H2 (u.trans u2) r2⟩
  · have G' : FnOk (Z n).prog (Z n).w (Z n).K (Z n).mg (Z n).base (L2.CX (Z n).prog (Z n).w) k f fd ps (spD R) := by
      rw [fm.P n, fm.w n, fm.K n, fm.mg n, fm.base n]; exact G.mono hk
    exact pe_call G' (fm.room n) (hg n) (by rw [fm.mg]; exact hm) (by rw [fm.K]; exact hkp) (by rw [fm.K]; exact hb) .nil passL (pa_w n) hdb (he n) (hpl n)
end

/-! ### a def's body -/
/-- the contexts of a def's body -/
abbrev Zd (P : Program) (wd : World) (K : PySem.W.Frag) (mg : Str → Option Value) (base : Heap) (N : List Str) (x : Str) (st : Stmt) (f : Addr) (cdv : Value) (A : Around) (outer : List Env) (s : Shared) (H : Hp) (Er : XK) : Unit → Cx := fun _ => cxOf (L2.CX P wd) P wd K mg base N x (defScope st) f cdv A outer s H Er
section
variable {P : Program} {wd : World} {K : PySem.W.Frag} {mg : Str → Option Value} {base : Heap} {N ps : List Str} {k : Nat} {x : Str} {st : Stmt} {f : Addr}
/-- a def that changes nothing, by its body -/
theorem cal_pure {R : List Ly.D → Ly.D → Prop} {fd : FuncData} (F : Fun K x x st f fd) (S : FnScope N ps (defScope st)) (hm : mg x = some (.ref f)) (hb : Binds K fd ps []) (hlen : ∀ ds d, R ds d → ds.length = ps.length)
    (body : ∀ (cdv : Value) (A : Around) (outer : List Env) (s : Shared) (H : Hp) (Er : XK), Fam (Zd P wd K mg base N x st f cdv A outer s H Er) P wd K mg base N k → ∀ ds d, R ds d → ∀ (M0 H0 : Hp) (σ : L2.St) (D : Ends), C [] M0 H0 [] (startD N.length ds) σ M0 H0 →
      (∀ v ρ σ' M' H', C [] M0 H0 [] ρ σ' M' H' → Dv M' v d → D.rt v H') → wB (Zd P wd K mg base N x st f cdv A outer s H Er) (defBody st) D σ H0) : Cal P wd K mg base x (k + 1) ps (spD R) := by
  refine ⟨f, fd, F.okX S (fun vs H Q Er h => ?_) (fun cdv A outer s H vs Q Er hr h => ?_), hm, F.kp, hb⟩
  · obtain ⟨M, ds, d, _, r, h, _⟩ := h
    rw [r.length]; exact hlen ds d h
  · obtain ⟨M, ds, d, mh, r, h, q⟩ := h
    refine ⟨_, pb_w (Z := Zd P wd K mg base N x st f cdv A outer s H Er) (), ?_⟩
    refine body cdv A outer s H Er ⟨fun _ => rfl, fun _ => rfl, fun _ => rfl, fun _ => rfl, fun _ => rfl, fun _ => rfl, S.nd, fun _ => rfl, fun _ => hr⟩ ds d h M H _ _ ⟨⟨mh, EnvD.start r N, .nil⟩, .refl, (fun _ h => nomatch h), (fun _ h => nomatch h)⟩ fun v ρ σ' M' H' c r => q v M' H' ?_ r
    exact ⟨c.bs.mm, fun b o e => c.bs.hh b o (fun z => nomatch z) e, c.sd.mh, c.bs.nn⟩
end
end Ly
/-! Ly5: own cells: calls that change them, new instances, stores; letting go. -/
namespace Ly
open PySem L2 Mc

/-- behind a call that was handed the cells own -/
structure Po (M H : Hp) (own : Own) (M' H' : Hp) (own' : Own) : Prop where
  mm : Same M M'
  mh : Same M' H'
  ow : OwnOk M' H' own'
  hh : ∀ b o, b ∉ own.map (·.1) → H b = some o → H' b = some o
  nn : ∀ b o, H b = some o → M b = none → M' b = none
  fr : ∀ p ∈ own', p.1 ∈ own.map (·.1) ∨ H p.1 = none
  kp : ∀ a ∈ own.map (·.1), ∃ c, (a, c) ∈ own'
/-- a promise by data and cells -/
def spO (R : List D → Own → D → Own → Prop) : Sp := fun vs H Q _ => ∃ M own ds d own', Same M H ∧ OwnOk M H own ∧ Dvs M vs ds ∧ R ds own d own' ∧ ∀ v M' H', Po M H own M' H' own' → Dv M' v d → Q v H'

/-- a promise by data and cells, what comes is not known ahead; x what is told of beside -/
def spN {γ : Type} (Pre : γ → List D → Own → Prop) (Post : γ → D → Own → Prop) : Sp := fun vs H Q _ => ∃ (x : γ) (M : Hp) (own : Own) (ds : List D), Same M H ∧ OwnOk M H own ∧ Dvs M vs ds ∧ Pre x ds own ∧ ∀ v d own' M' H', Post x d own' → Po M H own M' H' own' → Dv M' v d → Q v H'

section
variable {F : List Addr} {M0 H0 M H M' H' : Hp} {own own' o2 : Own} {ρ : Ev} {σ : L2.St}
theorem OwnOk.perm {a b : Own} (h : OwnOk M H a) (p : a.Perm b) : OwnOk M H b := ⟨(p.map _).nodup_iff.mp h.nd, fun q hq => h.at_ q (p.mem_iff.mpr hq)⟩
theorem C.perm (c : C F M0 H0 own ρ σ M H) (p : own.Perm o2) : C F M0 H0 o2 ρ σ M H :=
  ⟨⟨c.sd.mh, c.sd.env, c.sd.ow.perm p⟩, c.bs, fun q hq => c.ownF q (p.mem_iff.mpr hq), fun a ha => let ⟨x, hx⟩ := c.inF a ha; ⟨x, p.mem_iff.mp hx⟩⟩
theorem OwnOk.left {a b : Own} (h : OwnOk M H (a ++ b)) : OwnOk M H a := ⟨by have := h.nd; rw [List.map_append] at this; exact (List.nodup_append.mp this).1, fun p hp => h.at_ p (List.mem_append_left _ hp)⟩
theorem OwnOk.right {a b : Own} (h : OwnOk M H (a ++ b)) : OwnOk M H b := ⟨by have := h.nd; rw [List.map_append] at this; exact (List.nodup_append.mp this).2.1, fun p hp => h.at_ p (List.mem_append_right _ hp)⟩
theorem OwnOk.apart {a b : Own} (h : OwnOk M H (a ++ b)) {p q : Addr × OC} (hp : p ∈ a) (hq : q ∈ b) : p.1 ≠ q.1 := by
  have := h.nd
  rw [List.map_append] at this
  exact (List.nodup_append.mp this).2.2 _ (List.mem_map_of_mem hp) _ (List.mem_map_of_mem hq)
theorem C.frame (c : C F M0 H0 (own ++ o2) ρ σ M H) (p : Po M H own M' H' own') : C F M0 H0 (own' ++ o2) ρ σ M' H' := by
  have o := c.sd.ow
  have at2 : ∀ q ∈ o2, q.1 ∉ own.map (·.1) := fun q hq hm => by
    rcases List.mem_map.mp hm with ⟨r, hr, e⟩
    exact o.apart hr hq e
  refine ⟨⟨p.mh, c.sd.env.mono p.mm, ⟨?_, ?_⟩⟩, ⟨c.bs.mm.trans p.mm, fun b x hb h => ?_, fun b x h n => ?_⟩, fun q hq => ?_, fun a ha => ?_⟩
  · rw [List.map_append]
    refine List.nodup_append.mpr ⟨p.ow.nd, o.right.nd, fun x hx y hy e => ?_⟩
    obtain ⟨r, hr, rfl⟩ := List.mem_map.mp hx
    obtain ⟨q, hq, rfl⟩ := List.mem_map.mp hy
    rcases p.fr r hr with h | h
    · exact at2 q hq (e ▸ h)
    · obtain ⟨_, x, hx, _⟩ := o.right.at_ q hq
      rw [e, hx] at h; cases h
  · intro q hq
    obtain hq | hq := List.mem_append.mp hq
    · exact p.ow.at_ q hq
    · obtain ⟨n, x, hx, ok⟩ := o.right.at_ q hq
      exact ⟨p.nn _ _ hx n, x, p.hh _ _ (at2 q hq) hx, ok.mono p.mm⟩
  · refine p.hh b x (fun hm => ?_) (c.bs.hh b x hb h)
    rcases List.mem_map.mp hm with ⟨r, hr, e⟩
    rcases c.ownF r (List.mem_append_left _ hr) with z | z
    · exact hb (e ▸ z)
    · rw [e, h] at z; cases z
  · by_cases hb : b ∈ F
    · obtain ⟨y, hy⟩ := c.F_at b hb
      exact p.nn b y hy (c.bs.nn b x h n)
    · exact p.nn b x (c.bs.hh b x hb h) (c.bs.nn b x h n)
  · obtain hq | hq := List.mem_append.mp hq
    · rcases p.fr q hq with h | h
      · obtain ⟨r, hr, e⟩ := List.mem_map.mp h
        rw [← e]; exact c.ownF r (List.mem_append_left _ hr)
      · by_cases hb : q.1 ∈ F
        · exact .inl hb
        · cases e : H0 q.1 with
          | none => exact .inr rfl
          | some y => rw [c.bs.hh _ _ hb e] at h; cases h
    · exact c.ownF q (List.mem_append_right _ hq)
  · obtain ⟨x, hx⟩ := c.inF a ha
    obtain hx | hx := List.mem_append.mp hx
    · obtain ⟨y, hy⟩ := p.kp a (List.mem_map_of_mem hx)
      exact ⟨y, List.mem_append_left _ hy⟩
    · exact ⟨x, List.mem_append_right _ hx⟩
/-- at a def's end -/
theorem C.po (c : C (own.map (·.1)) M0 H0 own' ρ σ M H) : Po M0 H0 own M H own' := ⟨c.bs.mm, c.sd.mh, c.sd.ow, c.bs.hh, c.bs.nn, c.ownF, c.inF⟩
/-- a block that stands on its own base -/
theorem C.inn (c : C F M0 H0 own ρ σ M H) : C (own.map (·.1)) M H own ρ σ M H := ⟨c.sd, .refl, fun p hp => .inl (List.mem_map_of_mem hp), fun a ha => by
  obtain ⟨p, hp, rfl⟩ := List.mem_map.mp ha
  exact ⟨p.2, hp⟩⟩
theorem C.out {ρ' : Ev} {σ' : L2.St} (c : C F M0 H0 own ρ σ M H) (h : C (own.map (·.1)) M H own' ρ' σ' M' H') : C F M0 H0 own' ρ' σ' M' H' := by
  have c' : C F M0 H0 (own ++ []) ρ σ M H := by rw [List.append_nil]; exact c
  have r := c'.frame h.po
  rw [List.append_nil] at r
  exact r.env h.sd.env
/-- a for; its body on the base ahead of the loop; lf brings one back to the def's -/
theorem s_forB {wi : TI} {g : TG} {tb : TS} {ds : List Ly.D} {D : Ends} {G : Type} (P : Nat → G → Prop) (ow : G → Own) (rh : G → Ev) (x0 : G) (c : C F M0 H0 own ρ σ M H) (hi : EI own ρ wi ds)
    (h0 : P 0 x0) (ho : ow x0 = own) (hr : ∀ F M0 H0 σ M H, C F M0 H0 own ρ σ M H → C F M0 H0 own (rh x0) σ M H) (f : Ly.D → Ev → Ev) (hg : ∀ (i : Nat) (d : Ly.D), ds[i]? = some d → EG g d (f d))
    (hs : ∀ M1 H1, (∀ own' ρ' σ' M' H', C (own.map (·.1)) M1 H1 own' ρ' σ' M' H' → C F M0 H0 own' ρ' σ' M' H') → ∀ (i : Nat) (d : Ly.D) x σ' M' H', ds[i]? = some d → P i x → C (own.map (·.1)) M1 H1 (ow x) (f d (rh x)) σ' M' H' → ∀ D' : Ends, D'.rt = D.rt → D'.bk = D.nx → (∀ x' σ2 M2 H2, P (i + 1) x' → C (own.map (·.1)) M1 H1 (ow x') (rh x') σ2 M2 H2 → D'.nx σ2 H2) → tb D' σ' H')
    (hd : ∀ x σ' M' H', P ds.length x → C F M0 H0 (ow x) (rh x) σ' M' H' → D.nx σ' H') : tFor wi g tb D σ H :=
  hi σ M H c.sd _ fun J M1 H1 u w => by
    have c1 := c.pure u
    have lf : ∀ own' ρ' σ' M' H', C (own.map (·.1)) M1 H1 own' ρ' σ' M' H' → C F M0 H0 own' ρ' σ' M' H' := fun own' ρ' σ' M' H' h => c1.out h
    have wk : Walk J ds.length (fun H' => ∃ M', Same M1 M' ∧ Same M' H') (fun i H' x H'' => ∀ M', Same M1 M' → Same M' H' → ∀ d, ds[i]? = some d → ∃ M'', Pu M' H' M'' H'' ∧ Dv M'' x d) :=
      ⟨fun i H' hi ⟨M', s1, s2⟩ => w.goes i M' H' hi s1 s2, fun H' ⟨M', s1, s2⟩ => w.stops M' H' s1 s2, fun i H' x H'' _ _ y M' s1 s2 d e => w.yields i x d M' H' H'' e s1 s2 y⟩
    refine for_it wk (fun i σ' H' => ∃ x M', P i x ∧ C (own.map (·.1)) M1 H1 (ow x) (rh x) σ' M' H') ⟨x0, M1, h0, by rw [ho]; exact hr _ _ _ σ M1 H1 c1.inn⟩ (fun i σ' H' _ ⟨x, M', _, c'⟩ => ⟨M', c'.bs.mm, c'.sd.mh⟩) (fun i v σ' H' H'' hi ⟨x, M', p, c'⟩ y => ?_) (fun σ' H' ⟨x, M', p, c'⟩ => hd x σ' M' H' p (lf _ _ _ _ _ c'))
    have e : ds[i]? = some ds[i] := by simp [hi]
    obtain ⟨M'', u', r⟩ := y M' c'.bs.mm c'.sd.mh _ e
    have c2 := c'.pure u'
    refine hg i _ e (ow x) (rh x) σ' M'' H'' v c2.sd r _ fun σ2 en => ?_
    exact hs M1 H1 lf i _ x σ2 M'' H'' e p (c2.env en) { D with nx := fun σ' H' => ∃ x M', P (i + 1) x ∧ C (own.map (·.1)) M1 H1 (ow x) (rh x) σ' M' H', ct := fun σ' H' => ∃ x M', P (i + 1) x ∧ C (own.map (·.1)) M1 H1 (ow x) (rh x) σ' M' H', bk := D.nx } rfl rfl fun x' σ3 M3 H3 p3 c3 => ⟨x', M3, p3, c3⟩

/-- a cell is changed -/
theorem C.put {a : Addr} {cl cl' : OC} {k : Nat} {o' : HO} (c : C F M0 H0 own ρ σ M H) (e : own[k]? = some (a, cl)) (ok : OCok M o' cl') : C F M0 H0 (own.set k (a, cl')) ρ σ M (upd H a o') := by
  obtain ⟨n, o, ho, _⟩ := c.sd.ow.get e
  have hk : k < own.length := (List.getElem?_eq_some_iff.mp e).1
  have key : (own.set k (a, cl')).map (·.1) = own.map (·.1) := by
    rw [List.map_set]
    refine List.ext_getElem? fun j => ?_; by_cases hj : k = j
    · subst hj
      rw [List.getElem?_set_self (by simpa using hk), List.getElem?_map, e]
      rfl
    · rw [List.getElem?_set_ne hj]
  have mem : ∀ q ∈ own.set k (a, cl'), q = (a, cl') ∨ (q ∈ own ∧ q.1 ≠ a) := fun q hq => by
    obtain ⟨j, hj, rfl⟩ := List.getElem_of_mem hq
    rw [List.length_set] at hj
    by_cases h : k = j
    · subst h; exact .inl (by simp)
    · refine .inr ⟨by rw [List.getElem_set_ne h]; exact List.getElem_mem hj, fun z => h ?_⟩
      rw [List.getElem_set_ne h] at z
      have h1 : (own.map (·.1))[k]'(by simpa using hk) = (own.map (·.1))[j]'(by simpa using hj) := by
        rw [List.getElem_map, List.getElem_map, z, (List.getElem?_eq_some_iff.mp e).2]
      exact (List.getElem_inj c.sd.ow.nd).mp h1
  refine ⟨⟨fun b x hb => ?_, c.sd.env, ⟨by rw [key]; exact c.sd.ow.nd, fun q hq => ?_⟩⟩, ⟨c.bs.mm, fun b x hb h => ?_, c.bs.nn⟩, fun q hq => ?_, fun b hb => ?_⟩
  · rw [upd_ne (fun z => by rw [z, n] at hb; cases hb)]; exact c.sd.mh b x hb
  · rcases mem q hq with rfl | ⟨hq, hne⟩
    · exact ⟨n, o', upd_same, ok⟩
    · obtain ⟨n', x, hx, ok'⟩ := c.sd.ow.at_ q hq
      exact ⟨n', x, by rw [upd_ne hne]; exact hx, ok'⟩
  · rw [upd_ne]; exact c.bs.hh b x hb h
    rintro rfl
    rcases c.ownF _ (List.mem_of_getElem? e) with z | z
    · exact hb z
    · have z : H0 b = none := z
      rw [h] at z; cases z
  · rcases mem q hq with rfl | ⟨hq, _⟩
    · exact c.ownF (a, cl) (List.mem_of_getElem? e)
    · exact c.ownF q hq
  · obtain ⟨x, hx⟩ := c.inF b hb
    have : b ∈ (own.set k (a, cl')).map (·.1) := by rw [key]; exact List.mem_map_of_mem hx
    obtain ⟨⟨_, y⟩, hq, rfl⟩ := List.mem_map.mp this
    exact ⟨y, hq⟩
/-- a new cell -/
theorem C.new {p : Addr} {o : HO} {cl : OC} (c : C F M0 H0 own ρ σ M H) {M1 H1 : Hp} (u : Pu M H M1 H1) (hp : H p = none) (hm : M1 p = none) (ho : H1 p = some o) (ok : OCok M1 o cl) : C F M0 H0 ((p, cl) :: own) ρ σ M1 H1 := by
  have c1 := c.pure u
  refine ⟨⟨c1.sd.mh, c1.sd.env, ⟨?_, fun q hq => ?_⟩⟩, c1.bs, fun q hq => ?_, fun a ha => ?_⟩
  · rw [List.map_cons, List.nodup_cons]
    refine ⟨fun h => ?_, c1.sd.ow.nd⟩
    obtain ⟨q, hq, e⟩ := List.mem_map.mp h
    obtain ⟨_, x, hx, _⟩ := c.sd.ow.at_ q hq
    rw [e, hp] at hx; cases hx
  · obtain rfl | hq := List.mem_cons.mp hq
    · exact ⟨hm, o, ho, ok⟩
    · exact c1.sd.ow.at_ q hq
  · obtain rfl | hq := List.mem_cons.mp hq
    · by_cases hb : p ∈ F
      · exact .inl hb
      · cases e : H0 p with
        | none => exact .inr rfl
        | some y => rw [c.bs.hh _ _ hb e] at hp; cases hp
    · exact c1.ownF q hq
  · obtain ⟨x, hx⟩ := c1.inF a ha
    exact ⟨x, List.mem_cons_of_mem _ hx⟩
/-- the datum of a cell let go -/
def OC.d : OC → D
  | .l ds => .lst ds
  | .ins C fs => .ins C fs
  | _ => .non
def OC.fz : OC → Bool
  | .l _ => true
  | .ins _ _ => true
  | _ => false
theorem OCok.dv {o : HO} {cl : OC} (h : OCok M o cl) (hf : cl.fz = true) {a : Addr} (ha : M a = none) : Dv (upd M a o) (.ref a) cl.d := by
  have s : Same M (upd M a o) := same_new ha
  cases cl with
  | l ds => obtain ⟨vs, rfl, r⟩ := h; exact .lst upd_same (r.mono s)
  | ins C fs => obtain ⟨dx, fv, rfl, r⟩ := h; exact .ins upd_same (r.mono s)
  | dk _ => cases hf
  | dt _ => cases hf
  | tp _ => cases hf
/-- a cell is let go: it never changes any more -/
theorem C.frz {a : Addr} {cl : OC} (c : C F M0 H0 ((a, cl) :: own) ρ σ M H) (hF : a ∉ F) (hf : cl.fz = true) : ∃ M', C F M0 H0 own ρ σ M' H ∧ Same M M' ∧ Dv M' (.ref a) cl.d := by
  obtain ⟨n, o, ho, ok⟩ := c.sd.ow.at_ _ List.mem_cons_self
  have s : Same M (upd M a o) := same_new n
  have nd := c.sd.ow.nd
  rw [List.map_cons] at nd; rw [List.nodup_cons] at nd
  refine ⟨upd M a o, ⟨⟨fun b x e => ?_, c.sd.env.mono s, ⟨nd.2, fun q hq => ?_⟩⟩, ⟨c.bs.mm.trans s, c.bs.hh, fun b x e e2 => ?_⟩, fun q hq => c.ownF q (List.mem_cons_of_mem _ hq), fun b hb => ?_⟩, s, ok.dv hf n⟩
  · by_cases hb : b = a
    · rw [hb, upd_same] at e; rw [hb, ← e]; exact ho
    · rw [upd_ne hb] at e; exact c.sd.mh b x e
  · obtain ⟨n', x, hx, ok'⟩ := c.sd.ow.at_ q (List.mem_cons_of_mem _ hq)
    refine ⟨?_, x, hx, ok'.mono s⟩
    rw [upd_ne (fun z => nd.1 (List.mem_map.mpr ⟨q, hq, z⟩))]; exact n'
  · by_cases hb : b = a
    · subst hb
      rcases c.ownF _ List.mem_cons_self with z | z
      · exact absurd z hF
      · have z : H0 b = none := z
        rw [e] at z; cases z
    · rw [upd_ne hb]; exact c.bs.nn b x e e2
  · obtain ⟨x, hx⟩ := c.inF b hb
    obtain e | hx := List.mem_cons.mp hx
    · cases e; exact absurd hb hF
    · exact ⟨x, hx⟩
/-- a slot told anew -/
theorem EnvD.again {v : V} {d d' : D} : ∀ {σ : L2.St} {ρ : Ev} {i : Nat}, EnvD M σ ρ → ρ[i]? = some (some d) → (∀ v, Dv M v d → Dv M v d') → EnvD M σ (ρ.set i (some d'))
  | [], [], _, _, e, _ => by simp at e
  | s :: σ, r :: ρ, 0, h, e, k => by
    simp at e; subst e
    obtain ⟨v, h1, h2⟩ := h.1
    exact ⟨⟨v, h1, k v h2⟩, h.2⟩
  | s :: σ, r :: ρ, i + 1, h, e, k => ⟨h.1, EnvD.again (v := v) h.2 (by simpa using e) k⟩
  | [], _ :: _, _, h, _, _ => h.elim
  | _ :: _, [], _, h, _, _ => h.elim
theorem C.again {d d' : D} {i : Nat} (c : C F M0 H0 own ρ σ M H) (e : ρ[i]? = some (some d)) (k : ∀ v, Dv M v d → Dv M v d') : C F M0 H0 own (ρ.set i (some d')) σ M H := c.env (c.sd.env.again (v := .non) e k)
end

section
variable {ι : Type} {Z : ι → Cx} {own : Own} {ρ : Ev} {P : Program} {wd : World} {K : PySem.W.Frag} {mg : Str → Option Value} {base : Heap} {N : List Str} {k : Nat} (fm : Fam Z P wd K mg base N k)
variable {a b c e : Expr} {es : List Expr} {x y z d : D} {ds xs ys : List D} {i j : Int} {pos p p2 pf : Pos} {nm : Str}
variable (B : Blt mg)
variable {st : Stmt} {rest body : List Stmt} {D : Ends} {F : List Addr} {M0 H0 M H : Hp} {σ : L2.St} {Pq : Ly.D → Own → Prop}
theorem X.wz {t : TE} (h : X own ρ t Pq) (hp : ∀ n, PE (Z n) e t) : X own ρ (wE Z e) Pq := fun F M0 H0 σ M H c Q q => ⟨t, hp, h F M0 H0 σ M H c Q q⟩
theorem XT.wz {t : TT} {Pq : Bool → Own → Prop} (h : XT own ρ t Pq) (hp : ∀ n, PT (Z n) e t) : XT own ρ (wT Z e) Pq := fun F M0 H0 σ M H c Q q => ⟨t, hp, h F M0 H0 σ M H c Q q⟩
theorem XA.wz {t : TA} {Pq : List Ly.D → Own → Prop} (h : XA own ρ t Pq) (hp : ∀ n, PA (Z n) es t) : XA own ρ (wA Z es) Pq := fun F M0 H0 σ M H c Q q => ⟨t, hp, h F M0 H0 σ M H c Q q⟩
theorem xa_nl : XA own ρ (wA Z []) (fun x o => x = [] ∧ o = own) := xa_nil.wz fun _ => pa_nil
theorem xa_cn {Pa : Ly.D → Own → Prop} {Pr : Ly.D → List Ly.D → Own → Prop} (ha : X own ρ (wE Z e) Pa) (hr : ∀ x o, Pa x o → XA o ρ (wA Z es) (Pr x)) (hs : ∀ n, starEach (e :: es) (Z n).env = (false, eval e (Z n).env) :: starEach es (Z n).env := by intro _; rfl) :
    XA own ρ (wA Z (e :: es)) (fun ds o => ∃ x r o1, ds = x :: r ∧ Pa x o1 ∧ Pr x r o) := (xa_cons ha hr).wz fun n => pa_cons (pe_w n) (pa_w n) (hs n)
include fm in
/-- a call that changes cells -/
theorem x_call {R : List Ly.D → Own → Ly.D → Own → Prop} {k' : Nat} {ps : List Str} {Pa : List Ly.D → Own → Prop} (c : Cal P wd K mg base nm k' ps (spO R)) (ha : XA own ρ (wA Z (e :: es)) Pa)
    (h : ∀ ds o, Pa ds o → ∃ o1 o2 d o1', o.Perm (o1 ++ o2) ∧ R ds o1 d o1' ∧ Pq d (o1' ++ o2)) (hk : k' ≤ k := by decide) (hg : ∀ n, Gl (Z n) nm := by intro _; rfl) (hdb : (nm == ("__debug__" : Str)) = false := by decide)
    (he : ∀ n, starEach (e :: es) (Z n).env = (false, eval e (Z n).env) :: starEach es (Z n).env := by intro _; rfl) (hpl : ∀ n, (backTo pos (starEach es (Z n).env)).any (·.1) = false := by intro _; rfl) : X own ρ (wE Z (.Call (.Name nm p) (e :: es) [] pos)) Pq := by
  obtain ⟨f, fd, G, hm, hkp, hb⟩ := c.ex
  refine X.wz (t := tCall (spO R) [] E0 (wA Z (e :: es))) (fun F M0 H0 σ M H c Q q => ha F M0 H0 σ M H c _ fun vs ds o M1 H1 pa c1 s1 r => ?_) fun n => ?_
  · rw [List.append_nil]
    obtain ⟨o1, o2, d, o1', pm, hR, hq⟩ := h ds o pa
    have c2 := c1.perm pm
    exact ⟨M1, o1, ds, d, o1', c2.sd.mh, c2.sd.ow.left, r, hR, fun v M2 H2 po r2 => q v d _ M2 H2 hq (c2.frame po) (s1.trans po.mm) r2⟩
  · have G' : FnOk (Z n).prog (Z n).w (Z n).K (Z n).mg (Z n).base (L2.CX (Z n).prog (Z n).w) k f fd ps (spO R) := by
      rw [fm.P n, fm.w n, fm.K n, fm.mg n, fm.base n]; exact G.mono hk
    exact pe_call G' (fm.room n) (hg n) (by rw [fm.mg]; exact hm) (by rw [fm.K]; exact hkp) (by rw [fm.K]; exact hb) .nil passL (pa_w n) hdb (he n) (hpl n)
include fm in
/-- a call of a def that changes nothing, its arguments may -/
theorem x_callD {R : List Ly.D → Ly.D → Prop} {k' : Nat} {ps : List Str} {Pa : List Ly.D → Own → Prop} (c : Cal P wd K mg base nm k' ps (spD R)) (ha : XA own ρ (wA Z (e :: es)) Pa)
    (h : ∀ ds o, Pa ds o → ∃ d, R ds d ∧ Pq d o) (hk : k' ≤ k := by decide) (hg : ∀ n, Gl (Z n) nm := by intro _; rfl) (hdb : (nm == ("__debug__" : Str)) = false := by decide)
    (he : ∀ n, starEach (e :: es) (Z n).env = (false, eval e (Z n).env) :: starEach es (Z n).env := by intro _; rfl) (hpl : ∀ n, (backTo pos (starEach es (Z n).env)).any (·.1) = false := by intro _; rfl) : X own ρ (wE Z (.Call (.Name nm p) (e :: es) [] pos)) Pq := by
  obtain ⟨f, fd, G, hm, hkp, hb⟩ := c.ex
  refine X.wz (t := tCall (spD R) [] E0 (wA Z (e :: es))) (fun F M0 H0 σ M H c Q q => ha F M0 H0 σ M H c _ fun vs ds o M1 H1 pa c1 s1 r => ?_) fun n => ?_
  · rw [List.append_nil]
    obtain ⟨d, hR, hq⟩ := h ds o pa
    exact ⟨M1, ds, d, c1.sd.mh, r, hR, fun v M2 H2 u r2 => q v d o M2 H2 hq (c1.pure u) (s1.trans u.mm) r2⟩
  · have G' : FnOk (Z n).prog (Z n).w (Z n).K (Z n).mg (Z n).base (L2.CX (Z n).prog (Z n).w) k f fd ps (spD R) := by
      rw [fm.P n, fm.w n, fm.K n, fm.mg n, fm.base n]; exact G.mono hk
    exact pe_call G' (fm.room n) (hg n) (by rw [fm.mg]; exact hm) (by rw [fm.K]; exact hkp) (by rw [fm.K]; exact hb) .nil passL (pa_w n) hdb (he n) (hpl n)
include fm in
theorem x_callN {γ : Type} {Pre : γ → List Ly.D → Own → Prop} {Post : γ → Ly.D → Own → Prop} {k' : Nat} {ps : List Str} {Pa : List Ly.D → Own → Prop} (c : Cal P wd K mg base nm k' ps (spN Pre Post)) (ha : XA own ρ (wA Z (e :: es)) Pa)
    (h : ∀ ds o, Pa ds o → ∃ g o1 o2, o.Perm (o1 ++ o2) ∧ Pre g ds o1 ∧ ∀ d o1', Post g d o1' → Pq d (o1' ++ o2)) (hk : k' ≤ k := by decide) (hg : ∀ n, Gl (Z n) nm := by intro _; rfl) (hdb : (nm == ("__debug__" : Str)) = false := by decide)
    (he : ∀ n, starEach (e :: es) (Z n).env = (false, eval e (Z n).env) :: starEach es (Z n).env := by intro _; rfl) (hpl : ∀ n, (backTo pos (starEach es (Z n).env)).any (·.1) = false := by intro _; rfl) : X own ρ (wE Z (.Call (.Name nm p) (e :: es) [] pos)) Pq := by
  obtain ⟨f, fd, G, hm, hkp, hb⟩ := c.ex
  refine X.wz (t := tCall (spN Pre Post) [] E0 (wA Z (e :: es))) (fun F M0 H0 σ M H c Q q => ha F M0 H0 σ M H c _ fun vs ds o M1 H1 pa c1 s1 r => ?_) fun n => ?_
  · rw [List.append_nil]
    obtain ⟨g, o1, o2, pm, hR, hq⟩ := h ds o pa
    have c2 := c1.perm pm
    exact ⟨g, M1, o1, ds, c2.sd.mh, c2.sd.ow.left, r, hR, fun v d o1' M2 H2 hp po r2 => q v d _ M2 H2 (hq d o1' hp) (c2.frame po) (s1.trans po.mm) r2⟩
  · have G' : FnOk (Z n).prog (Z n).w (Z n).K (Z n).mg (Z n).base (L2.CX (Z n).prog (Z n).w) k f fd ps (spN Pre Post) := by
      rw [fm.P n, fm.w n, fm.K n, fm.mg n, fm.base n]; exact G.mono hk
    exact pe_call G' (fm.room n) (hg n) (by rw [fm.mg]; exact hm) (by rw [fm.K]; exact hkp) (by rw [fm.K]; exact hb) .nil passL (pa_w n) hdb (he n) (hpl n)
/-- an own class: how it is made and read -/
structure Kls (K : PySem.W.Frag) (mg : Str → Option Value) (nm : Str) (C : Addr) : Prop where
  cl : Cls K C
  g : mg nm = some (.ref C)
structure CalI (P : Program) (wd : World) (K : PySem.W.Frag) (mg : Str → Option Value) (base : Heap) (C : Addr) (k : Nat) (ps : List Str) (sp : Sp) : Prop where
  ex : ∃ f fd, FnOk P wd K mg base (L2.CX P wd) k f fd ps sp ∧ Mk K C f ∧ Binds K fd ps []
include fm in
/-- C(..): its __init__ fills the new instance and may leave new cells -/
theorem x_make {C : Addr} {R : List Ly.D → Own → Ly.D → Own → Prop} {k' : Nat} {ps : List Str} {Pa : List Ly.D → Own → Prop} (kl : Kls K mg nm C) (c : CalI P wd K mg base C k' ps (spO R)) (ha : XA own ρ (wA Z (e :: es)) Pa)
    (h : ∀ ds o, Pa ds o → ∀ x, ∃ o', R (.ref x :: ds) [(x, .ins C [])] .non o' ∧ Pq (.ref x) (o' ++ o)) (hk : k' + 1 ≤ k := by decide) (hg : ∀ n, Gl (Z n) nm := by intro _; rfl) (hdb : (nm == ("__debug__" : Str)) = false := by decide)
    (he : ∀ n, starEach (e :: es) (Z n).env = (false, eval e (Z n).env) :: starEach es (Z n).env := by intro _; rfl) (hpl : ∀ n, (backTo pos (starEach es (Z n).env)).any (·.1) = false := by intro _; rfl) : X own ρ (wE Z (.Call (.Name nm p) (e :: es) [] pos)) Pq := by
  obtain ⟨f, fd, G, mk, hb⟩ := c.ex
  refine X.wz (t := tMake C (spO R) [] E0 (wA Z (e :: es))) (fun F M0 H0 σ M H c Q q => ha F M0 H0 σ M H c _ fun vs ds o M1 H1 pa c1 s1 r => ?_) fun n => ?_
  · intro x dx hx hdx hne
    rw [List.append_nil]
    obtain ⟨o', hR, hq⟩ := h ds o pa x
    have mx := same_back c1.sd.mh hx
    have hdx2 : H1 x = none := hx
    have s2 : Same M1 (upd H1 dx (.own x)) := c1.sd.mh.trans (same_new hdx)
    have hx2 : (upd H1 dx (.own x)) x = none := by rw [upd_ne (Ne.symm hne)]; exact hx
    have u : Pu M1 H1 M1 (upd (upd H1 dx (.own x)) x (.ins C dx [])) := (Pu.newH c1.sd.mh hdx).trans (Pu.newH s2 hx2)
    have c2 : Ly.C F M0 H0 ((x, .ins C []) :: o) ρ σ M1 (upd (upd H1 dx (.own x)) x (.ins C dx [])) := c1.new u hx mx upd_same ⟨dx, [], rfl, .nil⟩
    have c3 : Ly.C F M0 H0 ([(x, OC.ins C [])] ++ o) ρ σ M1 (upd (upd H1 dx (.own x)) x (.ins C dx [])) := c2
    exact ⟨M1, [(x, .ins C [])], .ref x :: ds, .non, o', c3.sd.mh, c3.sd.ow.left, .cons (.raw _) r, hR, fun v M2 H2 po r2 => ⟨r2.raw_eq, q (.ref x) (.ref x) _ M2 H2 hq (c3.frame po) (s1.trans po.mm) (.raw _)⟩⟩
  · have G' : FnOk (Z n).prog (Z n).w (Z n).K (Z n).mg (Z n).base (L2.CX (Z n).prog (Z n).w) k' f fd ps (spO R) := by
      rw [fm.P n, fm.w n, fm.K n, fm.mg n, fm.base n]; exact G
    exact pe_make (by rw [fm.K]; exact mk) G' ((fm.room n).mono hk) (hg n) (by rw [fm.mg]; exact kl.g) (by rw [fm.K]; exact hb) .nil passL (pa_w n) hdb (he n) (hpl n)
structure CalM (P : Program) (wd : World) (K : PySem.W.Frag) (mg : Str → Option Value) (base : Heap) (C : Addr) (m : Str) (k : Nat) (ps : List Str) (sp : Sp) : Prop where
  ex : ∃ f fd, FnOk P wd K mg base (L2.CX P wd) k f fd ps sp ∧ Meth K C m f ∧ Binds K fd ps []
include fm in
/-- o.m(..), o an own instance that is a cell -/
theorem x_meth {o : Expr} {apos : Pos} {pl : ι → Sem Bool} {C ad : Addr} {m : Str} {fs : List (Str × Ly.D)} {kk : Nat} {R : List Ly.D → Own → Ly.D → Own → Prop} {k' : Nat} {ps : List Str} (kl : Cls K C) (cm : CalM P wd K mg base C m k' ps (spO R)) (ho : E own ρ (wE Z o) (.ref ad)) (hc : own[kk]? = some (ad, .ins C fs)) (hfs : fs.lookup m = none)
    (ha : EA own ρ (wA Z (e :: es)) ds) {o1 o2 o1' : Own} (hp : own.Perm (o1 ++ o2)) (hR : R (.ref ad :: ds) o1 d o1') (hk : k' ≤ k := by decide)
    (hst : ∀ n, starEach (e :: es) (Z n).env = (false, eval e (Z n).env) :: starEach es (Z n).env := by intro _; rfl) (hpl : ∀ n, (backTo pos (starEach es (Z n).env)).any (·.1) = false := by intro _; rfl)
    (ht : ∀ n, eval (.Call (.Attribute o m apos) (e :: es) [] pos) (Z n).env = (do
      let ov ← eval o (Z n).env
      standAt apos.atName
      let (f, first) ← holding [ov] (getMethod ov m (pl n))
      callWith pos f first (backTo pos (starEach (e :: es) (Z n).env)) (backToKw pos (keywordEach [] (Z n).env))) := by intro _; rfl) : X own ρ (wE Z (.Call (.Attribute o m apos) (e :: es) [] pos)) (fun x o => x = d ∧ o = o1' ++ o2) := by
  obtain ⟨f, fd, G, mt, hb⟩ := cm.ex
  refine X.wz (t := tMeth C m (spO R) [] E0 (wE Z o) (wA Z (e :: es))) (fun F M0 H0 σ M H c Q q => ho σ M H c.sd _ fun v M1 H1 u1 r1 => ?_) fun n => ?_
  · have c1 := c.pure u1
    obtain ⟨_, ob, hob, dx, fv, rfl, rf⟩ := c1.sd.ow.get hc
    refine ⟨ad, dx, fv, r1.raw_eq, hob, rf.look_none hfs, ha σ M1 H1 c1.sd _ fun vs M2 H2 u2 r2 => ?_⟩
    rw [List.append_nil]
    have c2 := (c1.pure u2).perm hp
    rw [r1.raw_eq]
    exact ⟨M2, o1, .ref ad :: ds, d, o1', c2.sd.mh, c2.sd.ow.left, .cons (.raw _) r2, hR, fun v M3 H3 po r3 => q v d _ M3 H3 ⟨rfl, rfl⟩ (c2.frame po) ((u1.mm.trans u2.mm).trans po.mm) r3⟩
  · have G' : FnOk (Z n).prog (Z n).w (Z n).K (Z n).mg (Z n).base (L2.CX (Z n).prog (Z n).w) k f fd ps (spO R) := by
      rw [fm.P n, fm.w n, fm.K n, fm.mg n, fm.base n]; exact G.mono hk
    exact pe_meth (pe_w n) (by rw [fm.K]; exact kl) (by rw [fm.K]; exact mt) G' (fm.room n) (by rw [fm.K]; exact hb) .nil passL (pa_w n) (hst n) (hpl n) (ht n)

include fm in
/-- C(..), its __init__ by a promise of that form -/
theorem x_makeN {γ : Type} {Cc : Addr} {Pre : γ → List Ly.D → Own → Prop} {Post : γ → Ly.D → Own → Prop} {k' : Nat} {ps : List Str} {Pa : List Ly.D → Own → Prop} (kl : Kls K mg nm Cc) (c : CalI P wd K mg base Cc k' ps (spN Pre Post)) (ha : XA own ρ (wA Z (e :: es)) Pa)
    (h : ∀ ds o, Pa ds o → ∀ x, ∃ g, Pre g (.ref x :: ds) [(x, .ins Cc [])] ∧ ∀ d o', Post g d o' → d = .non ∧ Pq (.ref x) (o' ++ o)) (hk : k' + 1 ≤ k := by decide) (hg : ∀ n, Gl (Z n) nm := by intro _; rfl) (hdb : (nm == ("__debug__" : Str)) = false := by decide)
    (he : ∀ n, starEach (e :: es) (Z n).env = (false, eval e (Z n).env) :: starEach es (Z n).env := by intro _; rfl) (hpl : ∀ n, (backTo pos (starEach es (Z n).env)).any (·.1) = false := by intro _; rfl) : X own ρ (wE Z (.Call (.Name nm p) (e :: es) [] pos)) Pq := by
  obtain ⟨f, fd, G, mk, hb⟩ := c.ex
  refine X.wz (t := tMake Cc (spN Pre Post) [] E0 (wA Z (e :: es))) (fun F M0 H0 σ M H c Q q => ha F M0 H0 σ M H c _ fun vs ds o M1 H1 pa c1 s1 r => ?_) fun n => ?_
  · intro x dx hx hdx hne
    rw [List.append_nil]
    obtain ⟨g, hR, hq⟩ := h ds o pa x
    have mx := same_back c1.sd.mh hx
    have s2 : Same M1 (upd H1 dx (.own x)) := c1.sd.mh.trans (same_new hdx)
    have hx2 : (upd H1 dx (.own x)) x = none := by rw [upd_ne (Ne.symm hne)]; exact hx
    have u : Pu M1 H1 M1 (upd (upd H1 dx (.own x)) x (.ins Cc dx [])) := (Pu.newH c1.sd.mh hdx).trans (Pu.newH s2 hx2)
    have c2 : Ly.C F M0 H0 ((x, .ins Cc []) :: o) ρ σ M1 (upd (upd H1 dx (.own x)) x (.ins Cc dx [])) := c1.new u hx mx upd_same ⟨dx, [], rfl, .nil⟩
    have c3 : Ly.C F M0 H0 ([(x, OC.ins Cc [])] ++ o) ρ σ M1 (upd (upd H1 dx (.own x)) x (.ins Cc dx [])) := c2
    exact ⟨g, M1, [(x, .ins Cc [])], .ref x :: ds, c3.sd.mh, c3.sd.ow.left, .cons (.raw _) r, hR, fun v d o' M2 H2 hp po r2 => by
      obtain ⟨e1, e2⟩ := hq d o' hp
      subst e1
      exact ⟨r2.raw_eq, q (.ref x) (.ref x) _ M2 H2 e2 (c3.frame po) (s1.trans po.mm) (.raw _)⟩⟩
  · have G' : FnOk (Z n).prog (Z n).w (Z n).K (Z n).mg (Z n).base (L2.CX (Z n).prog (Z n).w) k' f fd ps (spN Pre Post) := by
      rw [fm.P n, fm.w n, fm.K n, fm.mg n, fm.base n]; exact G
    exact pe_make (by rw [fm.K]; exact mk) G' ((fm.room n).mono hk) (hg n) (by rw [fm.mg]; exact kl.g) (by rw [fm.K]; exact hb) .nil passL (pa_w n) hdb (he n) (hpl n)
/-! ### statements that change cells -/
theorem k_setX {Pq : Ly.D → Own → Prop} (fm : Fam Z P wd K mg base N k) (v : Nat) (c : C F M0 H0 own ρ σ M H) (h : X own ρ (wE Z e) Pq) (hN : ∀ n, (Z n).N[v]? = some nm) (k : ∀ d o σ' M' H', Pq d o → C F M0 H0 o (ρ.set v (some d)) σ' M' H' → D.nx σ' H') (hl : ∀ n, Loc (Z n).env.scope nm := by intro _; first | exact Or.inl rfl | exact Or.inr rfl)
    (hf : ∀ n, (Z n).fn nm = true ∨ (Z n).env.scope.names.lookup nm = some .local := by intro _; first | exact .inl rfl | exact .inr rfl) (hs : ∀ n, swapsWith e (some (.Name nm p)) pos.line (Z n).env = pure false := by intro _; rfl) : wS Z (.Assign [.Name nm p] e pos) D σ H :=
  ⟨_, fun n => ps_set (fm.N n ▸ fm.nd) (hN n) (hl n) (pe_w n) (hs n) (hf n), s_setX c h k⟩
theorem k_retX (c : C F M0 H0 own ρ σ M H) (h : X own ρ (wE Z e) Pq) (k : ∀ v d o M' H', Pq d o → C F M0 H0 o ρ σ M' H' → Dv M' v d → D.rt v H') : wS Z (.Return (some e) pos) D σ H := ⟨_, fun n => ps_ret (pe_w n), s_ret c h k⟩
theorem k_drop (c : C F M0 H0 own ρ σ M H) (h : X own ρ (wE Z e) Pq) (k : ∀ d o M' H', Pq d o → C F M0 H0 o ρ σ M' H' → D.nx σ H') (hs : ∀ n, swapsWith e none pos.line (Z n).env = pure false := by intro _; rfl) : wS Z (.Expr e pos) D σ H := ⟨_, fun n => ps_expr (pe_w n) (hs n), s_drop c h k⟩
theorem k_ifX {t : Expr} {Pq : Bool → Own → Prop} {b1 b2 : List Stmt} (c : C F M0 H0 own ρ σ M H) (h : XT own ρ (wT Z t) Pq) (h1 : ∀ o M' H', Pq true o → C F M0 H0 o ρ σ M' H' → wB Z b1 D σ H') (h2 : ∀ o M' H', Pq false o → C F M0 H0 o ρ σ M' H' → wB Z b2 D σ H') : wS Z (.If t b1 b2 pos) D σ H :=
  ⟨_, fun n => ps_if (pt_w n) (pb_w n) (pb_w n), s_ifX c h h1 h2⟩
theorem k_asgX {tg : Expr} {f : Ly.D → Ev → Ev} (c : C F M0 H0 own ρ σ M H) (h : X own ρ (wE Z e) Pq) (hg : ∀ d o, Pq d o → EG (wG Z tg) d (f d)) (k : ∀ d o σ' M' H', Pq d o → C F M0 H0 o (f d ρ) σ' M' H' → D.nx σ' H') (hs : ∀ n, swapsWithSole [tg] e pos.line (Z n).env = pure false := by intro _; rfl) (hw : ∀ n, swappedStores [tg] e (Z n).env = pure none := by intro _; rfl)
    (h1 : ∀ n, (assignEach [tg] (Z n).env).map (·.2) = [assign tg (Z n).env] := by intro _; rfl) : wS Z (.Assign [tg] e pos) D σ H :=
  ⟨_, fun n => ps_asg (pe_w n) (pg_w n) (hs n) (hw n) (h1 n), s_asg c h hg fun d o σ' M' H' p _ c' => k d o σ' M' H' p c'⟩
/-- for, its body on its own base -/
theorem k_forB (fm : Fam Z P wd K mg base N k) {tg : Expr} {iter : Expr} {G : Type} (P : Nat → G → Prop) (ow : G → Own) (rh : G → Ev) (x0 : G) (f : Ly.D → Ev → Ev) (c : C F M0 H0 own ρ σ M H) (hi : EI own ρ (wI Z tg iter) ds)
    (h0 : P 0 x0) (ho : ow x0 = own) (hr : ∀ F M0 H0 σ M H, C F M0 H0 own ρ σ M H → C F M0 H0 own (rh x0) σ M H) (hg : ∀ (i : Nat) (d : Ly.D), ds[i]? = some d → EG (wG Z tg) d (f d))
    (hs : ∀ M1 H1, (∀ own' ρ' σ' M' H', C (own.map (·.1)) M1 H1 own' ρ' σ' M' H' → C F M0 H0 own' ρ' σ' M' H') → ∀ (i : Nat) (d : Ly.D) x σ' M' H', ds[i]? = some d → P i x → C (own.map (·.1)) M1 H1 (ow x) (f d (rh x)) σ' M' H' → ∀ D' : Ends, D'.rt = D.rt → D'.bk = D.nx → (∀ x' σ2 M2 H2, P (i + 1) x' → C (own.map (·.1)) M1 H1 (ow x') (rh x') σ2 M2 H2 → D'.nx σ2 H2) → wB Z body D' σ' H')
    (hd : ∀ x σ' M' H', P ds.length x → C F M0 H0 (ow x) (rh x) σ' M' H' → D.nx σ' H') (hp : ∀ n, PassesOwn (model (Z n).prog (Z n).w) (Z n).A (Z n).env (Z n).xe) (hf : ∀ n x, foldedSetIterable iter (Z n).env x = pure x := by intro _ _; rfl) : wS Z (.For tg iter body [] pos) D σ H :=
  ⟨_, fun n => ps_for (hp n) (fm.calm n) (pi_w n) (pg_w n) (pb_w n) (hf n), s_forB P ow rh x0 c hi h0 ho hr f hg hs hd⟩
/-- name = a new list that stays a cell -/
theorem k_new (fm : Fam Z P wd K mg base N k) (v : Nat) (c : C F M0 H0 own ρ σ M H) (h : EN own ρ (wE Z e) ds) (hN : ∀ n, (Z n).N[v]? = some nm) (k : ∀ a σ' M' H', C F M0 H0 ((a, .l ds) :: own) (ρ.set v (some (.ref a))) σ' M' H' → D.nx σ' H') (hl : ∀ n, Loc (Z n).env.scope nm := by intro _; first | exact Or.inl rfl | exact Or.inr rfl)
    (hf : ∀ n, (Z n).fn nm = true ∨ (Z n).env.scope.names.lookup nm = some .local := by intro _; first | exact .inl rfl | exact .inr rfl) (hs : ∀ n, swapsWith e (some (.Name nm p)) pos.line (Z n).env = pure false := by intro _; rfl) : wS Z (.Assign [.Name nm p] e pos) D σ H :=
  k_setX (Pq := fun d o => ∃ a, d = .ref a ∧ o = (a, .l ds) :: own) fm v c (fun F M0 H0 σ M H c Q q => h σ M H c.sd Q fun a vs M' H' u n m e r => q _ _ _ M' H' ⟨a, rfl, rfl⟩ (c.new u n m e ⟨vs, rfl, r⟩) u.mm (.raw _)) hN (fun d o σ' M' H' ⟨a, e1, e2⟩ c' => by subst e1 e2; exact k a σ' M' H' c') hl hf hs
/-- as an expression -/
theorem EN.xn {t : TE} (h : EN own ρ t ds) : X own ρ t (fun d o => ∃ a, d = .ref a ∧ o = (a, .l ds) :: own) := fun F M0 H0 σ M H c Q q => h σ M H c.sd Q fun a vs M' H' u n m e r => q _ _ _ M' H' ⟨a, rfl, rfl⟩ (c.new u n m e ⟨vs, rfl, r⟩) u.mm (.raw _)
include fm in
/-- xs.append(e), xs a cell -/
theorem k_app {o : Expr} {apos cpos : Pos} {ad : Addr} (c : C F M0 H0 own ρ σ M H) (ho : E own ρ (wE Z o) (.ref ad)) {kk : Nat} {zs : List Ly.D} (hz : own[kk]? = some (ad, .l zs)) (he : X own ρ (wE Z e) Pq) (h : ∀ d o, Pq d o → ∃ k ds, o[k]? = some (ad, .l ds) ∧ ds.length ≤ 100000 ∧ ∀ M' H', C F M0 H0 (o.set k (ad, .l (ds ++ [d]))) ρ σ M' H' → D.nx σ H')
    (hbase : ∀ n, attributeBase o "append" (Z n).env (eval o (Z n).env) = eval o (Z n).env := by intro _; rfl)
    (hfew : ∀ n, ((backTo cpos (starEach (e :: []) (Z n).env)).all (fun x => !x.1) && (backToKw cpos (keywordEach [] (Z n).env)).all (fun x => x.1.isSome)
      && decide ((e :: []).length + ([] : List Keyword).length + (if ([] : List Keyword).isEmpty then 0 else 1) < 30)) = true := by intro _; rfl)
    (hline : (apos.endLine == cpos.line) = true := by rfl) (hs : ∀ n, starEach (e :: []) (Z n).env = (false, eval e (Z n).env) :: starEach [] (Z n).env := by intro _; rfl) (hplain : ∀ n, (backTo cpos (starEach [] (Z n).env)).any (·.1) = false := by intro _; rfl)
    (hsw : ∀ n, swapsWith (.Call (.Attribute o "append" apos) [e] [] cpos) none pos.line (Z n).env = pure false := by intro _; rfl) : wS Z (.Expr (.Call (.Attribute o "append" apos) [e] [] cpos) pos) D σ H := by
  refine ⟨_, fun n => ps_expr (fm.K n ▸ pe_bm PySem.F.plainAttrs_list PySem.F.slot_list_append PySem.F.type_list_append mt_append (pe_w n) (pa_cons (pe_w n) pa_nil (hs n)) (hbase n) (hfew n) hline (hs n) (hplain n)) (hsw n), ?_⟩
  refine ho σ M H c.sd _ fun v M1 H1 u1 r1 => ?_
  have c1 := c.pure u1
  obtain ⟨_, ob, hob, vs, rfl, rv⟩ := c1.sd.ow.get hz
  refine ⟨by rw [r1.raw_eq]; exact .inl ⟨rfl, vs, .of hob⟩, he F M0 H0 σ M1 H1 c1 _ fun w d o M2 H2 pq c2 s2 r2 => ?_⟩
  obtain ⟨k, ds, hk, hl, kn⟩ := h d o pq
  obtain ⟨_, ob2, hob2, us, rfl, ru⟩ := c2.sd.ow.get hk
  refine ⟨ad, us, w, r1.raw_eq, rfl, hob2, by rw [ru.length]; exact Nat.lt_of_le_of_lt hl (by decide), kn M2 _ (c2.put hk ⟨us ++ [w], rfl, ru.append (.cons r2 .nil)⟩)⟩
end

/-! ### bodies of defs that are handed cells -/
section
variable {P : Program} {wd : World} {K : PySem.W.Frag} {mg : Str → Option Value} {base : Heap} {N ps : List Str} {k : Nat} {x q : Str} {st : Stmt} {f : Addr}
/-- the contexts of a method's body: q its qualified name -/
abbrev Zm (P : Program) (wd : World) (K : PySem.W.Frag) (mg : Str → Option Value) (base : Heap) (N : List Str) (q : Str) (st : Stmt) (f : Addr) (cdv : Value) (A : Around) (outer : List Env) (s : Shared) (H : Hp) (Er : XK) : Unit → Cx := fun _ => cxOf (L2.CX P wd) P wd K mg base N q (defScope st) f cdv A outer s H Er
theorem fn_own {R : List Ly.D → Own → Ly.D → Own → Prop} {fd : FuncData} (F : Fun K x q st f fd) (S : FnScope N ps (defScope st)) (hlen : ∀ ds o d o', R ds o d o' → ds.length = ps.length)
    (body : ∀ (cdv : Value) (A : Around) (outer : List Env) (s : Shared) (H : Hp) (Er : XK), Fam (Zm P wd K mg base N q st f cdv A outer s H Er) P wd K mg base N k → ∀ ds own d own', R ds own d own' → ∀ (M0 H0 : Hp) (σ : L2.St) (D : Ends), C (own.map (·.1)) M0 H0 own (startD N.length ds) σ M0 H0 →
      (∀ v ρ σ' M' H', C (own.map (·.1)) M0 H0 own' ρ σ' M' H' → Dv M' v d → D.rt v H') → (∀ σ' H', D.nx σ' H' ↔ D.rt .non H') → wB (Zm P wd K mg base N q st f cdv A outer s H Er) (defBody st) D σ H0) : FnOk P wd K mg base (L2.CX P wd) (k + 1) f fd ps (spO R) := by
  refine F.okX S (fun vs H Q Er h => ?_) (fun cdv A outer s H vs Q Er hr h => ?_)
  · obtain ⟨M, own, ds, d, own', _, _, r, h, _⟩ := h
    rw [r.length]; exact hlen ds own d own' h
  · obtain ⟨M, own, ds, d, own', mh, ow, r, h, q⟩ := h
    refine ⟨_, pb_w (Z := Zm P wd K mg base N _ st f cdv A outer s H Er) (), ?_⟩
    refine body cdv A outer s H Er ⟨fun _ => rfl, fun _ => rfl, fun _ => rfl, fun _ => rfl, fun _ => rfl, fun _ => rfl, S.nd, fun _ => rfl, fun _ => hr⟩ ds own d own' h M H _ _ ⟨⟨mh, EnvD.start r N, ow⟩, .refl, (fun p hp => .inl (List.mem_map_of_mem hp)), (fun a ha => ?_)⟩ (fun v ρ σ' M' H' c r => q v M' H' c.po r) fun _ _ => Iff.rfl
    obtain ⟨p, hp, rfl⟩ := List.mem_map.mp ha
    exact ⟨p.2, hp⟩
theorem fn_new {γ : Type} {Pre : γ → List Ly.D → Own → Prop} {Post : γ → Ly.D → Own → Prop} {fd : FuncData} (F : Fun K x q st f fd) (S : FnScope N ps (defScope st)) (hlen : ∀ g ds o, Pre g ds o → ds.length = ps.length)
    (body : ∀ (cdv : Value) (A : Around) (outer : List Env) (s : Shared) (H : Hp) (Er : XK), Fam (Zm P wd K mg base N q st f cdv A outer s H Er) P wd K mg base N k → ∀ g ds own, Pre g ds own → ∀ (M0 H0 : Hp) (σ : L2.St) (D : Ends), C (own.map (·.1)) M0 H0 own (startD N.length ds) σ M0 H0 →
      (∀ v d own' ρ σ' M' H', Post g d own' → C (own.map (·.1)) M0 H0 own' ρ σ' M' H' → Dv M' v d → D.rt v H') → (∀ σ' H', D.nx σ' H' ↔ D.rt .non H') → wB (Zm P wd K mg base N q st f cdv A outer s H Er) (defBody st) D σ H0) : FnOk P wd K mg base (L2.CX P wd) (k + 1) f fd ps (spN Pre Post) := by
  refine F.okX S (fun vs H Q Er h => ?_) (fun cdv A outer s H vs Q Er hr h => ?_)
  · obtain ⟨g, M, own, ds, _, _, r, h, _⟩ := h
    rw [r.length]; exact hlen g ds own h
  · obtain ⟨g, M, own, ds, mh, ow, r, h, q⟩ := h
    refine ⟨_, pb_w (Z := Zm P wd K mg base N _ st f cdv A outer s H Er) (), ?_⟩
    refine body cdv A outer s H Er ⟨fun _ => rfl, fun _ => rfl, fun _ => rfl, fun _ => rfl, fun _ => rfl, fun _ => rfl, S.nd, fun _ => rfl, fun _ => hr⟩ g ds own h M H _ _ ⟨⟨mh, EnvD.start r N, ow⟩, .refl, (fun p hp => .inl (List.mem_map_of_mem hp)), (fun a ha => ?_)⟩ (fun v d own' ρ σ' M' H' hp c r => q v d own' M' H' hp c.po r) fun _ _ => Iff.rfl
    obtain ⟨p, hp, rfl⟩ := List.mem_map.mp ha
    exact ⟨p.2, hp⟩
end
end Ly
/-! Ly6: own cells read, stored; seen as let go while a plain answer is made. -/
namespace Ly
open PySem L2 Mc

section
variable {ι : Type} {Z : ι → Cx} {own : Own} {ρ : Ev} {P : Program} {wd : World} {K : PySem.W.Frag} {mg : Str → Option Value} {base : Heap} {N : List Str} {k : Nat} (fm : Fam Z P wd K mg base N k)
variable {a b c e : Expr} {es : List Expr} {x y z d : D} {ds xs ys : List D} {i j : Int} {pos p p2 pf : Pos} {nm : Str}
variable (B : Blt mg)
variable {st : Stmt} {rest body : List Stmt} {D : Ends} {F : List Addr} {M0 H0 M H : Hp} {σ : L2.St} {Pq : Ly.D → Own → Prop}
include fm
/-- o.f, o a cell -/
theorem w_fldO {ad C : Addr} {f : Str} {fs : List (Str × Ly.D)} {kk : Nat} (ha : E own ρ (wE Z e) (.ref ad)) (hc : own[kk]? = some (ad, .ins C fs)) (cl : Cls K C) (na : NoAttr K C f) (h : fs.lookup f = some d) (hb : ∀ n, attributeBase e f (Z n).env (eval e (Z n).env) = eval e (Z n).env := by intro _; rfl) : E own ρ (wE Z (.Attribute e f pos)) d :=
  E.wz (t := tFld K (wE Z e) f) (fun σ M H sd Q q => ha σ M H sd _ fun v M1 H1 u1 r1 => by
    have s1 := sd.pure u1
    obtain ⟨_, ob, hob, dx, fv, rfl, hf⟩ := s1.ow.get hc
    obtain ⟨v', h1, h2⟩ := hf.look h
    exact ⟨ad, C, dx, fv, v', r1.raw_eq, hob, cl, na, h1, q v' M1 H1 u1 h2⟩) fun n => fm.K n ▸ pe_fld (pe_w n) (hb n)
/-- xs[i], xs a cell -/
theorem w_ixO {ad : Addr} {kk : Nat} (ha : E own ρ (wE Z a) (.ref ad)) (hb : E own ρ (wE Z b) (.int i)) (hc : own[kk]? = some (ad, .l ds)) (h : atI ds i = some z) (hs : PlainIx b := by intro _ _; rfl) : E own ρ (wE Z (.Subscript a b pos)) z :=
  E.wz (t := tOp (rIxL K) (wE Z a) (wE Z b)) (fun σ M H sd Q q => ha σ M H sd _ fun v M1 H1 u1 r1 => hb σ M1 H1 (sd.pure u1) _ fun w M2 H2 u2 r2 => by
    have s2 := (sd.pure u1).pure u2
    obtain ⟨_, ob, hob, vs, rfl, rv⟩ := s2.ow.get hc
    obtain ⟨v', h1, h2⟩ := atI_vs rv h
    exact ⟨ad, vs, i, v', r1.raw_eq, r2.raw_eq, .of hob, h1, q v' M2 H2 (u1.trans u2) h2⟩) fun n => pe_ix (fm.K n ▸ ix_list) (pe_w n) (pe_w n) hs
/-- t[i], t a tuple that is a cell of the turn -/
theorem w_ixC {ad : Addr} {kk : Nat} (ha : E own ρ (wE Z a) (.ref ad)) (hb : E own ρ (wE Z b) (.int i)) (hc : own[kk]? = some (ad, .tp ds)) (h : atI ds i = some z) (hs : PlainIx b := by intro _ _; rfl) : E own ρ (wE Z (.Subscript a b pos)) z :=
  E.wz (t := tOp (rIxT K) (wE Z a) (wE Z b)) (fun σ M H sd Q q => ha σ M H sd _ fun v M1 H1 u1 r1 => hb σ M1 H1 (sd.pure u1) _ fun w M2 H2 u2 r2 => by
    have s2 := (sd.pure u1).pure u2
    obtain ⟨_, ob, hob, vs, rfl, rv⟩ := s2.ow.get hc
    obtain ⟨v', h1, h2⟩ := atI_vs rv h
    exact ⟨ad, vs, i, v', r1.raw_eq, r2.raw_eq, .of hob, h1, q v' M2 H2 (u1.trans u2) h2⟩) fun n => pe_ix (fm.K n ▸ ix_tup) (pe_w n) (pe_w n) hs
include B in
theorem w_lenO {ad : Addr} {kk : Nat} (ha : E own ρ (wE Z a) (.ref ad)) (hc : own[kk]? = some (ad, .l ds)) (hg : ∀ n, Gl (Z n) "len" := by intro _; rfl) (he : ∀ n, starEach (a :: []) (Z n).env = (false, eval a (Z n).env) :: starEach [] (Z n).env := by intro _; rfl) (hpl : ∀ n, (backTo pos (starEach [] (Z n).env)).any (·.1) = false := by intro _; rfl) :
    E own ρ (wE Z (.Call (.Name "len" pf) [a] [] pos)) (.int ds.length) :=
  w_cb fm (r := fun xs H Q => ∃ p ys, xs = [.ref p] ∧ (SqL K H p ys ∨ SqT K H p ys) ∧ Q (.int ys.length) H) (fun n => fm.K n ▸ call_len_seq) B.len (by decide +kernel) (a_cons ha a_nil he) (fun vs M H mh ow r Q q => by
    obtain ⟨v, rfl, r1⟩ := r.one
    obtain ⟨_, ob, hob, us, rfl, rv⟩ := ow.get hc
    exact ⟨ad, us, by rw [r1.raw_eq], .inl (.of hob), q _ M H (.refl mh) (rv.length ▸ .raw _)⟩) hg (by decide) (by decide) he hpl
/-- o.f = e, o a cell -/
theorem k_fldX {ob : Expr} {ad Cc : Addr} {f : Str} {p' : Pos} (c : C F M0 H0 own ρ σ M H) (he : X own ρ (wE Z e) Pq) (ho : ∀ o, E o ρ (wE Z ob) (.ref ad)) (cl : Cls K Cc) (na : NoAttr K Cc f)
    (h : ∀ d o, Pq d o → ∃ k fs, o[k]? = some (ad, .ins Cc fs) ∧ fs.length < 1000 ∧ ∀ M' H', Ly.C F M0 H0 (o.set k (ad, .ins Cc (putD f d fs))) ρ σ M' H' → D.nx σ H')
    (hs : ∀ n, swapsWith e (some (.Attribute ob f p')) pos.line (Z n).env = pure false := by intro _; rfl) : wS Z (.Assign [.Attribute ob f p'] e pos) D σ H := by
  refine ⟨sFld K (wE Z ob) (wE Z e) f, fun n => fm.K n ▸ ps_fld (pe_w n) (pe_w n) (hs n), he F M0 H0 σ M H c _ fun v d o M1 H1 pq c1 s1 r1 => ?_⟩
  refine ho o σ M1 H1 c1.sd _ fun w M2 H2 u2 r2 => ?_
  have c2 := c1.pure u2
  obtain ⟨k, fs, hk, hl, kn⟩ := h d o pq
  obtain ⟨_, ob2, hob, dx, fv, rfl, rf⟩ := c2.sd.ow.get hk
  exact ⟨ad, Cc, dx, fv, r2.raw_eq, hob, cl, na, by rw [rf.length]; exact hl, kn M2 _ (c2.put hk ⟨dx, _, rfl, rf.put (r1.mono u2.mm)⟩)⟩
theorem k_fld {ob : Expr} {ad Cc : Addr} {f : Str} {p' : Pos} {kk : Nat} {fs : List (Str × Ly.D)} (c : C F M0 H0 own ρ σ M H) (he : E own ρ (wE Z e) d) (ho : E own ρ (wE Z ob) (.ref ad)) (hk : own[kk]? = some (ad, .ins Cc fs)) (cl : Cls K Cc) (na : NoAttr K Cc f) (hl : fs.length < 1000)
    (h : ∀ M' H', Ly.C F M0 H0 (own.set kk (ad, .ins Cc (putD f d fs))) ρ σ M' H' → D.nx σ H')
    (hs : ∀ n, swapsWith e (some (.Attribute ob f p')) pos.line (Z n).env = pure false := by intro _; rfl) : wS Z (.Assign [.Attribute ob f p'] e pos) D σ H := by
  refine ⟨sFld K (wE Z ob) (wE Z e) f, fun n => fm.K n ▸ ps_fld (pe_w n) (pe_w n) (hs n), he σ M H c.sd _ fun v M1 H1 u1 r1 => ?_⟩
  refine ho σ M1 H1 (c.sd.pure u1) _ fun w M2 H2 u2 r2 => ?_
  have c2 := (c.pure u1).pure u2
  obtain ⟨_, ob2, hob, dx, fv, rfl, rf⟩ := c2.sd.ow.get hk
  exact ⟨ad, Cc, dx, fv, r2.raw_eq, hob, cl, na, by rw [rf.length]; exact hl, h M2 _ (c2.put hk ⟨dx, _, rfl, rf.put (r1.mono u2.mm)⟩)⟩
omit fm

/-! ### a view in which the cells are let go, for plain answers -/
-- what a datum is, the cells seen
mutual
inductive Vw (own : Own) : Ly.D → Ly.D → Prop
  | same (d : Ly.D) : Vw own d d
  | l {a : Addr} {k : Nat} {ds es : List Ly.D} : own[k]? = some (a, .l ds) → Vws own ds es → Vw own (.ref a) (.lst es)
  | ins {a C : Addr} {k : Nat} {fs gs : List (Str × Ly.D)} : own[k]? = some (a, .ins C fs) → Vwf own fs gs → Vw own (.ref a) (.ins C gs)
inductive Vws (own : Own) : List Ly.D → List Ly.D → Prop
  | same (ds : List Ly.D) : Vws own ds ds
  | cons {d e : Ly.D} {ds es : List Ly.D} : Vw own d e → Vws own ds es → Vws own (d :: ds) (e :: es)
inductive Vwf (own : Own) : List (Str × Ly.D) → List (Str × Ly.D) → Prop
  | same (ds : List (Str × Ly.D)) : Vwf own ds ds
  | cons {f : Str} {d e : Ly.D} {ds es : List (Str × Ly.D)} : Vw own d e → Vwf own ds es → Vwf own ((f, d) :: ds) ((f, e) :: es)
end
/-- the heap in which the cells are known -/
def seen (M H : Hp) (own : Own) : Hp := fun b => if b ∈ own.map (·.1) then H b else M b
theorem seen_same (ow : OwnOk M H own) : Same M (seen M H own) := fun b o e => by
  unfold seen
  rw [if_neg]; exact e
  intro hm
  obtain ⟨p, hp, rfl⟩ := List.mem_map.mp hm
  rw [(ow.at_ p hp).1] at e; cases e
theorem seen_mh (mh : Same M H) : Same (seen M H own) H := fun b o e => by
  unfold seen at e
  split at e
  · exact e
  · exact mh b o e
mutual
theorem Vw.dv (ow : OwnOk M H own) : ∀ {d d' : Ly.D} {v : V}, Vw own d d' → Dv M v d → Dv (seen M H own) v d'
  | _, _, _, .same _, r => r.mono (seen_same ow)
  | _, _, _, .l hk hs, r => by
    obtain ⟨n, o, ho, vs, rfl, rv⟩ := ow.get hk
    rw [r.raw_eq]
    refine .lst ?_ (hs.dv ow rv)
    unfold seen
    rw [if_pos (List.mem_map_of_mem (f := (·.1)) (List.mem_of_getElem? hk))]; exact ho
  | _, _, _, .ins hk hs, r => by
    obtain ⟨n, o, ho, dx, fv, rfl, rv⟩ := ow.get hk
    rw [r.raw_eq]
    refine .ins (dx := dx) ?_ (hs.dv ow rv)
    unfold seen
    rw [if_pos (List.mem_map_of_mem (f := (·.1)) (List.mem_of_getElem? hk))]; exact ho
theorem Vws.dv (ow : OwnOk M H own) : ∀ {d d' : List Ly.D} {v : List V}, Vws own d d' → Dvs M v d → Dvs (seen M H own) v d'
  | _, _, _, .same _, r => r.mono (seen_same ow)
  | _, _, _, .cons h hs, .cons r rs => .cons (h.dv ow r) (hs.dv ow rs)
theorem Vwf.dv (ow : OwnOk M H own) : ∀ {d d' : List (Str × Ly.D)} {v : List (Str × V)}, Vwf own d d' → Dfs M v d → Dfs (seen M H own) v d'
  | _, _, _, .same _, r => r.mono (seen_same ow)
  | _, _, _, .cons h hs, .cons r rs => .cons (h.dv ow r) (hs.dv ow rs)
end
/-- the slots, the cells seen -/
inductive VwE (own : Own) : Ev → Ev → Prop
  | same (ρ : Ev) : VwE own ρ ρ
  | set {ρ ρ' : Ev} {i : Nat} {d d' : Ly.D} : VwE own ρ ρ' → ρ'[i]? = some (some d) → Vw own d d' → ρ[i]? = some (some d) → VwE own ρ (ρ'.set i (some d'))
theorem VwE.env (ow : OwnOk M H own) {ρ ρ' : Ev} (h : VwE own ρ ρ') {σ : L2.St} (e : EnvD M σ ρ) : EnvD (seen M H own) σ ρ' := by
  induction h with
  | same => exact e.mono (seen_same ow)
  | @set ρ' i d d' hv h1 hw h2 ih =>
    have e' := ih
    obtain ⟨v, s1, r1⟩ := e.get h2
    -- the slot's value
    have key : ∀ {σ : L2.St} {ρ' : Ev} {i : Nat}, EnvD (seen M H own) σ ρ' → σ[i]? = some (some v) → EnvD (seen M H own) σ (ρ'.set i (some d')) := by
      intro σ
      induction σ with
      | nil => intro ρ' i h _; cases ρ' with
        | nil => exact h
        | cons _ _ => exact h.elim
      | cons s σ ih =>
        intro ρ' i h hs
        cases ρ' with
        | nil => exact h.elim
        | cons r ρ' =>
          cases i with
          | zero => exact ⟨⟨v, by simpa using hs, hw.dv ow r1⟩, h.2⟩
          | succ i => exact ⟨h.1, ih h.2 (by simpa using hs)⟩
    exact key e' s1
/-- a plain answer is made as if all cells were let go -/
theorem e_see {te : TE} {ρ' : Ev} {v : V} (h : VwE own ρ ρ') (k : E [] ρ' te (.raw v)) : E own ρ te (.raw v) := fun σ M H s Q q =>
  k σ (seen M H own) H ⟨seen_mh s.mh, h.env s.ow s.env, .nil⟩ Q fun u M' H' p r => by
    rw [r.raw_eq]
    refine q _ M H' ⟨Same.refl _, p.hh, s.mh.trans p.hh, fun b o e n => n⟩ (.raw v)
theorem et_see {tt : TT} {ρ' : Ev} {g : Bool} (h : VwE own ρ ρ') (k : ET [] ρ' tt g) : ET own ρ tt g := fun σ M H s Q q =>
  k σ (seen M H own) H ⟨seen_mh s.mh, h.env s.ow s.env, .nil⟩ Q fun M' H' p => q M H' ⟨Same.refl _, p.hh, s.mh.trans p.hh, fun b o e n => n⟩
end
end Ly
/-! Ly7: dicts that are cells; their items walked; sorted of one item. -/
namespace Ly
open PySem L2 Mc

section
variable {κ : Type}
variable [DecidableEq κ]
def valD (kvs : List (κ × D)) (k : κ) : Option D := (kvs.find? fun kv => decide (kv.1 = k)).map (·.2)
def putDk (kvs : List (κ × D)) (k : κ) (v : D) : List (κ × D) :=
  if (kvs.any fun p => decide (p.1 = k)) = true then kvs.map (fun p => if p.1 = k then (p.1, v) else p) else kvs ++ [(k, v)]
variable {M : Hp}
theorem Dks.length {ps : List (κ × V)} {qs : List (κ × D)} (h : Dks M ps qs) : ps.length = qs.length := by
  induction qs generalizing ps with
  | nil => cases ps with
    | nil => rfl
    | cons _ _ => exact h.elim
  | cons q qs ih => cases ps with
    | nil => exact h.elim
    | cons p ps => simp [ih h.2]
theorem Dks.val {ps : List (κ × V)} {qs : List (κ × D)} (h : Dks M ps qs) (k : κ) : (valD qs k = none ∧ valV ps k = none) ∨ ∃ d v, valD qs k = some d ∧ valV ps k = some v ∧ Dv M v d := by
  induction qs generalizing ps with
  | nil => cases ps with
    | nil => exact .inl ⟨rfl, rfl⟩ | cons _ _ => exact h.elim
  | cons q qs ih => cases ps with
    | nil => exact h.elim
    | cons p ps =>
      obtain ⟨⟨e, r⟩, t⟩ := h
      unfold valD valV
      rw [List.find?_cons, List.find?_cons, e]
      by_cases hk : q.1 = k
      · exact .inr ⟨q.2, p.2, by simp [hk], by simp [hk], r⟩
      · simp only [hk, decide_false]
        exact ih t
theorem Dks.any {ps : List (κ × V)} {qs : List (κ × D)} (h : Dks M ps qs) (k : κ) : (ps.any fun kv => decide (kv.1 = k)) = (qs.any fun kv => decide (kv.1 = k)) := by
  induction qs generalizing ps with
  | nil => cases ps with
    | nil => rfl
    | cons _ _ => exact h.elim
  | cons q qs ih => cases ps with
    | nil => exact h.elim
    | cons p ps => rw [List.any_cons, List.any_cons, h.1.1, ih h.2]
theorem Dks.app {ps ps' : List (κ × V)} {qs qs' : List (κ × D)} (h : Dks M ps qs) (h' : Dks M ps' qs') : Dks M (ps ++ ps') (qs ++ qs') := by
  induction qs generalizing ps with
  | nil => cases ps with
    | nil => exact h'
    | cons _ _ => exact h.elim
  | cons q qs ih => cases ps with
    | nil => exact h.elim
    | cons p ps => exact ⟨h.1, ih h.2⟩
theorem Dks.over {k : κ} {v : V} {d : D} (r : Dv M v d) : ∀ {ps : List (κ × V)} {qs : List (κ × D)}, Dks M ps qs → Dks M (ps.map fun kv => if kv.1 = k then (kv.1, v) else kv) (qs.map fun kv => if kv.1 = k then (kv.1, d) else kv)
  | [], [], _ => trivial
  | p :: ps, q :: qs, h => by
    refine ⟨?_, Dks.over r h.2⟩
    have e := h.1.1
    show (if p.1 = k then (p.1, v) else p).1 = (if q.1 = k then (q.1, d) else q).1 ∧ Dv M (if p.1 = k then (p.1, v) else p).2 (if q.1 = k then (q.1, d) else q).2
    by_cases hk : q.1 = k
    · rw [if_pos hk, if_pos (e.trans hk)]; exact ⟨e, r⟩
    · rw [if_neg hk, if_neg (fun z => hk (e.symm.trans z))]; exact h.1
  | [], _ :: _, h => h.elim
  | _ :: _, [], h => h.elim
theorem Dks.put {ps : List (κ × V)} {qs : List (κ × D)} (h : Dks M ps qs) (k : κ) {v : V} {d : D} (r : Dv M v d) : Dks M (putK ps k v) (putDk qs k d) := by
  unfold putK putDk
  rw [h.any k]
  split
  · exact h.over r
  · exact h.app ⟨⟨rfl, r⟩, trivial⟩
theorem Dks.get {ps : List (κ × V)} {qs : List (κ × D)} (h : Dks M ps qs) {i : Nat} {k : κ} {v : V} (e : ps[i]? = some (k, v)) : ∃ d, qs[i]? = some (k, d) ∧ Dv M v d := by
  induction qs generalizing ps i with
  | nil => cases ps with
    | nil => simp at e
    | cons _ _ => exact h.elim
  | cons q qs ih => cases ps with
    | nil => exact h.elim
    | cons p ps =>
      cases i with
      | zero =>
        simp at e
        subst e
        obtain ⟨⟨e1, r⟩, _⟩ := h
        obtain ⟨q1, q2⟩ := q
        simp only at e1 r
        subst e1
        exact ⟨q2, rfl, r⟩
      | succ i => exact ih h.2 (by simpa using e)
end
/-- a tuple of ints and texts as a key -/
def keyD (ks : List Key) : D := .tup (ks.map fun k => .raw (kV k))
theorem keyD_inv {M : Hp} {v : V} {ks : List Key} (h : Dv M v (keyD ks)) : ∃ b, v = .ref b ∧ M b = some (.tup (ks.map kV)) := by
  obtain ⟨b, vs, e, hb, r⟩ := h.tup_inv
  have : vs = ks.map kV := Dvs.raws_eq (us := ks.map kV) (by rw [List.map_map]; exact r)
  subst this
  exact ⟨b, e, hb⟩

/-! ### a comprehension over what is told turn by turn -/
structure Wk2 (J : It) (n : Nat) (M1 H1 : Hp) (Y : Nat → Own → D → Prop) : Prop where
  goes : ∀ i M H, i < n → Pu M1 H1 M H → J.go i H
  stops : ∀ M H, Pu M1 H1 M H → J.stop n H
  yields : ∀ i x M H H', i < n → Pu M1 H1 M H → J.yld i H x H' → ∃ M' o d, Y i o d ∧ Pu M H M' H' ∧ OwnOk M' H' o ∧ Dv M' x d
def keepI (n : Nat) (p : Nat → Bool) (e : Nat → D) : List D := ((List.range n).filter p).map e
theorem keepI_snoc (n : Nat) (p : Nat → Bool) (e : Nat → D) : keepI (n + 1) p e = keepI n p e ++ if p n = true then [e n] else [] := by
  unfold keepI
  rw [List.range_succ, List.filter_append, List.map_append]
  congr 1
  by_cases hp : p n = true <;> simp [hp]
theorem keepI_le (n : Nat) (p : Nat → Bool) (e : Nat → D) : (keepI n p e).length ≤ n := by
  unfold keepI
  rw [List.length_map]
  exact Nat.le_trans (List.length_filter_le _ _) (by rw [List.length_range]; exact Nat.le_refl _)
section
variable {own : Own} {ρ : Ev} {te : TE}
theorem en_lc2 {wi : TI} {g : TG} {tt : TT} {vs : List Nat} {n : Nat} {Y : Nat → Own → D → Prop} (p : Nat → Bool) (e : Nat → D) (f : D → Ev → Ev) (hl : n ≤ 100000) {σ : L2.St} {M H : Hp} (mh : Same M H) (env : EnvD M σ ρ)
    (hi : ∀ R : It → Hp → Prop, (∀ J M' H', Pu M H M' H' → Wk2 J n M' H' Y → R J H') → wi σ H R)
    (hg : ∀ i o d, i < n → Y i o d → EW g vs d (f d)) (ht : ∀ i o d, i < n → Y i o d → ET o (f d (wipeD ρ vs)) tt (p i)) (he : ∀ i o d, i < n → Y i o d → p i = true → E o (f d (wipeD ρ vs)) te (e i))
    (Q : VK) (q : ∀ a us M' H', Pu M H M' H' → H a = none → M' a = none → H' a = some (.lst us) → Dvs M' us (keepI n p e) → Q (.ref a) H') : tLc wi g tt te vs σ H Q :=
  hi _ fun J M1 H1 u w D hD => by
    have wk : Walk J n (fun H' => ∃ M', Pu M1 H1 M' H') (fun i H' x H'' => i < n → ∀ M', Pu M1 H1 M' H' → ∃ M'' o d, Y i o d ∧ Pu M' H' M'' H'' ∧ OwnOk M'' H'' o ∧ Dv M'' x d) :=
      ⟨fun i H' hi ⟨M', u'⟩ => w.goes i M' H' hi u', fun H' ⟨M', u'⟩ => w.stops M' H' u', fun i H' x H'' _ _ y hi M' u' => w.yields i x M' H' H'' hi u' y⟩
    refine lc_it wk (fun i H' => ∃ M' us, Pu M1 H1 M' H' ∧ M' D = none ∧ H' D = some (.lst us) ∧ Dvs M' us (keepI i p e)) ⟨M1, [], Pu.newH u.mh hD, same_back u.mh hD, upd_same, by simp [keepI]; exact .nil⟩
      (fun i H' _ ⟨M', us, u', _⟩ => ⟨M', u'⟩) (fun i x H' H'' hi ⟨M', us, u', n', a', r'⟩ y => ?_) (fun H' ⟨M', us, u', n', a', r'⟩ => ?_)
    · obtain ⟨M2, o, d, hY, u2, ow2, r2⟩ := y hi M' u'
      have hus : us.length ≤ i := by rw [r'.length]; exact keepI_le i p e
      have s2 : Sd o (wipeD ρ vs) (wipe σ vs) M2 H'' := ⟨u2.mh, ((env.mono ((u.trans u').trans u2).mm)).wipe vs, ow2⟩
      refine hg i o d hi hY o (wipeD ρ vs) (wipe σ vs) M2 H'' x s2 r2 _ fun σ2 en hw => ⟨hw.trans (by rw [wipe_wipe vs vs fun _ h => h]), ?_⟩
      have s3 : Sd o (f d (wipeD ρ vs)) σ2 M2 H'' := ⟨s2.mh, en, s2.ow⟩
      refine ht i o d hi hY σ2 M2 H'' s3 _ fun M3 H3 u3 => ?_
      have nD : ∀ {Ma Mb Ha Hb : Hp}, Pu Ma Ha Mb Hb → Ha D = some (.lst us) → Ma D = none → Mb D = none := fun u a n => u.nn _ _ a n
      cases hp : p i with
      | true =>
        rw [if_pos rfl]
        refine he i o d hi hY hp σ2 M3 H3 (s3.pure u3) _ fun v M4 H4 u4 r4 => ?_
        have n2 := nD u2 a' n'
        have a2 := u2.hh _ _ a'
        have n3 := nD u3 a2 n2
        have a3 := u3.hh _ _ a2
        have n4 := nD u4 a3 n3
        have a4 := u4.hh _ _ a3
        have u5 := ((u'.trans u2).trans u3).trans u4
        refine ⟨us, a4, by rw [sizeLine_eq]; omega, M4, us ++ [v], ⟨u5.mm, fun b o h => ?_, fun b o h => ?_, u5.nn⟩, n4, upd_same, ?_⟩
        · have hb : b ≠ D := ne_of_none h hD
          rw [upd_ne hb]; exact u5.hh b o h
        · have hb : b ≠ D := ne_of_none h n4
          rw [upd_ne hb]; exact u5.mh b o h
        · rw [keepI_snoc, if_pos hp]
          exact (r'.mono ((u2.mm.trans u3.mm).trans u4.mm)).append (.cons r4 .nil)
      | false =>
        rw [if_neg Bool.false_ne_true]; have n2 := nD u2 a' n'
        have a2 := u2.hh _ _ a'
        refine ⟨M3, us, (u'.trans u2).trans u3, nD u3 a2 n2, u3.hh _ _ a2, ?_⟩
        rw [keepI_snoc, if_neg (by rw [hp]; decide), List.append_nil]
        exact r'.mono (u2.mm.trans u3.mm)
    · exact q D us M' H' (u.trans u') (u.hh.free hD) n' a' r'
end

/-! ### rules for dicts that are cells -/
section
variable {ι : Type} {Z : ι → Cx} {own : Own} {ρ : Ev} {P : Program} {wd : World} {K : PySem.W.Frag} {mg : Str → Option Value} {base : Heap} {N : List Str} {k : Nat} (fm : Fam Z P wd K mg base N k)
variable {a b c e i o : Expr} {es : List Expr} {x y z d : D} {ds xs ys : List D} {pos p p2 pf : Pos} {nm : Str} {ad : Addr} {kk : Nat}
variable (B : Blt mg)
variable {st : Stmt} {rest body : List Stmt} {D : Ends} {F : List Addr} {M0 H0 M H : Hp} {σ : L2.St} {Pq : Ly.D → Own → Prop}
theorem Fam.hu (fm : Fam Z P wd K mg base N k) (n : ι) : (Z n).A.units + 1 < cLine := by have := (fm.room n).units; omega
/-- the cell is a dict that holds r at the key x -/
inductive DAt : OC → Ly.D → Option Ly.D → Prop
  | k (kvs : List (Key × Ly.D)) (k : Key) : DAt (.dk kvs) (.raw (kV k)) (valD kvs k)
  | t (kvs : List (List Key × Ly.D)) (k : List Key) : DAt (.dt kvs) (keyD k) (valD kvs k)
theorem DAt.get {cl : OC} {r : Option Ly.D} (h : DAt cl x r) (mh : Same M H) {ob : HO} (ha : H ad = some ob) (ok : OCok M ob cl) {v : V} (rv : Dv M v x) : ∃ w, DGet H ad v w ∧ ((r = none ∧ w = none) ∨ ∃ d u, r = some d ∧ w = some u ∧ Dv M u d) := by
  cases h with
  | k kvs k =>
    obtain ⟨kv, rfl, hk⟩ := ok
    rw [rv.raw_eq]
    refine ⟨_, .k ha, ?_⟩
    rcases hk.val k with ⟨h1, h2⟩ | ⟨d, u, h1, h2, h3⟩
    · exact .inl ⟨h1, h2⟩
    · exact .inr ⟨d, u, h1, h2, h3⟩
  | t kvs k =>
    obtain ⟨kv, rfl, hk⟩ := ok
    obtain ⟨b, rfl, hb⟩ := keyD_inv rv
    refine ⟨_, .t ha (mh _ _ hb), ?_⟩
    rcases hk.val k with ⟨h1, h2⟩ | ⟨d, u, h1, h2, h3⟩
    · exact .inl ⟨h1, h2⟩
    · exact .inr ⟨d, u, h1, h2, h3⟩
include fm
theorem w_din {cl : OC} {r : Option Ly.D} (hi : E own ρ (wE Z i) x) (ho : E own ρ (wE Z o) (.ref ad)) (hk : own[kk]? = some (ad, cl)) (h : DAt cl x r) (hm : behindInMarks .In o = false := by with_unfolding_all rfl) : E own ρ (wE Z (.Compare i [.In] [o] pos)) (.bl r.isSome) :=
  E.wz (t := tDIn (wE Z i) (wE Z o)) (fun σ M H sd Q q => hi σ M H sd _ fun v M1 H1 u1 r1 => ho σ M1 H1 (sd.pure u1) _ fun w M2 H2 u2 r2 => by
    have s2 := (sd.pure u1).pure u2
    obtain ⟨_, ob, hob, ok⟩ := s2.ow.get hk
    obtain ⟨w', g, hw⟩ := h.get s2.mh hob ok (r1.mono u2.mm)
    refine ⟨ad, w', r2.raw_eq, g, ?_⟩
    have e : w'.isSome = r.isSome := by
      rcases hw with ⟨h1, h2⟩ | ⟨d, u, h1, h2, _⟩ <;> rw [h1, h2] <;> rfl
    rw [e]
    exact q _ M2 H2 (u1.trans u2) (.raw _)) fun n => pe_cmp (pc_din (fm.hu n) (pe_w n) (pe_w n)) hm
theorem e_dnotin {cl : OC} {r : Option Ly.D} (hi : E own ρ (wE Z i) x) (ho : E own ρ (wE Z o) (.ref ad)) (hk : own[kk]? = some (ad, cl)) (h : DAt cl x r) : E own ρ (tDNotIn (wE Z i) (wE Z o)) (.bl (!r.isSome)) := fun σ M H sd Q q => hi σ M H sd _ fun v M1 H1 u1 r1 => ho σ M1 H1 (sd.pure u1) _ fun w M2 H2 u2 r2 => by
    have s2 := (sd.pure u1).pure u2
    obtain ⟨_, ob, hob, ok⟩ := s2.ow.get hk
    obtain ⟨w', g, hw⟩ := h.get s2.mh hob ok (r1.mono u2.mm)
    refine ⟨ad, w', r2.raw_eq, g, ?_⟩
    have e : w'.isSome = r.isSome := by
      rcases hw with ⟨h1, h2⟩ | ⟨d, u, h1, h2, _⟩ <;> rw [h1, h2] <;> rfl
    rw [e]
    exact q _ M2 H2 (u1.trans u2) (.raw _)
theorem t_dnotin {cl : OC} {r : Option Ly.D} (hi : E own ρ (wE Z i) x) (ho : E own ρ (wE Z o) (.ref ad)) (hk : own[kk]? = some (ad, cl)) (h : DAt cl x r) (hm : behindInMarks .NotIn o = false := by with_unfolding_all rfl) : ET own ρ (wT Z (.Compare i [.NotIn] [o] pos)) (!r.isSome) :=
  (et_B (e_dnotin fm hi ho hk h)).wz fun n => pt_cmp (pc_dnotin (fm.hu n) (pe_w n) (pe_w n)) hm
theorem w_dget {cl : OC} (ho : E own ρ (wE Z o) (.ref ad)) (hi : E own ρ (wE Z i) x) (hk : own[kk]? = some (ad, cl)) (h : DAt cl x (some d)) (hs : NoSl i := by intro _ _; rfl) : E own ρ (wE Z (.Subscript o i pos)) d :=
  E.wz (t := tDGet (wE Z o) (wE Z i)) (fun σ M H sd Q q => ho σ M H sd _ fun w M1 H1 u1 r1 => hi σ M1 H1 (sd.pure u1) _ fun v M2 H2 u2 r2 => by
    have s2 := (sd.pure u1).pure u2
    obtain ⟨_, ob, hob, ok⟩ := s2.ow.get hk
    obtain ⟨w', g, hw⟩ := h.get s2.mh hob ok r2
    rcases hw with ⟨h1, _⟩ | ⟨d', u, h1, h2, h3⟩
    · cases h1
    · cases h1; subst h2
      exact ⟨ad, u, r1.raw_eq, g, q u M2 H2 (u1.trans u2) h3⟩) fun n => pe_dget (fm.hu n) (pe_w n) (pe_w n) hs
/-- o[i] = e, o a dict -/
theorem k_dputT {p' : Pos} {ks : List Key} {kvs : List (List Key × Ly.D)} (c : C F M0 H0 own ρ σ M H) (he : E own ρ (wE Z e) d) (ho : E own ρ (wE Z o) (.ref ad)) (hi : E own ρ (wE Z i) (keyD ks)) (hk : own[kk]? = some (ad, .dt kvs)) (hl : kvs.length ≤ 100000)
    (kn : ∀ M' H', C F M0 H0 (own.set kk (ad, .dt (putDk kvs ks d))) ρ σ M' H' → D.nx σ H') (hs : ∀ n, swapsWith e (some (.Subscript o i p')) pos.line (Z n).env = pure false := by intro _; rfl) : wS Z (.Assign [.Subscript o i p'] e pos) D σ H := by
  refine ⟨sDPut (wE Z o) (wE Z i) (wE Z e), fun n => ps_dput (fm.hu n) (pe_w n) (pe_w n) (pe_w n) (hs n), he σ M H c.sd _ fun v M1 H1 u1 r1 => ho σ M1 H1 (c.sd.pure u1) _ fun w M2 H2 u2 r2 => hi σ M2 H2 ((c.sd.pure u1).pure u2) _ fun y M3 H3 u3 r3 => ?_⟩
  have c3 := ((c.pure u1).pure u2).pure u3
  obtain ⟨_, ob, hob, kv, rfl, rk⟩ := c3.sd.ow.get hk
  obtain ⟨b, rfl, hb⟩ := keyD_inv r3
  exact ⟨ad, _, (by rw [r2.raw_eq]), .t hob (c3.sd.mh _ _ hb) (by rw [rk.length]; exact Nat.lt_of_le_of_lt hl (by decide)), kn M3 _ (c3.put hk ⟨_, rfl, rk.put ks (r1.mono (u2.mm.trans u3.mm))⟩)⟩
theorem k_dputK {p' : Pos} {ks : Key} {kvs : List (Key × Ly.D)} (c : C F M0 H0 own ρ σ M H) (he : E own ρ (wE Z e) d) (ho : E own ρ (wE Z o) (.ref ad)) (hi : E own ρ (wE Z i) (.raw (kV ks))) (hk : own[kk]? = some (ad, .dk kvs)) (hl : kvs.length ≤ 100000)
    (kn : ∀ M' H', C F M0 H0 (own.set kk (ad, .dk (putDk kvs ks d))) ρ σ M' H' → D.nx σ H') (hs : ∀ n, swapsWith e (some (.Subscript o i p')) pos.line (Z n).env = pure false := by intro _; rfl) : wS Z (.Assign [.Subscript o i p'] e pos) D σ H := by
  refine ⟨sDPut (wE Z o) (wE Z i) (wE Z e), fun n => ps_dput (fm.hu n) (pe_w n) (pe_w n) (pe_w n) (hs n), he σ M H c.sd _ fun v M1 H1 u1 r1 => ho σ M1 H1 (c.sd.pure u1) _ fun w M2 H2 u2 r2 => hi σ M2 H2 ((c.sd.pure u1).pure u2) _ fun y M3 H3 u3 r3 => ?_⟩
  have c3 := ((c.pure u1).pure u2).pure u3
  obtain ⟨_, ob, hob, kv, rfl, rk⟩ := c3.sd.ow.get hk
  rw [r3.raw_eq]
  exact ⟨ad, _, (by rw [r2.raw_eq]), .k hob (by rw [rk.length]; exact Nat.lt_of_le_of_lt hl (by decide)), kn M3 _ (c3.put hk ⟨_, rfl, rk.put ks (r1.mono (u2.mm.trans u3.mm))⟩)⟩
include B in
theorem w_lenK {kvs : List (Key × Ly.D)} (ha : E own ρ (wE Z a) (.ref ad)) (hc : own[kk]? = some (ad, .dk kvs)) (hg : ∀ n, Gl (Z n) "len" := by intro _; rfl) (he : ∀ n, starEach (a :: []) (Z n).env = (false, eval a (Z n).env) :: starEach [] (Z n).env := by intro _; rfl) (hpl : ∀ n, (backTo pos (starEach [] (Z n).env)).any (·.1) = false := by intro _; rfl) :
    E own ρ (wE Z (.Call (.Name "len" pf) [a] [] pos)) (.int kvs.length) :=
  w_cb fm (fun n => call_lenD) B.len (by decide +kernel) (a_cons ha a_nil he) (fun vs M H mh ow r Q q => by
    obtain ⟨v, rfl, r1⟩ := r.one
    obtain ⟨_, ob, hob, kv, rfl, rk⟩ := ow.get hc
    refine ⟨ad, kv, by rw [r1.raw_eq], hob, ?_⟩
    rw [rk.length]
    exact q _ M H (.refl mh) (.raw _)) hg (by decide) (by decide) he hpl
omit fm
/-- {} with int and text keys -/
theorem x_dnewK : X own ρ (wE Z (.Dict [] [] pos)) (fun d o => ∃ a, d = .ref a ∧ o = (a, .dk []) :: own) := X.wz (t := tDNewK) (fun F M0 H0 σ M H c Q q p hp =>
  q _ _ _ M _ ⟨p, rfl, rfl⟩ (c.new (Pu.newH c.sd.mh hp) hp (same_back c.sd.mh hp) upd_same ⟨[], rfl, trivial⟩) (Same.refl _) (.raw _)) fun n => pe_dnewK
include fm in
/-- {t: v} -/
theorem x_disp1 {ks : List Key} (hi : E own ρ (wE Z i) (keyD ks)) (he : E own ρ (wE Z e) d) : X own ρ (wE Z (.Dict [some i] [e] pos)) (fun x o => ∃ a, x = .ref a ∧ o = (a, .dt [(ks, d)]) :: own) :=
  X.wz (t := tDisp1 (wE Z i) (wE Z e)) (fun F M0 H0 σ M H c Q q p hp => by
    have u0 : Pu M H M (upd H p (.dT [])) := Pu.newH c.sd.mh hp
    refine hi σ M _ (c.sd.pure u0) _ fun v M1 H1 u1 r1 => he σ M1 H1 ((c.sd.pure u0).pure u1) _ fun w M2 H2 u2 r2 => ?_
    have h2 : H2 p = some (.dT []) := u2.hh _ _ (u1.hh _ _ upd_same)
    have m1 : M1 p = none := u1.nn _ _ upd_same (same_back c.sd.mh hp)
    have m2 : M2 p = none := u2.nn _ _ (u1.hh _ _ upd_same) m1
    obtain ⟨b, rfl, hb⟩ := keyD_inv (r1.mono u2.mm)
    have u := (u0.trans u1).trans u2
    refine ⟨_, w, ks, b, rfl, h2, rfl, u2.mh _ _ hb, q _ _ _ M2 _ ⟨p, rfl, rfl⟩ (c.new (M1 := M2) (H1 := upd H2 p (.dT [(ks, w)])) ⟨u.mm, fun x o hx => ?_, fun x o hx => ?_, u.nn⟩ hp m2 upd_same ⟨_, rfl, ⟨⟨rfl, r2⟩, trivial⟩⟩) u.mm (.raw _)⟩
    · rw [upd_ne (ne_of_none hx hp)]; exact u.hh x o hx
    · rw [upd_ne (ne_of_none hx m2)]; exact u.mh x o hx) fun n => pe_disp1 (fm.hu n) (pe_w n) (pe_w n)
include fm B in
theorem w_sorted1 (ha : E own ρ (wE Z a) (.lst [x])) (hg : ∀ n, Gl (Z n) "sorted" := by intro _; rfl) (he : ∀ n, starEach (a :: []) (Z n).env = (false, eval a (Z n).env) :: starEach [] (Z n).env := by intro _; rfl) (hpl : ∀ n, (backTo pos (starEach [] (Z n).env)).any (·.1) = false := by intro _; rfl) :
    E own ρ (wE Z (.Call (.Name "sorted" pf) [a] [] pos)) (.lst [x]) :=
  w_cb fm (r := rSorted1 K) (fun n => fm.K n ▸ cr_sorted1) B.sorted (by decide +kernel) (a_cons ha a_nil he) (fun vs M H mh _ r Q q => by
    obtain ⟨v, rfl, r1⟩ := r.one
    obtain ⟨a, vs, rfl, ha, rs⟩ := r1.lst_inv
    obtain ⟨w, rfl, rw'⟩ := rs.one
    exact ⟨a, w, rfl, .of (mh _ _ ha), q_lst mh (.cons rw' .nil) q⟩) hg (by decide) (by decide) he hpl
/-- a pair of a dict: the key tuple known, or a cell of the turn -/
inductive ItY (kvs : List (List Key × Ly.D)) (o2 : Own) : Nat → Own → Ly.D → Prop
  | a {i : Nat} {k : List Key} {d : Ly.D} : kvs[i]? = some (k, d) → ItY kvs o2 i o2 (.tup [keyD k, d])
  | b {i : Nat} {k : List Key} {d : Ly.D} (q : Addr) : kvs[i]? = some (k, d) → ItY kvs o2 i ((q, .tp (k.map fun k => .raw (kV k))) :: o2) (.tup [.ref q, d])
/-- the reading of [.. for .. in d.items() ..], d locked meanwhile -/
def lcI {ι : Type} (Z : ι → Cx) (ow : List (Str × Nat)) (scope : Scope) (tg it : Expr) (ifs : List Expr) (elt : Expr) : TE := tLc (iItemsT (wE Z it)) (wG (Zb Z scope) tg) (wTs (Zb Z scope) ifs) (wE (Zb Z scope) elt) (ow.map (·.2))
theorem r_items {elt it : Expr} {tes : List Expr} {tk : Nat} {tp : Pos} {ifs : List Expr} {scope : Scope} {o2 : Own} {kvs : List (List Key × Ly.D)} (ow : List (Str × Nat)) (q : Nat → Bool) (g : Nat → Ly.D) (f : Ly.D → Ev → Ev)
    (hown : own = (ad, .dt kvs) :: o2) (hnt : ∀ p ∈ o2, ∀ ds, p.2 ≠ .tp ds) (hr : E o2 ρ (wE Z it) (.ref ad)) (hl : kvs.length ≤ 100000)
    (hg : ∀ i o d, i < kvs.length → ItY kvs o2 i o d → EW (wG (Zb Z scope) (.Tuple tes tk tp)) (ow.map (·.2)) d (f d)) (ht : ∀ i o d, i < kvs.length → ItY kvs o2 i o d → ET o (f d (wipeD ρ (ow.map (·.2)))) (wTs (Zb Z scope) ifs) (q i)) (he : ∀ i o d, i < kvs.length → ItY kvs o2 i o d → q i = true → E o (f d (wipeD ρ (ow.map (·.2)))) (wE (Zb Z scope) elt) (g i)) :
    EN own ρ (tLockE (lcI Z ow scope (.Tuple tes tk tp) it ifs elt)) (keepI kvs.length q g) := fun σ M H s Q qq => by
  subst hown
  obtain ⟨hn, ob, hob, kv, rfl, rk⟩ := s.ow.at_ _ List.mem_cons_self
  refine ⟨ad, .dT kv, hob, trivial, fun od => ?_⟩
  have nd := s.ow.nd
  rw [List.map_cons] at nd; rw [List.nodup_cons] at nd
  have mh1 : Same M (upd H ad (.frz od (.dT kv))) := fun b o e => by rw [upd_ne (fun z => by rw [z, hn] at e; cases e)]; exact s.mh b o e
  have ow1 : OwnOk M (upd H ad (.frz od (.dT kv))) o2 := ⟨nd.2, fun p hp => by
    obtain ⟨n, x, hx, ok⟩ := s.ow.at_ p (List.mem_cons_of_mem _ hp)
    exact ⟨n, x, by rw [upd_ne (fun z => nd.1 (List.mem_map.mpr ⟨p, hp, z⟩))]; exact hx, ok⟩⟩
  refine en_lc2 (Y := ItY kvs o2) (σ := σ) (M := M) q g f hl mh1 s.env (fun R k => ?_) hg ht he _ fun a us M' H' u n1 n2 e r => ?_
  · refine hr σ M _ ⟨mh1, s.env, ow1⟩ _ fun v M1 H1 u1 r1 => ?_
    refine ⟨ad, od, kv, r1.raw_eq, u1.hh _ _ upd_same, k _ M1 H1 u1 ⟨fun i M2 H2 hi u2 => ⟨u2.hh _ _ (u1.hh _ _ upd_same), by rw [rk.length]; exact hi⟩, fun M2 H2 u2 => ⟨u2.hh _ _ (u1.hh _ _ upd_same), by rw [rk.length]; exact Nat.le_refl _⟩, fun i x M2 H2 H3 hi u2 y => ?_⟩⟩
    obtain ⟨T, qd, ky, vv, hkv, hq, rfl, hT, rfl⟩ := y
    obtain ⟨d, hd, rd⟩ := rk.get hkv
    have uu := u1.trans u2
    have mT := same_back u2.mh hT
    have u3 : Pu M2 H2 (upd M2 T (.tup [.ref qd, vv])) (upd H2 T (.tup [.ref qd, vv])) := Pu.newM u2.mh hT
    have ow3 : OwnOk (upd M2 T (.tup [.ref qd, vv])) (upd H2 T (.tup [.ref qd, vv])) o2 := (ow1.pure uu).pure u3
    have rd3 := rd.mono (uu.mm.trans u3.mm)
    have qT : qd ≠ T := fun z => by rw [z, hT] at hq; cases hq
    by_cases hm : M2 qd = none
    · refine ⟨_, _, _, .b qd hd, u3, ⟨?_, fun p hp => ?_⟩, .tup upd_same (.cons (.raw _) (.cons rd3 .nil))⟩
      · rw [List.map_cons, List.nodup_cons]
        refine ⟨fun hx => ?_, ow3.nd⟩
        obtain ⟨p, hp, e⟩ := List.mem_map.mp hx
        obtain ⟨_, x, hx, ok⟩ := ow3.at_ p hp
        have hq3 : (upd H2 T (.tup [.ref qd, vv])) qd = some (.tup (ky.map kV)) := by rw [upd_ne qT]; exact hq
        rw [e, hq3] at hx
        cases hx
        -- a cell of the caller that is a tuple
        obtain ⟨_, x0, hx0, ok0⟩ := (ow1.pure uu).at_ p hp
        have := uu.hh
        rw [e] at hx0
        exact absurd (show False from by
          cases hc : p.2 with
          | l _ => rw [hc] at ok; obtain ⟨_, z, _⟩ := ok; cases z
          | ins _ _ => rw [hc] at ok; obtain ⟨_, _, z, _⟩ := ok; cases z
          | dk _ => rw [hc] at ok; obtain ⟨_, z, _⟩ := ok; cases z
          | dt _ => rw [hc] at ok; obtain ⟨_, z, _⟩ := ok; cases z
          | tp _ => exact (hnt p hp _ hc).elim) id
      · obtain rfl | hp := List.mem_cons.mp hp
        · exact ⟨by rw [upd_ne qT]; exact hm, _, by rw [upd_ne qT]; exact hq, _, rfl, by
            have := Dvs.raws (M := upd M2 T (.tup [.ref qd, vv])) (ky.map kV)
            rw [List.map_map] at this
            exact this⟩
        · exact ow3.at_ p hp
    · obtain ⟨x, hx⟩ := Option.ne_none_iff_exists'.mp hm
      have hx2 : x = .tup (ky.map kV) := by
        have := u2.mh _ _ hx
        rw [hq] at this
        refine (Option.some.inj this).symm
      subst hx2
      refine ⟨_, _, _, .a hd, u3, ow3, .tup upd_same (.cons ?_ (.cons rd3 .nil))⟩
      refine .tup (by rw [upd_ne qT]; exact hx) ?_
      have := Dvs.raws (M := upd M2 T (.tup [.ref qd, vv])) (ky.map kV)
      rw [List.map_map] at this
      exact this
  · have ha : a ≠ ad := fun z => by
      rw [z, upd_same] at n1; cases n1
    refine ⟨u.hh _ _ upd_same, qq a us M' _ ⟨u.mm, fun b o hb => ?_, fun b o hb => ?_, fun b o hb hm => ?_⟩ ?_ n2 (by rw [upd_ne ha]; exact e) r⟩
    · by_cases hx : b = ad
      · rw [hx, upd_same, ← hob, ← hx]; exact hb
      · rw [upd_ne hx]; exact u.hh b o (by rw [upd_ne hx]; exact hb)
    · have hx : b ≠ ad := fun z => by
        have := u.nn _ _ upd_same hn
        rw [z, this] at hb; cases hb
      rw [upd_ne hx]; exact u.mh b o hb
    · by_cases hx : b = ad
      · rw [hx]; exact u.nn _ _ upd_same hn
      · exact u.nn b o (by rw [upd_ne hx]; exact hb) hm
    · rw [upd_ne ha] at n1; exact n1
include fm in
theorem n_items {elt it : Expr} {tes : List Expr} {tk : Nat} {tp apos cpos : Pos} {ifs : List Expr} {scope sc : Scope} (ow : List (Str × Nat)) (ok : BlkOk N sc scope ow) (hsc : ∀ n, (Z n).env.scope = sc) (h : EN own ρ (tLockE (lcI Z ow scope (.Tuple tes tk tp) it ifs elt)) ds)
    (hbase : ∀ n, attributeBase it "items" (Z n).env (eval it (Z n).env) = eval it (Z n).env := by intro _; rfl) (hline : (apos.endLine == cpos.line) = true := by rfl) (hs : ∀ n x, foldedSetIterable (.Call (.Attribute it "items" apos) [] [] cpos) (Z n).env x = pure x := by intro _ _; rfl) :
    EN own ρ (wE Z (.ListComp elt [⟨.Tuple tes tk tp, .Call (.Attribute it "items" apos) [] [] cpos, ifs, 0⟩] scope pos)) ds :=
  EN.wz h fun n => pe_lock (pe_lc (fm.calm n) (fm.N n ▸ fm.nd) (pi_itemsT (pe_w n) (hbase n) hline) (by rw [fm.N n, hsc n]; exact ok) (fun s H C cl fp => pg_w (Z := Zb Z scope) (n, s, H, C, cl, fp)) (fun s H C cl fp => pts_w (Z := Zb Z scope) (n, s, H, C, cl, fp)) (fun s H C cl fp => pe_w (Z := Zb Z scope) (n, s, H, C, cl, fp)) (hs n))
include fm in
theorem k_setItems {elt it : Expr} {tes : List Expr} {tk : Nat} {tp apos cpos spos : Pos} {ifs : List Expr} {scope sc : Scope} (v : Nat) (ow : List (Str × Nat)) (ok : BlkOk N sc scope ow) (hsc : ∀ n, (Z n).env.scope = sc) (c : C F M0 H0 own ρ σ M H) (h : EN own ρ (tLockE (lcI Z ow scope (.Tuple tes tk tp) it ifs elt)) ds) (hN : ∀ n, (Z n).N[v]? = some nm) (k : ∀ σ' M' H', C F M0 H0 own (ρ.set v (some (.lst ds))) σ' M' H' → D.nx σ' H')
    (hyl : ∀ n, (Z n).env.scope.names.lookup nm = some .local := by intro _; rfl) (hsw : ∀ n, swapsWith (.ListComp elt [⟨.Tuple tes tk tp, .Call (.Attribute it "items" apos) [] [] cpos, ifs, 0⟩] scope pos) (some (.Name nm p)) spos.line (Z n).env = pure true := by intro _; exact sw_true rfl rfl rfl (by decide +kernel))
    (hbase : ∀ n, attributeBase it "items" (Z n).env (eval it (Z n).env) = eval it (Z n).env := by intro _; rfl) (hline : (apos.endLine == cpos.line) = true := by rfl) (hs : ∀ n x, foldedSetIterable (.Call (.Attribute it "items" apos) [] [] cpos) (Z n).env x = pure x := by intro _ _; rfl) :
    wS Z (.Assign [.Name nm p] (.ListComp elt [⟨.Tuple tes tk tp, .Call (.Attribute it "items" apos) [] [] cpos, ifs, 0⟩] scope pos) spos) D σ H :=
  ⟨tLock (tAsg (lcI Z ow scope (.Tuple tes tk tp) it ifs elt) (gName v)), fun n => ps_lock (ps_setLc (fm.calm n) (fm.N n ▸ fm.nd) (hN n) (hyl n) (hsw n) (pi_itemsT (pe_w n) (hbase n) hline) (by rw [fm.N n, hsc n]; exact ok) (fun s H C cl fp => pg_w (Z := Zb Z scope) (n, s, H, C, cl, fp)) (fun s H C cl fp => pts_w (Z := Zb Z scope) (n, s, H, C, cl, fp)) (fun s H C cl fp => pe_w (Z := Zb Z scope) (n, s, H, C, cl, fp)) (hs n)),
    h.e σ M H c.sd (fun x H1 => D.nx (σ.set v (some x)) H1) fun x M' H' u r => k _ M' H' ((c.pure u).set r v)⟩
end
end Ly
namespace Ly
open PySem L2 Mc
section
variable {ι : Type} {Z : ι → Cx} {own : Own} {ρ : Ev} {P : Program} {wd : World} {K : PySem.W.Frag} {mg : Str → Option Value} {base : Heap} {N : List Str} {k : Nat} (fm : Fam Z P wd K mg base N k)
variable {e : Expr} {pos p : Pos} {nm : Str} {i j : Int} {D : Ends} {F : List Addr} {M0 H0 M H : Hp} {σ : L2.St}
include fm in
/-- name += e, whole numbers -/
theorem k_augI (v : Nat) (c : C F M0 H0 own ρ σ M H) (hv : ρ[v]? = some (some (.int i))) (he : E own ρ (wE Z e) (.int j)) (hN : ∀ n, (Z n).N[v]? = some nm) (k : ∀ σ' M' H', C F M0 H0 own (ρ.set v (some (.int (i + j)))) σ' M' H' → D.nx σ' H')
    (hl : ∀ n, Loc (Z n).env.scope nm := by intro _; first | exact Or.inl rfl | exact Or.inr rfl) (hf : ∀ n, (Z n).fn nm = true ∨ (Z n).env.scope.names.lookup nm = some .local := by intro _; first | exact .inl rfl | exact .inr rfl) : wS Z (.AugAssign (.Name nm p) .Add e pos) D σ H := by
  refine ⟨tAug v (wE Z e) (ipI fun i j => i + j), fun n => ps_aug (fm.N n ▸ fm.nd) (hN n) (hl n) (pe_w n) ip_add (hf n), ?_⟩
  obtain ⟨x, hx, rx⟩ := c.sd.env.get hv
  rw [rx.raw_eq] at hx
  exact ⟨_, hx, he σ M H c.sd _ fun w M1 H1 u r => ⟨i, j, rfl, r.raw_eq, k _ M1 H1 ((c.pure u).set (.raw _) v)⟩⟩
/-- a cell that is not the caller's is forgotten -/
theorem C.drop {a : Addr} {cl : OC} (c : C F M0 H0 ((a, cl) :: own) ρ σ M H) (hF : a ∉ F) : C F M0 H0 own ρ σ M H := by
  have nd := c.sd.ow.nd
  rw [List.map_cons] at nd; rw [List.nodup_cons] at nd
  refine ⟨⟨c.sd.mh, c.sd.env, ⟨nd.2, fun q hq => c.sd.ow.at_ q (List.mem_cons_of_mem _ hq)⟩⟩, c.bs, fun q hq => c.ownF q (List.mem_cons_of_mem _ hq), fun b hb => ?_⟩
  obtain ⟨x, hx⟩ := c.inF b hb
  obtain e | hx := List.mem_cons.mp hx
  · cases e; exact absurd hb hF
  · exact ⟨x, hx⟩
end
end Ly
/-! Ly8: attributes stored by an operator; items of lists stored. -/
namespace Ly
open PySem L2 Mc
section
variable {ι : Type} {Z : ι → Cx} {own : Own} {ρ : Ev} {P : Program} {wd : World} {K : PySem.W.Frag} {mg : Str → Option Value} {base : Heap} {N : List Str} {k : Nat} (fm : Fam Z P wd K mg base N k)
variable {e o i a b : Expr} {pos p : Pos} {nm : Str} {D : Ends} {F : List Addr} {M0 H0 M H : Hp} {σ : L2.St} {d : Ly.D} {ad Cc : Addr} {kk : Nat} {fs : List (Str × Ly.D)} {f : Str} {ds xs ys : List Ly.D} {Pq : Ly.D → Own → Prop}
include fm
/-- o.f += e, whole numbers -/
theorem k_fldI {x y : Int} (c : C F M0 H0 own ρ σ M H) (ho : E own ρ (wE Z o) (.ref ad)) (hk : own[kk]? = some (ad, .ins Cc fs)) (hf : fs.lookup f = some (.int x)) (he : E own ρ (wE Z e) (.int y)) (cl : Cls K Cc) (na : NoAttr K Cc f) (hl : fs.length < 1000)
    (kn : ∀ M' H', C F M0 H0 (own.set kk (ad, .ins Cc (putD f (.int (x + y)) fs))) ρ σ M' H' → D.nx σ H') : wS Z (.AugAssign (.Attribute o f p) .Add e pos) D σ H := by
  refine ⟨sFldAug K (wE Z o) (wE Z e) rAdd f, fun n => fm.K n ▸ ps_fldaug (pe_w n) (pe_w n) in_add, ho σ M H c.sd _ fun v M1 H1 u1 r1 => ?_⟩
  have c1 := c.pure u1
  obtain ⟨_, ob, hob, dx, fv, rfl, rf⟩ := c1.sd.ow.get hk
  obtain ⟨w, hw, rw'⟩ := rf.look hf
  refine ⟨ad, Cc, dx, fv, w, r1.raw_eq, hob, cl, na, hw, he σ M1 H1 c1.sd _ fun y' M2 H2 u2 r2 => ?_⟩
  have c2 := c1.pure u2
  refine ⟨x, y, rw'.raw_eq, r2.raw_eq, dx, fv, u2.hh _ _ hob, by rw [rf.length]; exact hl, ?_⟩
  exact kn M2 _ (c2.put hk ⟨dx, _, rfl, (rf.mono u2.mm).put (.raw _)⟩)
/-- o.f += e, tuples -/
theorem k_fldT (c : C F M0 H0 own ρ σ M H) (ho : E own ρ (wE Z o) (.ref ad)) (hk : own[kk]? = some (ad, .ins Cc fs)) (hf : fs.lookup f = some (.tup xs)) (he : E own ρ (wE Z e) (.tup ys)) (cl : Cls K Cc) (na : NoAttr K Cc f) (hl : fs.length < 1000) (hz : xs.length + ys.length ≤ 100000)
    (kn : ∀ M' H', C F M0 H0 (own.set kk (ad, .ins Cc (putD f (.tup (xs ++ ys)) fs))) ρ σ M' H' → D.nx σ H') : wS Z (.AugAssign (.Attribute o f p) .Add e pos) D σ H := by
  refine ⟨sFldAug K (wE Z o) (wE Z e) (rCatA K) f, fun n => fm.K n ▸ ps_fldaug (pe_w n) (pe_w n) in_catA, ho σ M H c.sd _ fun v M1 H1 u1 r1 => ?_⟩
  have c1 := c.pure u1
  obtain ⟨_, ob, hob, dx, fv, rfl, rf⟩ := c1.sd.ow.get hk
  obtain ⟨w, hw, rw'⟩ := rf.look hf
  refine ⟨ad, Cc, dx, fv, w, r1.raw_eq, hob, cl, na, hw, he σ M1 H1 c1.sd _ fun y' M2 H2 u2 r2 => ?_⟩
  have c2 := c1.pure u2
  obtain ⟨t, vs, rfl, ht, rs⟩ := (rw'.mono u2.mm).tup_inv
  obtain ⟨t', us, rfl, ht', rt⟩ := r2.tup_inv
  have ho2 := u2.hh _ _ hob
  refine ⟨t, t', vs, us, rfl, rfl, .of (c2.sd.mh _ _ ht), .of (c2.sd.mh _ _ ht'), by rw [rs.length, rt.length]; exact Nat.le_trans hz big, fun z => ⟨dx, fv, ho2, by rw [rf.length]; exact hl, ?_⟩, fun z z' => ⟨dx, fv, ho2, by rw [rf.length]; exact hl, ?_⟩, fun _ _ q hq => ⟨dx, fv, ?_, by rw [rf.length]; exact hl, ?_⟩⟩
  · subst z; cases rs
    exact kn M2 _ (c2.put hk ⟨dx, _, rfl, (rf.mono u2.mm).put (.tup ht' rt)⟩)
  · subst z'; cases rt
    refine kn M2 _ (c2.put hk ⟨dx, _, rfl, (rf.mono u2.mm).put ?_⟩)
    rw [List.append_nil]
    exact .tup ht rs
  · rw [upd_ne (fun z => by rw [z] at ho2; rw [ho2] at hq; cases hq)]; exact ho2
  · have u3 := Pu.newM (o := .tup (vs ++ us)) c2.sd.mh hq
    have c3 := c2.pure u3
    exact kn _ _ (c3.put hk ⟨dx, _, rfl, ((rf.mono u2.mm).mono u3.mm).put (.tup upd_same ((rs.append rt).mono u3.mm))⟩)
/-- xs[i] = e, xs a cell -/
theorem k_item {x : Int} {j : Nat} {p' : Pos} (c : C F M0 H0 own ρ σ M H) (he : X own ρ (wE Z e) Pq) (ho : ∀ o', E o' ρ (wE Z o) (.ref ad)) (hi : ∀ d o', Pq d o' → E o' ρ (wE Z i) (.int x)) (h : ∀ d o', Pq d o' → ∃ k ds, o'[k]? = some (ad, .l ds) ∧ ixN ds.length x = some j ∧ ∀ M' H', C F M0 H0 (o'.set k (ad, .l (ds.set j d))) ρ σ M' H' → D.nx σ H')
    (hs : ∀ n, swapsWithSole [.Subscript o i p'] e pos.line (Z n).env = pure false := by intro _; rfl) (hw : ∀ n, swappedStores [.Subscript o i p'] e (Z n).env = pure none := by intro _; rfl)
    (h1 : ∀ n, (assignEach [.Subscript o i p'] (Z n).env).map (·.2) = [assign (.Subscript o i p') (Z n).env] := by intro _; rfl)
    (ha : ∀ n v, assign (.Subscript o i p') (Z n).env v = (do
      let ov ← holding [v] (eval o (Z n).env)
      let iv ← holding [v, ov] (eval i (Z n).env)
      standAt p'
      holding [v, ov, iv] <| setItem ov iv v
      release [v, ov, iv] []) := by intro _ _; rfl) : wS Z (.Assign [.Subscript o i p'] e pos) D σ H := by
  refine ⟨tAsg (wE Z e) (gSub (wE Z o) (wE Z i) rSetL), fun n => ps_asg (pe_w n) (pg_sub (pe_w n) (pe_w n) set_list (ha n)) (hs n) (hw n) (h1 n), he F M0 H0 σ M H c _ fun v d o' M1 H1 pq c1 s1 r1 => ?_⟩
  refine ho o' σ M1 H1 c1.sd _ fun w M2 H2 u2 r2 => hi d o' pq σ M2 H2 (c1.sd.pure u2) _ fun y M3 H3 u3 r3 => ?_
  have c3 := (c1.pure u2).pure u3
  obtain ⟨k, ds, hk, hx, kn⟩ := h d o' pq
  obtain ⟨_, ob, hob, vs, rfl, rv⟩ := c3.sd.ow.get hk
  exact ⟨ad, vs, x, j, r2.raw_eq, r3.raw_eq, hob, by rw [rv.length]; exact hx, kn M3 _ (c3.put hk ⟨_, rfl, rv.set (r1.mono (u2.mm.trans u3.mm)) j⟩)⟩
/-- xs[i] += e, whole numbers, xs a cell -/
theorem k_itemI {x y z : Int} {j : Nat} {tp : Pos} (c : C F M0 H0 own ρ σ M H) (ho : E own ρ (wE Z o) (.ref ad)) (hi : E own ρ (wE Z i) (.int x)) (he : E own ρ (wE Z e) (.int y)) (hk : own[kk]? = some (ad, .l ds)) (hj : ixN ds.length x = some j) (hz : ds[j]? = some (.int z))
    (kn : ∀ M' H', C F M0 H0 (own.set kk (ad, .l (ds.set j (.int (z + y))))) ρ σ M' H' → D.nx σ H') (ha : ∀ ov iv new, augStore i ov iv new = (do holding [new, ov, iv] (setItem ov iv new); release [new, ov, iv] []; pure .next) := by intros; rfl) : wS Z (.AugAssign (.Subscript o i tp) .Add e pos) D σ H := by
  refine ⟨tAugS (wE Z o) (wE Z i) (wE Z e) (rIxL K) (ipI fun i j => i + j) rSetL, fun n => ps_augS (pe_w n) (pe_w n) (fm.K n ▸ pget_list) (pe_w n) ip_add set_list ha, ho σ M H c.sd _ fun v M1 H1 u1 r1 => hi σ M1 H1 (c.sd.pure u1) _ fun w M2 H2 u2 r2 => ?_⟩
  have c2 := (c.pure u1).pure u2
  obtain ⟨_, ob, hob, vs, rfl, rv⟩ := c2.sd.ow.get hk
  obtain ⟨t, ht, rt⟩ := rv.get hz
  refine ⟨ad, vs, x, t, r1.raw_eq, r2.raw_eq, .of hob, by unfold atI; rw [rv.length, hj]; exact ht, he σ M2 H2 c2.sd _ fun y' M3 H3 u3 r3 => ?_⟩
  have c3 := c2.pure u3
  refine ⟨z, y, rt.raw_eq, r3.raw_eq, ad, vs, x, j, r1.raw_eq, r2.raw_eq, u3.hh _ _ hob, by rw [rv.length]; exact hj, ?_⟩
  exact kn M3 _ (c3.put hk ⟨_, rfl, (rv.mono u3.mm).set (.raw _) j⟩)
end
section
variable {ι : Type} {Z : ι → Cx} {own : Own} {ρ : Ev} {P : Program} {wd : World} {K : PySem.W.Frag} {mg : Str → Option Value} {base : Heap} {N : List Str} {k : Nat} (fm : Fam Z P wd K mg base N k)
include fm in
theorem w_addI {a b : Expr} {i j : Int} {pos : Pos} (ha : E own ρ (wE Z a) (.int i)) (hb : E own ρ (wE Z b) (.int j)) : E own ρ (wE Z (.BinOp a .Add b pos)) (.int (i + j)) := w_add fm ha hb trivial
include fm in
theorem w_mulI {a b : Expr} {i j : Int} {pos : Pos} (ha : E own ρ (wE Z a) (.int i)) (hb : E own ρ (wE Z b) (.int j)) (h : CMul i j) : E own ρ (wE Z (.BinOp a .Mult b pos)) (.int (i * j)) := w_mul fm ha hb h
end
theorem ixN_of {n j : Nat} {x : Int} (h : j < n) (e : x = j := by rfl) : ixN n x = some j := by
  subst e
  unfold ixN
  rw [if_pos (Int.natCast_nonneg j), if_pos (by omega)]
  rfl
end Ly
/-! Ly9: lists of new lists; list(..) of cells; methods that make cells. -/
namespace Ly
open PySem L2 Mc
section
variable {F : List Addr} {M0 H0 M H M' H' : Hp} {own own' o2 : Own} {ρ : Ev} {σ : L2.St}
/-- new cells -/
theorem C.news {new : Own} (c : C F M0 H0 own ρ σ M H) (u : Pu M H M' H') (hn : ∀ q ∈ new, H q.1 = none) (ow : OwnOk M' H' (new ++ own)) : C F M0 H0 (new ++ own) ρ σ M' H' := by
  have c1 := c.pure u
  refine ⟨⟨c1.sd.mh, c1.sd.env, ow⟩, c1.bs, fun q hq => ?_, fun a ha => ?_⟩
  · obtain hq | hq := List.mem_append.mp hq
    · by_cases hb : q.1 ∈ F
      · exact .inl hb
      · cases e : H0 q.1 with
        | none => exact .inr rfl
        | some y => have := c.bs.hh _ _ hb e; rw [hn q hq] at this; cases this
    · exact c1.ownF q hq
  · obtain ⟨x, hx⟩ := c1.inF a ha
    exact ⟨x, List.mem_append_right _ hx⟩
/-- a cell's content told anew -/
theorem C.tellL {a : Addr} {k : Nat} {ds es : List D} (c : C F M0 H0 own ρ σ M H) (hk : own[k]? = some (a, .l ds)) (h : ∀ vs, Dvs M vs ds → Dvs M vs es) : C F M0 H0 (own.set k (a, .l es)) ρ σ M H := by
  obtain ⟨n, o, ho, vs, rfl, rv⟩ := c.sd.ow.get hk
  have := c.put hk (o' := .lst vs) (cl' := .l es) ⟨vs, rfl, h vs rv⟩
  have e : upd H a (.lst vs) = H := by
    funext b
    by_cases hb : b = a
    · rw [hb, upd_same, ho]
    · rw [upd_ne hb]
  rw [e] at this
  exact this
theorem C.tellI {a Cc : Addr} {k : Nat} {fs gs : List (Str × D)} (c : C F M0 H0 own ρ σ M H) (hk : own[k]? = some (a, .ins Cc fs)) (h : ∀ vs, Dfs M vs fs → Dfs M vs gs) : C F M0 H0 (own.set k (a, .ins Cc gs)) ρ σ M H := by
  obtain ⟨n, o, ho, dx, fv, rfl, rv⟩ := c.sd.ow.get hk
  have := c.put hk (o' := .ins Cc dx fv) (cl' := .ins Cc gs) ⟨dx, fv, rfl, h fv rv⟩
  have e : upd H a (.ins Cc dx fv) = H := by
    funext b
    by_cases hb : b = a
    · rw [hb, upd_same, ho]
    · rw [upd_ne hb]
  rw [e] at this
  exact this
theorem perm_set {α : Type} {x y : α} : ∀ (l : List α) (i : Nat), l[i]? = some y → (x :: l).Perm (y :: l.set i x)
  | [], i, h => by simp at h
  | z :: l, 0, h => by
    have h : z = y := by simpa using h
    subst h
    exact .swap z x l
  | z :: l, i + 1, h => by
    have ih := perm_set (x := x) l i (by simpa using h)
    exact (List.Perm.swap z x l).trans ((ih.cons z).trans (.swap y z _))
/-- new rows -/
def rowsO (w : List D) (rs : List Addr) : Own := rs.map fun r => (r, .l w)
/-- new lists in a new list -/
theorem x_lcN {wi : TI} {g : TG} {tt : TT} {te : TE} {vs : List Nat} {ds w : List Ly.D} (f : Ly.D → Ev → Ev) (hi : EI own ρ wi ds) (hl : ds.length ≤ 100000)
    (hg : ∀ (i : Nat) (d : Ly.D), ds[i]? = some d → EW g vs d (f d)) (ht : ∀ (i : Nat) (d : Ly.D), ds[i]? = some d → ET own (f d (wipeD ρ vs)) tt true) (he : ∀ (i : Nat) (d : Ly.D), ds[i]? = some d → EN own (f d (wipeD ρ vs)) te w) :
    X own ρ (tLc wi g tt te vs) (fun d o => ∃ a rs, d = .ref a ∧ rs.length = ds.length ∧ o = (a, .l (rs.map D.ref)) :: (rowsO w rs ++ own)) := fun F M0 H0 σ M H c Q q =>
  hi σ M H c.sd _ fun J M1 H1 u w' D hD => by
    have c1 := c.pure u
    have s1 := c1.sd
    have wk : Walk J ds.length (fun H' => ∃ M', Same M1 M' ∧ Same M' H') (fun i H' x H'' => ∀ M', Same M1 M' → Same M' H' → ∀ d, ds[i]? = some d → ∃ M'', Pu M' H' M'' H'' ∧ Dv M'' x d) :=
      ⟨fun i H' hi ⟨M', s1, s2⟩ => w'.goes i M' H' hi s1 s2, fun H' ⟨M', s1, s2⟩ => w'.stops M' H' s1 s2, fun i H' x H'' _ _ y M' s1 s2 d e => w'.yields i x d M' H' H'' e s1 s2 y⟩
    refine lc_it wk (fun i H' => ∃ M' rs, Pu M1 H1 M' H' ∧ M' D = none ∧ H' D = some (.lst (rs.map V.ref)) ∧ rs.length = i ∧ (∀ r ∈ rs, r ≠ D ∧ H1 r = none) ∧ OwnOk M' H' (rowsO w rs ++ own)) ⟨M1, [], Pu.newH u.mh hD, same_back u.mh hD, upd_same, rfl, (fun _ h => nomatch h), s1.ow.pure (Pu.newH u.mh hD)⟩
      (fun i H' _ ⟨M', us, u', _⟩ => ⟨M', u'.mm, u'.mh⟩) (fun i x H' H'' hi ⟨M', rs, u', n', a', l', d', o'⟩ y => ?_) (fun H' ⟨M', rs, u', n', a', l', d', o'⟩ => ?_)
    · have ed : ds[i]? = some ds[i] := by simp [hi]
      obtain ⟨M2, u2, r2⟩ := y M' u'.mm u'.mh _ ed
      have s2 : Sd own (wipeD ρ vs) (wipe σ vs) M2 H'' := ⟨u2.mh, (((s1.pure u').pure u2).env).wipe vs, ((s1.ow.pure u').pure u2)⟩
      refine hg i _ ed own (wipeD ρ vs) (wipe σ vs) M2 H'' x s2 r2 _ fun σ2 en hw => ⟨hw.trans (by rw [wipe_wipe vs vs fun _ h => h]), ?_⟩
      have s3 : Sd own (f ds[i] (wipeD ρ vs)) σ2 M2 H'' := ⟨s2.mh, en, s2.ow⟩
      refine ht i _ ed σ2 M2 H'' s3 _ fun M3 H3 u3 => ?_
      rw [if_pos rfl]
      refine he i _ ed σ2 M3 H3 (s3.pure u3) _ fun p us M4 H4 u4 hp mp ho r4 => ?_
      have n2 := u2.nn _ _ a' n'
      have a2 := u2.hh _ _ a'
      have n3 := u3.nn _ _ a2 n2
      have a3 := u3.hh _ _ a2
      have n4 := u4.nn _ _ a3 n3
      have a4 := u4.hh _ _ a3
      have u5 := ((u'.trans u2).trans u3).trans u4
      have pD : p ≠ D := fun z => by rw [z, a3] at hp; cases hp
      have ow5 := ((o'.pure u2).pure u3).pure u4
      have pfree : p ∉ (rowsO w rs ++ own).map (·.1) := fun hm => by
        rcases List.mem_map.mp hm with ⟨r, hr, e⟩
        obtain ⟨_, ob, hob, _⟩ := ((o'.pure u2).pure u3).at_ r hr
        rw [e, hp] at hob; cases hob
      have eo : ∀ r, r ∈ rowsO w (rs ++ [p]) ++ own ↔ r = (p, .l w) ∨ r ∈ rowsO w rs ++ own := fun r => by
        unfold rowsO
        rw [List.map_append, List.append_assoc]
        simp only [List.map_cons, List.map_nil, List.mem_append, List.mem_cons, List.not_mem_nil, or_false]
        constructor
        · rintro (h | h | h)
          · exact .inr (.inl h)
          · exact .inl h
          · exact .inr (.inr h)
        · rintro (h | h | h)
          · exact .inr (.inl h)
          · exact .inl h
          · exact .inr (.inr h)
      refine ⟨rs.map V.ref, a4, by rw [List.length_map, l', sizeLine_eq]; omega, M4, rs ++ [p], ⟨u5.mm, fun b o h => ?_, fun b o h => ?_, u5.nn⟩, n4, ?_, by rw [List.length_append, l']; rfl, fun r hr => ?_, ⟨?_, fun r hr => ?_⟩⟩
      · have hb : b ≠ D := ne_of_none h hD
        rw [upd_ne hb]; exact u5.hh b o h
      · have hb : b ≠ D := ne_of_none h n4
        rw [upd_ne hb]; exact u5.mh b o h
      · rw [upd_same, List.map_append]; rfl
      · obtain hr | hr := List.mem_append.mp hr
        · exact d' r hr
        · rw [List.mem_singleton.mp hr]; exact ⟨pD, ((u'.trans u2).trans u3).hh.free hp⟩
      · have e : (rowsO w (rs ++ [p]) ++ own).map (·.1) = (rowsO w rs).map (·.1) ++ (p :: own.map (·.1)) := by
          unfold rowsO
          simp
        rw [e]
        have nd := ow5.nd
        rw [List.map_append] at nd pfree
        obtain ⟨n1, n2, n3⟩ := List.nodup_append.mp nd
        refine List.nodup_append.mpr ⟨n1, List.nodup_cons.mpr ⟨fun h => pfree (List.mem_append_right _ h), n2⟩, fun x hx z hz => ?_⟩
        rcases List.mem_cons.mp hz with hz | hz
        · subst hz; exact fun h => pfree (List.mem_append_left _ (h ▸ hx))
        · exact n3 x hx z hz
      · rcases (eo r).mp hr with rfl | hr
        · exact ⟨mp, .lst us, by rw [upd_ne pD]; exact ho, us, rfl, r4⟩
        · obtain ⟨n, ob, hob, ok⟩ := ow5.at_ r hr
          refine ⟨n, ob, ?_, ok⟩
          rw [upd_ne]; exact hob
          intro z
          have : D ∈ (rowsO w rs ++ own).map (·.1) := z ▸ List.mem_map_of_mem hr
          rw [List.map_append] at this
          rcases List.mem_append.mp this with h | h
          · unfold rowsO at h
            rw [List.map_map] at h
            obtain ⟨t, ht, e⟩ := List.mem_map.mp h
            exact (d' t ht).1 e
          · obtain ⟨t, ht, e⟩ := List.mem_map.mp h
            obtain ⟨_, ob, hob, _⟩ := s1.ow.at_ t ht
            rw [e, hD] at hob; cases hob
    · have e : (D, OC.l (rs.map Ly.D.ref)) :: (rowsO w rs ++ own) = ((D, OC.l (rs.map Ly.D.ref)) :: rowsO w rs) ++ own := rfl
      have rd : Dvs M' (rs.map V.ref) (rs.map Ly.D.ref) := by
        have := Dvs.raws (M := M') (rs.map V.ref)
        rw [List.map_map] at this
        exact this
      refine q (.ref D) (.ref D) _ M' H' ⟨D, rs, rfl, l', rfl⟩ (e ▸ c1.news u' (fun r hr => ?_) ⟨?_, fun r hr => ?_⟩) (u.trans u').mm (.raw _)
      · rcases List.mem_cons.mp hr with rfl | hr
        · exact hD
        · unfold rowsO at hr
          obtain ⟨t, ht, rfl⟩ := List.mem_map.mp hr
          exact (d' t ht).2
      · rw [List.cons_append, List.map_cons, List.nodup_cons]
        refine ⟨fun h => ?_, o'.nd⟩
        rw [List.map_append] at h
        obtain h | h := List.mem_append.mp h
        · unfold rowsO at h
          rw [List.map_map] at h
          obtain ⟨t, ht, e⟩ := List.mem_map.mp h
          exact (d' t ht).1 e
        · obtain ⟨t, ht, e⟩ := List.mem_map.mp h
          obtain ⟨_, ob, hob, _⟩ := s1.ow.at_ t ht
          rw [e, hD] at hob; cases hob
      · rcases List.mem_cons.mp hr with rfl | hr
        · exact ⟨n', _, a', _, rfl, rd⟩
        · exact o'.at_ r hr
end
section
variable {ι : Type} {Z : ι → Cx} {own : Own} {ρ : Ev} {P : Program} {wd : World} {K : PySem.W.Frag} {mg : Str → Option Value} {base : Heap} {N : List Str} {k : Nat} (fm : Fam Z P wd K mg base N k)
variable {a b c e : Expr} {es : List Expr} {x y z d : D} {ds xs ys zs : List D} {i j : Int} {pos p p2 pf : Pos} {nm : Str} {tg : Expr}
variable (B : Blt mg)
include fm
/-- [elt for tg in iter], elt a new list each time -/
theorem x_lcRows {w : List D} {elt iter : Expr} {scope sc : Scope} (ow : List (Str × Nat)) (ok : BlkOk N sc scope ow) (hsc : ∀ n, (Z n).env.scope = sc) (f : D → Ev → Ev) (hi : EI own ρ (wI Z tg iter) ds) (hl : ds.length ≤ 100000)
    (hg : ∀ (i : Nat) (d : D), ds[i]? = some d → EW (wG (Zb Z scope) tg) (ow.map (·.2)) d (f d)) (he : ∀ (i : Nat) (d : D), ds[i]? = some d → EN own (f d (wipeD ρ (ow.map (·.2)))) (wE (Zb Z scope) elt) w)
    (hs : ∀ n x, foldedSetIterable iter (Z n).env x = pure x := by intro _ _; rfl) : X own ρ (wE Z (.ListComp elt [⟨tg, iter, [], 0⟩] scope pos)) (fun d o => ∃ a rs, d = .ref a ∧ rs.length = ds.length ∧ o = (a, .l (rs.map D.ref)) :: (rowsO w rs ++ own)) :=
  X.wz (x_lcN f hi hl hg (fun _ _ _ => ts_nil) he) fun n => pe_lcT fm ok hsc hs n
include B
/-- list(e), e a cell -/
theorem n_listO {ad : Addr} {kk : Nat} (ha : E own ρ (wE Z a) (.ref ad)) (hc : own[kk]? = some (ad, .l ds)) (hg : ∀ n, Gl (Z n) "list" := by intro _; rfl) (he : ∀ n, starEach (a :: []) (Z n).env = (false, eval a (Z n).env) :: starEach [] (Z n).env := by intro _; rfl) (hpl : ∀ n, (backTo pos (starEach [] (Z n).env)).any (·.1) = false := by intro _; rfl) :
    EN own ρ (wE Z (.Call (.Name "list" pf) [a] [] pos)) ds :=
  EN.wz (t := tCB (fun xs H Q => ∃ p ys, xs = [V.ref p] ∧ (SqL K H p ys ∨ SqT K H p ys) ∧ ∀ l, H l = none → Q (.ref l) (upd H l (.lst ys))) (wA Z [a])) (fun σ M H sd Q q => a_cons ha a_nil he σ M H sd _ fun vs M1 H1 u1 r => by
    obtain ⟨v, rfl, r1⟩ := r.one
    obtain ⟨_, ob, hob, us, rfl, rv⟩ := (sd.pure u1).ow.get hc
    exact ⟨ad, us, by rw [r1.raw_eq], .inl (.of hob), fun p hp => q p _ M1 _ (u1.trans (Pu.newH u1.mh hp)) (u1.hh.free hp) (same_back u1.mh hp) upd_same rv⟩) fun n => pe_callTy (fm.K n ▸ call_list_of) (hg n) (by rw [fm.mg]; exact B.list) (by decide +kernel) (pa_w n) (by decide) (by decide) (he n) (hpl n)
/-- list(zip(a, b, c)), all three cells -/
theorem n_listZip3O {a1 a2 a3 : Addr} {k1 k2 k3 : Nat} {pz posz : Pos} (ha : E own ρ (wE Z a) (.ref a1)) (hb : E own ρ (wE Z b) (.ref a2)) (hc : E own ρ (wE Z c) (.ref a3)) (o1 : own[k1]? = some (a1, .l xs)) (o2 : own[k2]? = some (a2, .l ys)) (o3 : own[k3]? = some (a3, .l zs)) (l1 : xs.length ≤ ys.length) (l2 : xs.length ≤ zs.length)
    (hg : ∀ n, Gl (Z n) "list" := by intro _; rfl) (hg2 : ∀ n, Gl (Z n) "zip" := by intro _; rfl)
    (na : ∀ n, starEach [a, b, c] (Z n).env = (false, eval a (Z n).env) :: starEach [b, c] (Z n).env := by intro _; rfl) (nb : ∀ n, starEach [b, c] (Z n).env = (false, eval b (Z n).env) :: starEach [c] (Z n).env := by intro _; rfl) (nc : ∀ n, starEach [c] (Z n).env = (false, eval c (Z n).env) :: starEach [] (Z n).env := by intro _; rfl)
    (hpl2 : ∀ n, (backTo posz (starEach [b, c] (Z n).env)).any (·.1) = false := by intro _; rfl)
    (hs : ∀ n, starEach [.Call (.Name "zip" pz) [a, b, c] [] posz] (Z n).env = (false, eval (.Call (.Name "zip" pz) [a, b, c] [] posz) (Z n).env) :: starEach [] (Z n).env := by intro _; rfl) :
    EN own ρ (wE Z (.Call (.Name "list" pf) [.Call (.Name "zip" pz) [a, b, c] [] posz] [] pos)) (zip3D xs ys zs) :=
  EN.wz (t := tListZip3 K (tCons (wE Z a) (tCons (wE Z b) (tCons (wE Z c) tNil)))) (fun σ M H sd Q q => (ea_cons ha (ea_cons hb (ea_cons hc ea_nil))) σ M H sd _ fun vs M1 H1 u1 r => by
    obtain ⟨v1, v2, v3, rfl, r1, r2, r3⟩ : ∃ v1 v2 v3, vs = [v1, v2, v3] ∧ v1 = .ref a1 ∧ v2 = .ref a2 ∧ v3 = .ref a3 := by
      cases r with
      | cons r rr => cases rr with
        | cons r' rr => cases rr with
          | cons r'' rr => cases rr; exact ⟨_, _, _, rfl, r.raw_eq, r'.raw_eq, r''.raw_eq⟩
    subst r1 r2 r3
    have s1 := sd.pure u1
    obtain ⟨_, _, h1, us1, rfl, rv1⟩ := s1.ow.get o1
    obtain ⟨_, _, h2, us2, rfl, rv2⟩ := s1.ow.get o2
    obtain ⟨_, _, h3, us3, rfl, rv3⟩ := s1.ow.get o3
    refine ⟨a1, a2, a3, us1, us2, us3, rfl, .of h1, .of h2, .of h3, by rw [rv1.length, rv2.length]; exact l1, by rw [rv1.length, rv3.length]; exact l2, fun H' p ts kp hp hts hpt hP hl htr => ?_⟩
    -- the tuples never change
    have mts : ∀ t ∈ ts, M1 t = none := fun t ht => same_back u1.mh (hts t ht)
    let M' : Hp := fun b => if b ∈ ts then H' b else M1 b
    have hM : ∀ b, b ∈ ts → M' b = H' b := fun b hb => if_pos hb
    have hM2 : ∀ b, b ∉ ts → M' b = M1 b := fun b hb => if_neg hb
    have sM : Same M1 M' := fun b o e => by rw [hM2 b fun h => by rw [mts b h] at e; cases e]; exact e
    have u2 : Pu M1 H1 M' H' := ⟨sM, kp, fun b o e => by
      by_cases hb : b ∈ ts
      · rw [← hM b hb]; exact e
      · rw [hM2 b hb] at e; exact kp b o (u1.mh b o e), fun b o e n => by rw [hM2 b fun h => by rw [hts b h] at e; cases e]; exact n⟩
    have rd : Dvs M' (ts.map V.ref) (zip3D xs ys zs) := by
      have lz : ts.length = (zip3D xs ys zs).length := by
        unfold zip3D
        rw [hl, rv1.length, List.length_map, List.length_zip, List.length_zip]
        omega
      have key : ∀ (l : List Addr) (es : List Ly.D), l.length = es.length → (∀ (j : Nat) (t : Addr) (d : Ly.D), l[j]? = some t → es[j]? = some d → Dv M' (.ref t) d) → Dvs M' (l.map V.ref) es := by
        intro l
        induction l with
        | nil => intro es he _; cases es with
          | nil => exact .nil
          | cons _ _ => cases he
        | cons t l ih => intro es he h; cases es with
          | nil => cases he
          | cons d es => exact .cons (h 0 t d rfl rfl) (ih es (Nat.succ.inj he) fun j t' d' e1 e2 => h (j + 1) t' d' e1 e2)
      refine key ts _ lz fun j t d e1 e2 => ?_
      obtain ⟨x, y, z, g1, g2, g3, g4⟩ := htr j t e1
      obtain ⟨dx, f1, k1⟩ := rv1.getV g1
      obtain ⟨dy, f2, k2⟩ := rv2.getV g2
      obtain ⟨dz, f3, k3⟩ := rv3.getV g3
      have ez : (zip3D xs ys zs)[j]? = some (.tup [dx, dy, dz]) := by
        unfold zip3D
        rw [List.getElem?_map, List.getElem?_zip_eq_some (z := (dx, dy, dz)) |>.mpr ⟨f1, List.getElem?_zip_eq_some.mpr ⟨f2, f3⟩⟩]
        rfl
      rw [ez] at e2
      cases e2
      exact .tup (by rw [hM t (List.mem_of_getElem? e1)]; exact g4) (.cons (k1.mono sM) (.cons (k2.mono sM) (.cons (k3.mono sM) .nil)))
    exact q p _ M' H' (u1.trans u2) (u1.hh.free hp) (by rw [hM2 p hpt]; exact same_back u1.mh hp) hP rd) fun n => fm.K n ▸ pe_listZip3 (fm.calm n) (pa_cons (pe_w n) (pa_cons (pe_w n) (pa_cons (pe_w n) pa_nil (nc n)) (nb n)) (na n)) (hg n) (by rw [fm.mg]; exact B.list) (by decide +kernel) (hg2 n) (by rw [fm.mg]; exact B.zip) (na n) (hpl2 n) (hs n)
omit B
/-- o.m(..), o an own instance that is a cell; what comes is not known ahead -/
theorem x_methN {γ : Type} {Pre : γ → List Ly.D → Own → Prop} {Post : γ → Ly.D → Own → Prop} {Pq : Ly.D → Own → Prop} {o : Expr} {apos : Pos} {pl : ι → Sem Bool} {C ad : Addr} {m : Str} {fs : List (Str × Ly.D)} {kk : Nat} {k' : Nat} {ps : List Str} (kl : Cls K C) (cm : CalM P wd K mg base C m k' ps (spN Pre Post)) (ho : E own ρ (wE Z o) (.ref ad)) (hc : own[kk]? = some (ad, .ins C fs)) (hfs : fs.lookup m = none)
    (ha : EA own ρ (wA Z (e :: es)) ds) {o1 o2 : Own} (hp : own.Perm (o1 ++ o2)) (g : γ) (hR : Pre g (.ref ad :: ds) o1) (hq : ∀ d o1', Post g d o1' → Pq d (o1' ++ o2)) (hk : k' ≤ k := by decide)
    (hst : ∀ n, starEach (e :: es) (Z n).env = (false, eval e (Z n).env) :: starEach es (Z n).env := by intro _; rfl) (hpl : ∀ n, (backTo pos (starEach es (Z n).env)).any (·.1) = false := by intro _; rfl)
    (ht : ∀ n, eval (.Call (.Attribute o m apos) (e :: es) [] pos) (Z n).env = (do
      let ov ← eval o (Z n).env
      standAt apos.atName
      let (f, first) ← holding [ov] (getMethod ov m (pl n))
      callWith pos f first (backTo pos (starEach (e :: es) (Z n).env)) (backToKw pos (keywordEach [] (Z n).env))) := by intro _; rfl) : X own ρ (wE Z (.Call (.Attribute o m apos) (e :: es) [] pos)) Pq := by
  obtain ⟨f, fd, G, mt, hb⟩ := cm.ex
  refine X.wz (t := tMeth C m (spN Pre Post) [] E0 (wE Z o) (wA Z (e :: es))) (fun F M0 H0 σ M H c Q q => ho σ M H c.sd _ fun v M1 H1 u1 r1 => ?_) fun n => ?_
  · have c1 := c.pure u1
    obtain ⟨_, ob, hob, dx, fv, rfl, rf⟩ := c1.sd.ow.get hc
    refine ⟨ad, dx, fv, r1.raw_eq, hob, rf.look_none hfs, ha σ M1 H1 c1.sd _ fun vs M2 H2 u2 r2 => ?_⟩
    rw [List.append_nil]
    have c2 := (c1.pure u2).perm hp
    rw [r1.raw_eq]
    exact ⟨g, M2, o1, .ref ad :: ds, c2.sd.mh, c2.sd.ow.left, .cons (.raw _) r2, hR, fun v d o1' M3 H3 hpo po r3 => q v d _ M3 H3 (hq d o1' hpo) (c2.frame po) ((u1.mm.trans u2.mm).trans po.mm) r3⟩
  · have G' : FnOk (Z n).prog (Z n).w (Z n).K (Z n).mg (Z n).base (L2.CX (Z n).prog (Z n).w) k f fd ps (spN Pre Post) := by
      rw [fm.P n, fm.w n, fm.K n, fm.mg n, fm.base n]; exact G.mono hk
    exact pe_meth (pe_w n) (by rw [fm.K]; exact kl) (by rw [fm.K]; exact mt) G' (fm.room n) (by rw [fm.K]; exact hb) .nil passL (pa_w n) (hst n) (hpl n) (ht n)
end
end Ly
/-! Df1: words and machines. -/
namespace Hb
open PySem L2 Mc Ly
/-- a def of the text, found by its name -/
structure Df (K : PySem.W.Frag) (mg : Str → Option Value) (x : Str) (st : Stmt) (f : Addr) (fd : FuncData) : Prop where
  F : Fun K x x st f fd
  g : mg x = some (.ref f)
/-- the constants of the text -/
structure Gc (mg : Str → Option Value) : Prop where
  MOST_DEEDS : ∃ t, mg "MOST_DEEDS" = some (.int 8 t)
  MOST_STATES : ∃ t, mg "MOST_STATES" = some (.int 12 t)
  MOST_HOUSES : ∃ t, mg "MOST_HOUSES" = some (.int 12 t)
  MOST_TIES : ∃ t, mg "MOST_TIES" = some (.int 20 t)
  MOST_ROW : ∃ t, mg "MOST_ROW" = some (.int 10000 t)
  MOST_STEPS : ∃ t, mg "MOST_STEPS" = some (.int 400 t)
  DO : ∃ t, mg "DO" = some (.str "do" t)
  MEET : ∃ t, mg "MEET" = some (.str "meet" t)
section
variable {ι : Type} {Z : ι → Cx} {own : Own} {ρ : Ev} {P : Program} {wd : World} {K : PySem.W.Frag} {mg : Str → Option Value} {base : Heap} {N : List Str} {k : Nat} (fm : Fam Z P wd K mg base N k) {pos : Pos}
include fm
theorem w_g {nm : Str} {i : Int} (h : ∃ t, mg nm = some (.int i t)) (hg : ∀ i, Gl (Z i) nm := by intro _; rfl) (hd : (nm == ("__debug__" : Str)) = false := by decide) : E own ρ (wE Z (.Name nm pos)) (.int i) := by
  obtain ⟨t, h⟩ := h
  exact w_glob fm h ⟨t, rfl⟩ hg hd
theorem w_gs {nm i : Str} (h : ∃ t, mg nm = some (.str i t)) (hg : ∀ i, Gl (Z i) nm := by intro _; rfl) (hd : (nm == ("__debug__" : Str)) = false := by decide) : E own ρ (wE Z (.Name nm pos)) (.str i) := by
  obtain ⟨t, h⟩ := h
  exact w_glob fm h ⟨t, rfl⟩ hg hd
variable (B : Blt mg)
include B
theorem bt_int (hg : ∀ i, Gl (Z i) "int" := by intro _; rfl) : E own ρ (wE Z (.Name "int" pos)) (.raw (.ty "int")) := w_blt fm B.int (by decide +kernel) (v := .ty "int") rfl hg
theorem bt_bool (hg : ∀ i, Gl (Z i) "bool" := by intro _; rfl) : E own ρ (wE Z (.Name "bool" pos)) (.raw (.ty "bool")) := w_blt fm B.bool (by decide +kernel) (v := .ty "bool") rfl hg
theorem bt_str (hg : ∀ i, Gl (Z i) "str" := by intro _; rfl) : E own ρ (wE Z (.Name "str" pos)) (.raw (.ty "str")) := w_blt fm B.str (by decide +kernel) (v := .ty "str") rfl hg
theorem bt_list (hg : ∀ i, Gl (Z i) "list" := by intro _; rfl) : E own ρ (wE Z (.Name "list" pos)) (.raw (.ty "list")) := w_blt fm B.list (by decide +kernel) (v := .ty "list") rfl hg
theorem bt_tuple (hg : ∀ i, Gl (Z i) "tuple" := by intro _; rfl) : E own ρ (wE Z (.Name "tuple" pos)) (.raw (.ty "tuple")) := w_blt fm B.tuple (by decide +kernel) (v := .ty "tuple") rfl hg
end
/-! ### plain data -/
def nD (l : List Nat) : List D := l.map fun n : Nat => .int (n : Int)
def tT (t : List (List Nat)) : List D := t.map fun r => .tup (nD r)
def tL (t : List (List Nat)) : List D := t.map fun r => .lst (nD r)
structure MOk (t : List (List Nat)) (n : Nat) : Prop where
  d1 : 1 ≤ t.length
  d8 : t.length ≤ 8
  n1 : 1 ≤ n
  n12 : n ≤ 12
  row : ∀ r ∈ t, r.length = n ∧ ∀ x ∈ r, x < n
def step (t : List (List Nat)) (s d : Nat) : Nat := (t.getD d []).getD s 0
def run (t : List (List Nat)) (s : Nat) (row : List Nat) : Nat := row.foldl (step t) s
theorem nD_len {l : List Nat} : (nD l).length = l.length := by unfold nD; rw [List.length_map]
theorem tT_len {l : List (List Nat)} : (tT l).length = l.length := by unfold tT; rw [List.length_map]
theorem tL_len {l : List (List Nat)} : (tL l).length = l.length := by unfold tL; rw [List.length_map]
theorem nD_get {l : List Nat} {i : Nat} {x : D} (h : (nD l)[i]? = some x) : ∃ n, l[i]? = some n ∧ x = .int (n : Int) := by
  unfold nD at h
  rw [List.getElem?_map, Option.map_eq_some_iff] at h
  obtain ⟨n, h1, h2⟩ := h
  exact ⟨n, h1, h2.symm⟩
theorem nD_at {l : List Nat} {i : Nat} (h : i < l.length) : (nD l)[i]? = some (.int ((l.getD i 0 : Nat) : Int)) := by
  unfold nD
  rw [List.getElem?_map]
  simp [h]
theorem tT_at {l : List (List Nat)} {i : Nat} (h : i < l.length) : (tT l)[i]? = some (.tup (nD (l.getD i []))) := by
  unfold tT
  rw [List.getElem?_map]
  simp [h]
theorem tL_at {l : List (List Nat)} {i : Nat} (h : i < l.length) : (tL l)[i]? = some (.lst (nD (l.getD i []))) := by
  unfold tL
  rw [List.getElem?_map]
  simp [h]
theorem MOk.at_ {t : List (List Nat)} {n d : Nat} (h : MOk t n) (hd : d < t.length) : (t.getD d []).length = n ∧ ∀ x ∈ t.getD d [], x < n := by
  have : t.getD d [] = t[d] := by simp [List.getD, hd]
  rw [this]
  exact h.row _ (List.getElem_mem hd)
theorem MOk.step {t : List (List Nat)} {n d s : Nat} (h : MOk t n) (hd : d < t.length) (hs : s < n) : step t s d < n := by
  obtain ⟨h1, h2⟩ := h.at_ hd
  refine h2 _ ?_
  unfold Hb.step
  generalize t.getD d [] = r at h1 h2 ⊢
  have e : r.getD s 0 = r[s]'(by rw [h1]; exact hs) := by simp [List.getD, h1, hs]
  rw [e]
  exact List.getElem_mem _
theorem MOk.run {t : List (List Nat)} {n s : Nat} (h : MOk t n) {row : List Nat} (hr : ∀ d ∈ row, d < t.length) (hs : s < n) : run t s row < n := by
  induction row generalizing s with
  | nil => exact hs
  | cons d r ih => exact ih (fun x hx => hr x (List.mem_cons_of_mem _ hx)) (h.step (hr d List.mem_cons_self) hs)
theorem take_more {α : Type} {l : List α} {i : Nat} {x : α} (h : l[i]? = some x) : l.take (i + 1) = l.take i ++ [x] := by rw [List.take_add_one, h]; rfl
theorem run_more {t : List (List Nat)} {s : Nat} {row : List Nat} {i d : Nat} (h : row[i]? = some d) : run t s (row.take (i + 1)) = step t (run t s (row.take i)) d := by
  unfold run
  rw [take_more h]; rw [List.foldl_append]
  rfl
section
variable {P : Program} {wd : World} {K : PySem.W.Frag} {mg : Str → Option Value} {base : Heap} (B : Blt mg) (G : Gc mg)
def isIntD : D → Bool
  | .raw (.int _) => true
  | _ => false
def isNumD : D → Bool
  | .raw (.int i) => decide (0 ≤ i)
  | _ => false
def isBelow (m : Int) : D → Bool
  | .raw (.int i) => decide (0 ≤ i) && decide (i < m)
  | _ => false
def isSeqD : D → Bool
  | .lst _ => true
  | .tup _ => true
  | _ => false
def isTextD : D → Bool
  | .raw (.str _) => true
  | _ => false
abbrev R1 (g : D → Bool) : List D → D → Prop := fun ds d => ∃ x T, ds = [x] ∧ TyD x T ∧ d = .bl (g x)
abbrev CIs (P : Program) (wd : World) (K : PySem.W.Frag) (mg : Str → Option Value) (base : Heap) (nm : Str) (k : Nat) (g : D → Bool) : Prop := Cal P wd K mg base nm k ["value"] (spD (R1 g))
abbrev s19 : Stmt := top 19
theorem sc19 : FnScope ["value"] ["value"] (defScope s19) := ⟨rfl, rfl, rfl, by decide +kernel, rfl, by decide +kernel, by decide +kernel⟩
include B in
theorem ok19 {f : Addr} {fd : FuncData} (F : Df K mg "is_integer" s19 f fd) : CIs P wd K mg base "is_integer" 1 isIntD := by
  refine cal_pure F.F sc19 F.g (F.F.binds fun _ _ _ _ _ _ us hl => match us, hl with | [_], _ => rfl) (fun ds d ⟨x, T, e, _⟩ => by rw [e]; rfl) ?_
  rintro cdv A outer s H Er fm ds d ⟨x, T, rfl, t, rfl⟩ M0 H0 σ D c q
  refine b_one (k_ret c (d := .bl (isIntD x)) ?_ fun v M' H' c r => q v _ _ M' H' c r)
  cases t with
  | int i => exact E.eq (w_and (g := true) (g' := true) (w_isi fm B (w_nm 0 (fun _ => rfl) rfl) (bt_int fm B) (.int i) (by decide +kernel)) fun _ => w_one (w_not (g := false) (w_isi fm B (w_nm 0 (fun _ => rfl) rfl) (bt_bool fm B) (.int i) (by decide +kernel)))) rfl
  | bl i => exact E.eq (w_and (g := true) (g' := false) (w_isi fm B (w_nm 0 (fun _ => rfl) rfl) (bt_int fm B) (.bl i) (by decide +kernel)) fun _ => w_one (w_not (g := true) (w_isi fm B (w_nm 0 (fun _ => rfl) rfl) (bt_bool fm B) (.bl i) (by decide +kernel)))) rfl
  | non => exact E.eq (w_and (g := false) (g' := false) (w_isi fm B (w_nm 0 (fun _ => rfl) rfl) (bt_int fm B) .non (by decide +kernel)) fun h => nomatch h) rfl
  | str i => exact E.eq (w_and (g := false) (g' := false) (w_isi fm B (w_nm 0 (fun _ => rfl) rfl) (bt_int fm B) (.str i) (by decide +kernel)) fun h => nomatch h) rfl
  | lst i => exact E.eq (w_and (g := false) (g' := false) (w_isi fm B (w_nm 0 (fun _ => rfl) rfl) (bt_int fm B) (.lst i) (by decide +kernel)) fun h => nomatch h) rfl
  | tup i => exact E.eq (w_and (g := false) (g' := false) (w_isi fm B (w_nm 0 (fun _ => rfl) rfl) (bt_int fm B) (.tup i) (by decide +kernel)) fun h => nomatch h) rfl
theorem isInt_of {x : D} (h : isIntD x = true) : ∃ i, x = .int i := by
  unfold isIntD at h
  split at h
  · exact ⟨_, rfl⟩
  · cases h
abbrev s20 : Stmt := top 20
theorem sc20 : FnScope ["value"] ["value"] (defScope s20) := ⟨rfl, rfl, rfl, by decide +kernel, rfl, by decide +kernel, by decide +kernel⟩
theorem ok20 {f : Addr} {fd : FuncData} (F : Df K mg "is_number" s20 f fd) (C19 : CIs P wd K mg base "is_integer" 1 isIntD) : CIs P wd K mg base "is_number" 2 isNumD := by
  refine cal_pure F.F sc20 F.g (F.F.binds fun _ _ _ _ _ _ us hl => match us, hl with | [_], _ => rfl) (fun ds d ⟨x, T, e, _⟩ => by rw [e]; rfl) ?_
  rintro cdv A outer s H Er fm ds d ⟨x, T, rfl, t, rfl⟩ M0 H0 σ D c q
  refine b_one (k_ret c (d := .bl (isNumD x)) ?_ fun v M H c r => q v _ _ M H c r)
  cases hi : isIntD x with
  | true =>
    obtain ⟨i, rfl⟩ := isInt_of hi
    exact E.eq (w_and (w_call fm C19 (a_cons (w_nm 0 (fun _ => rfl) rfl) a_nil) ⟨_, _, rfl, t, rfl⟩) fun h1 => (w_one (w_cmp (w_nm 0 (fun _ => rfl) rfl) w_int cm_ge))) (by simp [isIntD, isNumD])
  | false =>
    refine E.eq (w_and (g' := false) (w_call fm C19 (a_cons (w_nm 0 (fun _ => rfl) rfl) a_nil) ⟨_, _, rfl, t, rfl⟩) fun h1 => by rw [hi] at h1; cases h1) ?_
    rw [hi]
    unfold isNumD
    split
    · cases hi
    · rfl
theorem isNum_of {x : D} (h : isNumD x = true) : ∃ i : Int, x = .int i ∧ 0 ≤ i := by
  unfold isNumD at h
  split at h
  · exact ⟨_, rfl, of_decide_eq_true h⟩
  · cases h
abbrev RBelow : List D → D → Prop := fun ds d => ∃ x T m, ds = [x, .int m] ∧ TyD x T ∧ d = .bl (isBelow m x)
abbrev CBelow (P : Program) (wd : World) (K : PySem.W.Frag) (mg : Str → Option Value) (base : Heap) : Prop := Cal P wd K mg base "is_below" 3 ["value", "most"] (spD RBelow)
abbrev s21 : Stmt := top 21
theorem sc21 : FnScope ["value", "most"] ["value", "most"] (defScope s21) := ⟨rfl, rfl, rfl, by decide +kernel, rfl, by decide +kernel, by decide +kernel⟩
theorem ok21 {f : Addr} {fd : FuncData} (F : Df K mg "is_below" s21 f fd) (C20 : CIs P wd K mg base "is_number" 2 isNumD) : CBelow P wd K mg base := by
  refine cal_pure F.F sc21 F.g (F.F.binds fun _ _ _ _ _ _ us hl => match us, hl with | [_, _], _ => rfl) (fun ds d ⟨x, T, m, e, _⟩ => by rw [e]; rfl) ?_
  rintro cdv A outer s H Er fm ds d ⟨x, T, m, rfl, t, rfl⟩ M0 H0 σ D c q
  refine b_one (k_ret c (d := .bl (isBelow m x)) ?_ fun v M H c r => q v _ _ M H c r)
  cases hi : isNumD x with
  | true =>
    obtain ⟨i, rfl, h0⟩ := isNum_of hi
    exact E.eq (w_and (w_call fm C20 (a_cons (w_nm 0 (fun _ => rfl) rfl) a_nil) ⟨_, _, rfl, t, rfl⟩) fun h1 => (w_one (w_cmp (w_nm 0 (fun _ => rfl) rfl) (w_nm 1 (fun _ => rfl) rfl) cm_lt))) rfl
  | false =>
    refine E.eq (w_and (g' := false) (w_call fm C20 (a_cons (w_nm 0 (fun _ => rfl) rfl) a_nil) ⟨_, _, rfl, t, rfl⟩) fun h1 => by rw [hi] at h1; cases h1) ?_
    rw [hi]
    unfold isBelow
    split
    · have : decide _ = false := hi
      rw [this]; rfl
    · rfl
abbrev RWithin : List D → D → Prop := fun ds d => ∃ x lo hi : Int, ds = [.int x, .int lo, .int hi] ∧ d = .bl (decide (lo ≤ x) && decide (x ≤ hi))
abbrev s22 : Stmt := top 22
theorem sc22 : FnScope ["value", "least", "most"] ["value", "least", "most"] (defScope s22) := ⟨rfl, rfl, rfl, by decide +kernel, rfl, by decide +kernel, by decide +kernel⟩
theorem ok22 {f : Addr} {fd : FuncData} (F : Df K mg "is_within" s22 f fd) (C19 : CIs P wd K mg base "is_integer" 1 isIntD) : Cal P wd K mg base "is_within" 2 ["value", "least", "most"] (spD RWithin) := by
  refine cal_pure F.F sc22 F.g (F.F.binds fun _ _ _ _ _ _ us hl => match us, hl with | [_, _, _], _ => rfl) (fun ds d ⟨x, lo, hi, e, _⟩ => by rw [e]; rfl) ?_
  rintro cdv A outer s H Er fm ds d ⟨x, lo, hi, rfl, rfl⟩ M0 H0 σ D c q
  exact b_one (k_ret c (E.eq (w_and (w_call fm C19 (a_cons (w_nm 0 (fun _ => rfl) rfl) a_nil) ⟨_, _, rfl, .int x, rfl⟩) fun h1 => (w_one (w_chain (w_nm 1 (fun _ => rfl) rfl) (w_nm 0 (fun _ => rfl) rfl) (w_nm 2 (fun _ => rfl) rfl) cm_le cm_le))) rfl) fun v M H c r => q v _ _ M H c r)
abbrev s23 : Stmt := top 23
theorem sc23 : FnScope ["value"] ["value"] (defScope s23) := ⟨rfl, rfl, rfl, by decide +kernel, rfl, by decide +kernel, by decide +kernel⟩
include B in
theorem ok23 {f : Addr} {fd : FuncData} (F : Df K mg "is_sequence" s23 f fd) : CIs P wd K mg base "is_sequence" 1 isSeqD := by
  refine cal_pure F.F sc23 F.g (F.F.binds fun _ _ _ _ _ _ us hl => match us, hl with | [_], _ => rfl) (fun ds d ⟨x, T, e, _⟩ => by rw [e]; rfl) ?_
  rintro cdv A outer s H Er fm ds d ⟨x, T, rfl, t, rfl⟩ M0 H0 σ D c q
  refine b_one (k_ret c (d := .bl (isSeqD x)) ?_ fun v M H c r => q v _ _ M H c r)
  cases t with
  | int i => exact w_isi2 fm B (w_nm 0 (fun _ => rfl) rfl) (w_tup (a_cons (bt_list fm B) (a_cons (bt_tuple fm B) a_nil))) (g1 := false) (g2 := false) (.int i) (by decide +kernel) (by decide +kernel) rfl
  | bl i => exact w_isi2 fm B (w_nm 0 (fun _ => rfl) rfl) (w_tup (a_cons (bt_list fm B) (a_cons (bt_tuple fm B) a_nil))) (g1 := false) (g2 := false) (.bl i) (by decide +kernel) (by decide +kernel) rfl
  | non => exact w_isi2 fm B (w_nm 0 (fun _ => rfl) rfl) (w_tup (a_cons (bt_list fm B) (a_cons (bt_tuple fm B) a_nil))) (g1 := false) (g2 := false) .non (by decide +kernel) (by decide +kernel) rfl
  | str i => exact w_isi2 fm B (w_nm 0 (fun _ => rfl) rfl) (w_tup (a_cons (bt_list fm B) (a_cons (bt_tuple fm B) a_nil))) (g1 := false) (g2 := false) (.str i) (by decide +kernel) (by decide +kernel) rfl
  | lst i => exact w_isi2 fm B (w_nm 0 (fun _ => rfl) rfl) (w_tup (a_cons (bt_list fm B) (a_cons (bt_tuple fm B) a_nil))) (g1 := true) (g2 := false) (.lst i) (by decide +kernel) (by decide +kernel) rfl
  | tup i => exact w_isi2 fm B (w_nm 0 (fun _ => rfl) rfl) (w_tup (a_cons (bt_list fm B) (a_cons (bt_tuple fm B) a_nil))) (g1 := false) (g2 := true) (.tup i) (by decide +kernel) (by decide +kernel) rfl
abbrev s24 : Stmt := top 24
theorem sc24 : FnScope ["value"] ["value"] (defScope s24) := ⟨rfl, rfl, rfl, by decide +kernel, rfl, by decide +kernel, by decide +kernel⟩
include B in
theorem ok24 {f : Addr} {fd : FuncData} (F : Df K mg "is_text" s24 f fd) : CIs P wd K mg base "is_text" 1 isTextD := by
  refine cal_pure F.F sc24 F.g (F.F.binds fun _ _ _ _ _ _ us hl => match us, hl with | [_], _ => rfl) (fun ds d ⟨x, T, e, _⟩ => by rw [e]; rfl) ?_
  rintro cdv A outer s H Er fm ds d ⟨x, T, rfl, t, rfl⟩ M0 H0 σ D c q
  refine b_one (k_ret c (d := .bl (isTextD x)) ?_ fun v M H c r => q v _ _ M H c r)
  cases t with
  | int i => exact w_isi fm B (g := false) (w_nm 0 (fun _ => rfl) rfl) (bt_str fm B) (.int i) (by decide +kernel)
  | bl i => exact w_isi fm B (g := false) (w_nm 0 (fun _ => rfl) rfl) (bt_str fm B) (.bl i) (by decide +kernel)
  | non => exact w_isi fm B (w_nm 0 (fun _ => rfl) rfl) (bt_str fm B) .non (by decide +kernel)
  | str i => exact w_isi fm B (g := true) (w_nm 0 (fun _ => rfl) rfl) (bt_str fm B) (.str i) (by decide +kernel)
  | lst i => exact w_isi fm B (g := false) (w_nm 0 (fun _ => rfl) rfl) (bt_str fm B) (.lst i) (by decide +kernel)
  | tup i => exact w_isi fm B (g := false) (w_nm 0 (fun _ => rfl) rfl) (bt_str fm B) (.tup i) (by decide +kernel)
end
end Hb
/-! Df2: machines. -/
namespace Hb
open PySem L2 Mc Ly
theorem lt1000 {n m : Nat} (h : n = m) (hm : m < 1000 := by decide) : n < 1000 := h ▸ hm
theorem qL {ds : List D} : SqD (.lst ds) ds := .lst ds
theorem qT {ds : List D} : SqD (.tup ds) ds := .tup ds
/-- what a target of two, of three names does -/
def f1 (i : Nat) (d : D) (ρ : Ev) : Ev := ρ.set i (some d)
def f2 (i j : Nat) : D → Ev → Ev
  | .tup [a, b], ρ => (ρ.set i (some a)).set j (some b)
  | _, ρ => ρ
def f3 (i j k : Nat) : D → Ev → Ev
  | .tup [a, b, c], ρ => ((ρ.set i (some a)).set j (some b)).set k (some c)
  | _, ρ => ρ
theorem getD_of {α : Type} {l : List α} {i : Nat} {x d : α} (h : l[i]? = some x) : l.getD i d = x := by simp [List.getD, h]
theorem lt_of_get {α : Type} {l : List α} {i : Nat} {x : α} (h : l[i]? = some x) : i < l.length := (List.getElem?_eq_some_iff.mp h).1
theorem tL_get {l : List (List Nat)} {i : Nat} {x : D} (h : (tL l)[i]? = some x) : ∃ r, l[i]? = some r ∧ x = .lst (nD r) := by
  unfold tL at h
  rw [List.getElem?_map, Option.map_eq_some_iff] at h
  obtain ⟨n, h1, h2⟩ := h
  exact ⟨n, h1, h2.symm⟩
theorem tT_get {l : List (List Nat)} {i : Nat} {x : D} (h : (tT l)[i]? = some x) : ∃ r, l[i]? = some r ∧ x = .tup (nD r) := by
  unfold tT at h
  rw [List.getElem?_map, Option.map_eq_some_iff] at h
  obtain ⟨n, h1, h2⟩ := h
  exact ⟨n, h1, h2.symm⟩
theorem below_of {x m : Nat} (h : x < m) : isBelow (m : Int) (.int (x : Int)) = true := by
  show (decide ((0 : Int) ≤ (x : Int)) && decide ((x : Int) < (m : Int))) = true
  rw [decide_eq_true (show (0 : Int) ≤ x by omega), decide_eq_true (show (x : Int) < m by omega)]
  rfl
section
variable {P : Program} {wd : World} {K : PySem.W.Frag} {mg : Str → Option Value} {base : Heap} (B : Blt mg) (G : Gc mg)
abbrev RTable : List D → D → Prop := fun ds d => ∃ (r : List Nat) (n : Nat), ds = [.lst (nD r), .int n] ∧ r.length = n ∧ (∀ x ∈ r, x < n) ∧ n ≤ 100 ∧ d = .bl true
abbrev s26 : Stmt := top 26
theorem sc26 : FnScope ["value", "states", "state"] ["value", "states"] (defScope s26) := ⟨rfl, rfl, rfl, by decide +kernel, rfl, by decide +kernel, by decide +kernel⟩
include B in
theorem ok26 {f : Addr} {fd : FuncData} (F : Df K mg "is_table" s26 f fd) (C23 : CIs P wd K mg base "is_sequence" 1 isSeqD) (C21 : CBelow P wd K mg base) : Cal P wd K mg base "is_table" 4 ["value", "states"] (spD RTable) := by
  refine cal_pure F.F sc26 F.g (F.F.binds fun _ _ _ _ _ _ us hl => match us, hl with | [_, _], _ => rfl) (fun ds d ⟨x, n, e, _⟩ => by rw [e]; rfl) ?_
  rintro cdv A outer s H Er fm ds d ⟨r, n, rfl, hl, hx, h100, rfl⟩ M0 H0 σ D c q
  refine b_one (k_ret c (E.eq (w_and (w_call fm C23 (a_cons (w_nm 0 (fun _ => rfl) rfl) a_nil) ⟨_, _, rfl, .lst _, rfl⟩) fun h2 => (w_and (w_cmp (w_len fm B (w_nm 0 (fun _ => rfl) rfl) qL) (w_nm 1 (fun _ => rfl) rfl) cm_eqS) fun h1 =>
    (w_one (w_all fm B (bs := r.map fun _ => true) (EN.e (n_lc fm [("state", 2)] (blkOk_by (sc := defScope s26) (by decide +kernel)) (fun _ => rfl) (fun _ => true) (fun _ => .bl true) (f1 2) (i_sq fm (w_nm 0 (fun _ => rfl) rfl) qL) (by rw [nD_len]; omega)
      (fun i d h => (cw_name (Fam.blk fm) 2 (fun _ => rfl) (by decide))) (fun i d h => ts_nil) (fun i d h hq => ?_))) ?_)))) ?_) fun v M H c r => q v _ _ M H c r)
  · obtain ⟨x, h1, rfl⟩ := nD_get h
    refine E.eq (w_call (Fam.blk fm) C21 (a_cons (w_nm 2 (fun _ => rfl) rfl) (a_cons (w_nm 1 (fun _ => rfl) rfl) a_nil)) ⟨_, _, _, rfl, .int _, rfl⟩) ?_
    rw [below_of (hx x (List.mem_of_getElem? h1))]
  · rw [keep_all]
    unfold nD
    rw [List.map_map]; rw [List.map_map]
    rfl
  · rw [nD_len, hl]
    simp [isSeqD]
theorem RgOk {n : Nat} (h1 : 1 ≤ n) (h8 : n ≤ 8) : (decide ((1 : Int) ≤ (n : Int)) && decide ((n : Int) ≤ 8)) = true := by
  rw [decide_eq_true (by omega), decide_eq_true (by omega)]; rfl
abbrev s27 : Stmt := top 27
theorem sc27 : FnScope ["value", "states", "at", "table"] ["value"] (defScope s27) := ⟨rfl, rfl, rfl, by decide +kernel, rfl, by decide +kernel, by decide +kernel⟩
abbrev RTables : List D → D → Prop := fun ds d => ∃ (t : List (List Nat)) (n : Nat), ds = [.lst (tL t)] ∧ MOk t n ∧ d = .tup (tT t)
include B G in
theorem ok27 {f : Addr} {fd : FuncData} (F : Df K mg "check_tables" s27 f fd) (C23 : CIs P wd K mg base "is_sequence" 1 isSeqD) (C26 : Cal P wd K mg base "is_table" 4 ["value", "states"] (spD RTable)) : Cal P wd K mg base "check_tables" 5 ["value"] (spD RTables) := by
  refine cal_pure F.F sc27 F.g (F.F.binds fun _ _ _ _ _ _ us hl => match us, hl with | [_], _ => rfl) (fun ds d ⟨t, n, e, _⟩ => by rw [e]; rfl) ?_
  rintro cdv A outer s H Er fm ds d ⟨t, n, rfl, ok, rfl⟩ M0 H0 σ D c q
  have hd1 := ok.d1
  have hd8 := ok.d8
  have h0 : (t.getD 0 []).length = n := (ok.at_ hd1).1
  -- if not is_sequence(value) or not 1 <= len(value) <= MOST_DEEDS:
  refine b_cons (k_if c (t_pw (v_or (t_not (t_val (w_call fm C23 (a_cons (w_nm 0 (fun _ => rfl) rfl) a_nil) ⟨_, _, rfl, .lst _, rfl⟩))) fun h1 => (v_or1 (t_not (t_chain w_int (w_len fm B (w_nm 0 (fun _ => rfl) rfl) qL) (w_g fm G.MOST_DEEDS) cm_le cm_le))))) (fun h M H c => ?_) fun h M H c => ?_)
  · exfalso
    rw [tL_len, RgOk hd1 hd8] at h
    simp [isSeqD] at h
  refine b_nil ?_
  -- states = len(value[0]) if is_sequence(value[0]) else 0
  have e0 : atI (tL t) (0 : Int) = some (.lst (nD (t.getD 0 []))) := atI_of 0 (tL_at hd1)
  refine b_cons (k_set fm 1 c (w_if (t_val (w_call fm C23 (a_cons (w_ix fm (w_nm 0 (fun _ => rfl) rfl) w_int qL e0) a_nil) ⟨_, _, rfl, .lst _, rfl⟩)) (fun h => (w_len fm B (w_ix fm (w_nm 0 (fun _ => rfl) rfl) w_int qL e0) qL)) fun h => by cases h) (fun _ => rfl) fun σ M H c => ?_)
  rw [nD_len, h0] at c
  have hn1 := ok.n1
  have hn12 := ok.n12
  -- for at, table in enumerate(value):
  refine b_cons (k_forB fm (fun _ (_ : Unit) => True) (fun _ => []) (fun _ => [some (.lst (tL t)), some (.int n), none, none]) () (f2 2 3) c (i_en fm B (w_nm 0 (fun _ => rfl) rfl) qL) trivial rfl (fun _ _ _ σ M H c => c) (fun i d h => by
    obtain ⟨x, hx, rfl⟩ := enD_get h
    exact (g_tup fm (g_cons fm 2 (fun _ => rfl) (g_cons fm 3 (fun _ => rfl) g_nil)))) (fun M1 H1 lf i d x σ M H hi hP c D1 e1 e2 kn => ?_) (fun x σ M H hP c => ?_) (fun _ => passes_of rfl))
  · obtain ⟨y, hy, rfl⟩ := enD_get hi
    obtain ⟨r, hr, rfl⟩ := tL_get hy
    obtain ⟨hr1, hr2⟩ := ok.row r (List.mem_of_getElem? hr)
    -- if not 1 <= states <= MOST_STATES or not is_table(table, states):
    refine b_one (k_if c (t_pw (v_or (t_not (t_chain w_int (w_nm 1 (fun _ => rfl) rfl) (w_g fm G.MOST_STATES) cm_le cm_le)) fun h2 => (v_or1 (t_not (t_val (w_call fm C26 (a_cons (w_nm 3 (fun _ => rfl) rfl) (a_cons (w_nm 1 (fun _ => rfl) rfl) a_nil)) ⟨r, n, rfl, hr1, hr2, by omega, rfl⟩)))))) (fun h M H c => ?_) fun h M H c => ?_)
    · exfalso
      rw [decide_eq_true (show (1 : Int) ≤ n by omega), decide_eq_true (show (n : Int) ≤ 12 by omega)] at h
      cases h
    · exact b_nil (kn () _ _ _ trivial ((c.forget 2).forget 3))
  -- return tuple([tuple(table) for table in value])
  refine b_one (k_ret c (E.eq (w_tuple fm B (EN.e (n_lc fm [("table", 3)] (blkOk_by (sc := defScope s27) (by decide +kernel)) (fun _ => rfl) (fun _ => true) (fun d => match d with | .lst r => .tup r | x => x) (f1 3) (i_sq fm (w_nm 0 (fun _ => rfl) rfl) qL) (by rw [tL_len]; omega) (fun i d h => (cw_name (Fam.blk fm) 3 (fun _ => rfl) (by decide))) (fun i d h => ts_nil) (fun i d h hq => by
    obtain ⟨r, hr, rfl⟩ := tL_get h
    exact (w_tuple (Fam.blk fm) B (w_nm 3 (fun _ => rfl) rfl) qL)))) qL) ?_) fun v M H c r => q v _ _ M H c r)
  rw [keep_all]
  unfold tL tT
  rw [List.map_map]
  rfl
/-- the class of machines -/
structure MK (K : PySem.W.Frag) (mg : Str → Option Value) (Cm : Addr) : Prop where
  kl : Kls K mg "Machine" Cm
  tables : NoAttr K Cm "tables"
  deeds : NoAttr K Cm "deeds"
  states : NoAttr K Cm "states"
def machD (Cm : Addr) (t : List (List Nat)) (n : Nat) : D := .ins Cm [("tables", .tup (tT t)), ("deeds", .int t.length), ("states", .int n)]
variable {Cm : Addr} (T : MK K mg Cm)
abbrev s28 : Stmt := inClass (top 28) 0
theorem sc28 : FnScope ["self", "tables"] ["self", "tables"] (defScope s28) := ⟨rfl, rfl, rfl, by decide +kernel, rfl, by decide +kernel, by decide +kernel⟩
abbrev RMach (Cm : Addr) : List D → Own → D → Own → Prop := fun ds o d o' => ∃ (t : List (List Nat)) (n : Nat) (a : Addr), ds = [.ref a, .lst (tL t)] ∧ o = [(a, .ins Cm [])] ∧ MOk t n ∧ d = .non ∧ o' = [(a, .ins Cm [("tables", .tup (tT t)), ("deeds", .int t.length), ("states", .int n)])]
include B T in
theorem ok28 {f : Addr} {fd : FuncData} (F : Fun K "__init__" "Machine.__init__" s28 f fd) (C27 : Cal P wd K mg base "check_tables" 5 ["value"] (spD RTables)) : FnOk P wd K mg base (L2.CX P wd) 6 f fd ["self", "tables"] (spO (RMach Cm)) := by
  refine fn_own F sc28 (fun ds o d o' ⟨t, n, a, e, _⟩ => by rw [e]; rfl) ?_
  rintro cdv A outer s H Er fm ds own d own' ⟨t, n, a, rfl, rfl, ok, rfl, rfl⟩ M0 H0 σ D c q hn
  have hd1 := ok.d1
  have h0 : (t.getD 0 []).length = n := (ok.at_ hd1).1
  have e0 : atI (tT t) (0 : Int) = some (.tup (nD (t.getD 0 []))) := atI_of 0 (tT_at hd1)
  refine b_cons (k_fld fm (kk := 0) c (w_call fm C27 (a_cons (w_nm 1 (fun _ => rfl) rfl) a_nil) ⟨t, n, rfl, ok, rfl⟩) (w_nm 0 (fun _ => rfl) rfl) rfl T.kl.cl T.tables (lt1000 (m := 0) rfl) fun M H c => ?_)
  refine b_cons (k_fld fm (kk := 0) c (w_len fm B (w_fldO fm (kk := 0) (w_nm 0 (fun _ => rfl) rfl) rfl T.kl.cl T.tables rfl) qT) (w_nm 0 (fun _ => rfl) rfl) rfl T.kl.cl T.deeds (lt1000 (m := 1) rfl) fun M H c => ?_)
  refine b_cons (k_fld fm (kk := 0) c (w_len fm B (w_ix fm (w_fldO fm (kk := 0) (w_nm 0 (fun _ => rfl) rfl) rfl T.kl.cl T.tables rfl) w_int qT e0) qT) (w_nm 0 (fun _ => rfl) rfl) rfl T.kl.cl T.states (lt1000 (m := 2) rfl) fun M H c => ?_)
  rw [nD_len, h0, tT_len] at c
  exact b_nil ((hn _ _).mpr (q .non _ _ M H c (.raw _)))
abbrev s29 : Stmt := top 29
theorem sc29 : FnScope ["machine", "state"] ["machine", "state"] (defScope s29) := ⟨rfl, rfl, rfl, by decide +kernel, rfl, by decide +kernel, by decide +kernel⟩
abbrev RNeed (Cm : Addr) : List D → D → Prop := fun ds d => ∃ t n x, ds = [machD Cm t n, .int (x : Nat)] ∧ x < n ∧ d = .int (x : Nat)
include T in
theorem ok29 {f : Addr} {fd : FuncData} (F : Df K mg "need_state" s29 f fd) (C21 : CBelow P wd K mg base) : Cal P wd K mg base "need_state" 4 ["machine", "state"] (spD (RNeed Cm)) := by
  refine cal_pure F.F sc29 F.g (F.F.binds fun _ _ _ _ _ _ us hl => match us, hl with | [_, _], _ => rfl) (fun ds d ⟨_, _, _, e, _⟩ => by rw [e]; rfl) ?_
  rintro cdv A outer s H Er fm ds d ⟨t, n, x, rfl, hx, rfl⟩ M0 H0 σ D c q
  refine b_cons (k_if c (t_not (t_val (w_call fm C21 (a_cons (w_nm 1 (fun _ => rfl) rfl) (a_cons (w_fld fm (w_nm 0 (fun _ => rfl) rfl) T.kl.cl T.states rfl) a_nil)) ⟨_, _, _, rfl, .int _, rfl⟩))) (fun h M H c => ?_) fun h M H c => ?_)
  · exfalso
    rw [below_of hx] at h
    cases h
  refine b_nil ?_
  exact b_one (k_ret c (w_nm 1 (fun _ => rfl) rfl) fun v M H c r => q v _ _ M H c r)
abbrev s30 : Stmt := top 30
theorem sc30 : FnScope ["machine", "deed"] ["machine", "deed"] (defScope s30) := ⟨rfl, rfl, rfl, by decide +kernel, rfl, by decide +kernel, by decide +kernel⟩
abbrev RNeedD (Cm : Addr) : List D → D → Prop := fun ds d => ∃ t n x, ds = [machD Cm t n, .int (x : Nat)] ∧ x < t.length ∧ d = .int (x : Nat)
include T in
theorem ok30 {f : Addr} {fd : FuncData} (F : Df K mg "need_deed" s30 f fd) (C21 : CBelow P wd K mg base) : Cal P wd K mg base "need_deed" 4 ["machine", "deed"] (spD (RNeedD Cm)) := by
  refine cal_pure F.F sc30 F.g (F.F.binds fun _ _ _ _ _ _ us hl => match us, hl with | [_, _], _ => rfl) (fun ds d ⟨_, _, _, e, _⟩ => by rw [e]; rfl) ?_
  rintro cdv A outer s H Er fm ds d ⟨t, n, x, rfl, hx, rfl⟩ M0 H0 σ D c q
  refine b_cons (k_if c (t_not (t_val (w_call fm C21 (a_cons (w_nm 1 (fun _ => rfl) rfl) (a_cons (w_fld fm (w_nm 0 (fun _ => rfl) rfl) T.kl.cl T.deeds rfl) a_nil)) ⟨_, _, _, rfl, .int _, rfl⟩))) (fun h M H c => ?_) fun h M H c => ?_)
  · exfalso
    rw [below_of hx] at h
    cases h
  refine b_nil ?_
  exact b_one (k_ret c (w_nm 1 (fun _ => rfl) rfl) fun v M H c r => q v _ _ M H c r)
abbrev s31 : Stmt := top 31
theorem sc31 : FnScope ["machine", "value", "at", "deed"] ["machine", "value"] (defScope s31) := ⟨rfl, rfl, rfl, by decide +kernel, rfl, by decide +kernel, by decide +kernel⟩
abbrev RRow (Cm : Addr) : List D → D → Prop := fun ds d => ∃ t n row, ds = [machD Cm t n, .tup (nD row)] ∧ (∀ x ∈ row, x < t.length) ∧ row.length ≤ 1000 ∧ d = .tup (nD row)
include B G T in
theorem ok31 {f : Addr} {fd : FuncData} (F : Df K mg "check_row" s31 f fd) (C23 : CIs P wd K mg base "is_sequence" 1 isSeqD) (C21 : CBelow P wd K mg base) : Cal P wd K mg base "check_row" 4 ["machine", "value"] (spD (RRow Cm)) := by
  refine cal_pure F.F sc31 F.g (F.F.binds fun _ _ _ _ _ _ us hl => match us, hl with | [_, _], _ => rfl) (fun ds d ⟨_, _, _, e, _⟩ => by rw [e]; rfl) ?_
  rintro cdv A outer s H Er fm ds d ⟨t, n, row, rfl, hrow, hlen, rfl⟩ M0 H0 σ D c q
  refine b_cons (k_if c (t_pw (v_or (t_not (t_val (w_call fm C23 (a_cons (w_nm 1 (fun _ => rfl) rfl) a_nil) ⟨_, _, rfl, .tup _, rfl⟩))) fun h1 => (v_or1 (t_cmp (w_len fm B (w_nm 1 (fun _ => rfl) rfl) qT) (w_g fm G.MOST_ROW) cm_gt)))) (fun h M H c => ?_) fun h M H c => ?_)
  · exfalso
    rw [nD_len, decide_eq_false (show ¬ (10000 : Int) < row.length by omega)] at h
    cases h
  refine b_nil ?_
  refine b_cons (k_forB fm (fun _ (_ : Unit) => True) (fun _ => []) (fun _ => [some (machD Cm t n), some (.tup (nD row)), none, none]) () (f2 2 3) c (i_en fm B (w_nm 1 (fun _ => rfl) rfl) qT) trivial rfl (fun _ _ _ σ M H c => c) (fun i d h => by
    obtain ⟨x, hx, rfl⟩ := enD_get h
    exact (g_tup fm (g_cons fm 2 (fun _ => rfl) (g_cons fm 3 (fun _ => rfl) g_nil)))) (fun M1 H1 lf i d x σ M H hi hP c D1 e1 e2 kn => ?_) (fun x σ M H hP c => ?_) (fun _ => passes_of rfl))
  · obtain ⟨y, hy, rfl⟩ := enD_get hi
    obtain ⟨r, hr, rfl⟩ := nD_get hy
    refine b_one (k_if c (t_not (t_val (w_call fm C21 (a_cons (w_nm 3 (fun _ => rfl) rfl) (a_cons (w_fld fm (w_nm 0 (fun _ => rfl) rfl) T.kl.cl T.deeds rfl) a_nil)) ⟨_, _, _, rfl, .int _, rfl⟩))) (fun h M H c => ?_) fun h M H c => ?_)
    · exfalso
      rw [below_of (hrow r (List.mem_of_getElem? hr))] at h
      cases h
    · exact b_nil (kn () _ _ _ trivial ((c.forget 2).forget 3))
  exact b_one (k_ret c (w_tuple fm B (w_nm 1 (fun _ => rfl) rfl) qT) fun v M H c r => q v _ _ M H c r)
abbrev s32 : Stmt := top 32
theorem sc32 : FnScope ["tables", "state", "row", "deed"] ["tables", "state", "row"] (defScope s32) := ⟨rfl, rfl, rfl, by decide +kernel, rfl, by decide +kernel, by decide +kernel⟩
abbrev RRun : List D → D → Prop := fun ds d => ∃ t n s row x, ds = [.tup (tT t), .int (s : Nat), x] ∧ SqD x (nD row) ∧ MOk t n ∧ s < n ∧ (∀ x ∈ row, x < t.length) ∧ d = .int (run t s row : Nat)
theorem ok32 {f : Addr} {fd : FuncData} (F : Df K mg "run_on" s32 f fd) : Cal P wd K mg base "run_on" 1 ["tables", "state", "row"] (spD RRun) := by
  refine cal_pure F.F sc32 F.g (F.F.binds fun _ _ _ _ _ _ us hl => match us, hl with | [_, _, _], _ => rfl) (fun ds d ⟨_, _, _, _, _, e, _⟩ => by rw [e]; rfl) ?_
  rintro cdv A outer s H Er fm ds d ⟨t, n, s, row, y, rfl, sq, ok, hs, hrow, rfl⟩ M0 H0 σ D c q
  refine b_cons (k_forB fm (fun i (x : Nat) => x = run t s (row.take i)) (fun _ => []) (fun x => [some (.tup (tT t)), some (.int (x : Nat)), some y, none]) s (f1 3) c (i_sq fm (w_nm 2 (fun _ => rfl) rfl) sq) rfl rfl (fun _ _ _ σ M H c => c) (fun i d h => (g_name fm 3 (fun _ => rfl))) (fun M1 H1 lf i d x σ M H hi hP c D1 e1 e2 kn => ?_) (fun x σ M H hP c => ?_) (fun _ => passes_of rfl))
  · obtain ⟨r, hr, rfl⟩ := nD_get hi
    have hrl : r < t.length := hrow r (List.mem_of_getElem? hr)
    have hx : x < n := by rw [hP]; exact ok.run (fun z hz => hrow z (List.mem_of_mem_take hz)) hs
    refine b_one (k_set fm 1 c (w_ix fm (w_ix fm (w_nm 0 (fun _ => rfl) rfl) (w_nm 3 (fun _ => rfl) rfl) qT (atI_of r (tT_at hrl))) (w_nm 1 (fun _ => rfl) rfl) qT (atI_of x (nD_at (by rw [(ok.at_ hrl).1]; exact hx)))) (fun _ => rfl) fun σ M H c => ?_)
    exact kn (step t x r) _ _ _ (by rw [hP, run_more hr]) (c.forget 3)
  rw [nD_len, List.take_length] at hP
  subst hP
  exact b_one (k_ret c (w_nm 1 (fun _ => rfl) rfl) fun v M H c r => q v _ _ M H c r)
end
end Hb
/-! Df3: webs, steps. -/
namespace Hb
open PySem L2 Mc Ly
abbrev Tie := Nat × Nat
def pT (ts : List Tie) : List D := ts.map fun p : Tie => .tup [.int (p.1 : Int), .int (p.2 : Int)]
def pL (ts : List Tie) : List D := ts.map fun p : Tie => .lst [.int (p.1 : Int), .int (p.2 : Int)]
theorem pT_len {l : List Tie} : (pT l).length = l.length := by unfold pT; rw [List.length_map]
theorem pL_len {l : List Tie} : (pL l).length = l.length := by unfold pL; rw [List.length_map]
theorem pL_get {l : List Tie} {i : Nat} {x : D} (h : (pL l)[i]? = some x) : ∃ p, l[i]? = some p ∧ x = .lst [.int (p.1 : Int), .int (p.2 : Int)] := by
  unfold pL at h
  rw [List.getElem?_map, Option.map_eq_some_iff] at h
  obtain ⟨n, h1, h2⟩ := h
  exact ⟨n, h1, h2.symm⟩
theorem pT_get {l : List Tie} {i : Nat} {x : D} (h : (pT l)[i]? = some x) : ∃ p, l[i]? = some p ∧ x = .tup [.int (p.1 : Int), .int (p.2 : Int)] := by
  unfold pT at h
  rw [List.getElem?_map, Option.map_eq_some_iff] at h
  obtain ⟨n, h1, h2⟩ := h
  exact ⟨n, h1, h2.symm⟩
theorem pT_at {l : List Tie} {i : Nat} {p : Tie} (h : l[i]? = some p) : (pT l)[i]? = some (.tup [.int (p.1 : Int), .int (p.2 : Int)]) := by unfold pT; rw [List.getElem?_map, h]; rfl
theorem pL_at {l : List Tie} {i : Nat} {p : Tie} (h : l[i]? = some p) : (pL l)[i]? = some (.lst [.int (p.1 : Int), .int (p.2 : Int)]) := by unfold pL; rw [List.getElem?_map, h]; rfl
structure WOk (h : Nat) (ts : List Tie) : Prop where
  h1 : 1 ≤ h
  h12 : h ≤ 12
  t20 : ts.length ≤ 20
  tie : ∀ p ∈ ts, p.1 < h ∧ p.2 < h ∧ p.1 ≠ p.2
/-- a step: a deed at a house, a meeting over a tie -/
inductive Stp where
  | act (h d : Nat)
  | meet (t : Nat)
def stD : Stp → List D
  | .act h d => [.str "do", .int (h : Int), .int (d : Int)]
  | .meet t => [.str "meet", .int (t : Int)]
def stT (s : Stp) : D := .tup (stD s)
def sok (h m k : Nat) : Stp → Bool
  | .act a d => decide (a < h) && decide (d < k)
  | .meet t => decide (t < m)
theorem bel {x m : Nat} : isBelow (m : Int) (.int (x : Int)) = decide (x < m) := by
  show (decide ((0 : Int) ≤ (x : Int)) && decide ((x : Int) < (m : Int))) = _
  rw [decide_eq_true (show (0 : Int) ≤ x by omega), Bool.true_and]
  refine decide_eq_decide.mpr (by omega)
section
variable {P : Program} {wd : World} {K : PySem.W.Frag} {mg : Str → Option Value} {base : Heap} (B : Blt mg) (G : Gc mg)
abbrev RPair : List D → D → Prop := fun ds d => ∃ a b n : Nat, ds = [.lst [.int (a : Int), .int (b : Int)], .int (n : Int)] ∧ a < n ∧ b < n ∧ a ≠ b ∧ d = .bl true
abbrev s38 : Stmt := top 38
theorem sc38 : FnScope ["value", "houses", "house"] ["value", "houses"] (defScope s38) := ⟨rfl, rfl, rfl, by decide +kernel, rfl, by decide +kernel, by decide +kernel⟩
include B in
theorem ok38 {f : Addr} {fd : FuncData} (F : Df K mg "is_pair" s38 f fd) (C23 : CIs P wd K mg base "is_sequence" 1 isSeqD) (C21 : CBelow P wd K mg base) : Cal P wd K mg base "is_pair" 4 ["value", "houses"] (spD RPair) := by
  refine cal_pure F.F sc38 F.g (F.F.binds fun _ _ _ _ _ _ us hl => match us, hl with | [_, _], _ => rfl) (fun ds d ⟨_, _, _, e, _⟩ => by rw [e]; rfl) ?_
  rintro cdv A outer s H Er fm ds d ⟨a, b, n, rfl, ha, hb, hab, rfl⟩ M0 H0 σ D c q
  -- if not is_sequence(value) or len(value) != 2 or (not all([is_below(house, houses) for house in value])):
  refine b_cons (k_if c (t_pw (v_or (t_not (t_val (w_call fm C23 (a_cons (w_nm 0 (fun _ => rfl) rfl) a_nil) ⟨_, _, rfl, .lst _, rfl⟩))) fun h2 => (v_or (t_cmp (w_len fm B (w_nm 0 (fun _ => rfl) rfl) qL) w_int cm_neS) fun h1 => (v_or1 (t_not (t_val (w_all fm B (bs := [true, true]) (EN.e (n_lc fm [("house", 2)] (blkOk_by (sc := defScope s38) (by decide +kernel)) (fun _ => rfl) (fun _ => true) (fun _ => .bl true) (f1 2) (i_sq fm (w_nm 0 (fun _ => rfl) rfl) qL) (show 2 ≤ 100000 by decide) (fun i d h => (cw_name (Fam.blk fm) 2 (fun _ => rfl) (by decide))) (fun i d h => ts_nil) (fun i d h hq => ?_))) rfl))))))) (fun h M H c => ?_) fun h M H c => ?_)
  · obtain ⟨x, hx, rfl⟩ : ∃ x : Nat, x < n ∧ d = .int (x : Int) := by
      rcases i with _ | _ | i
      · exact ⟨a, ha, by simpa using h.symm⟩
      · exact ⟨b, hb, by simpa using h.symm⟩
      · simp at h
    exact E.eq (w_call (Fam.blk fm) C21 (a_cons (w_nm 2 (fun _ => rfl) rfl) (a_cons (w_nm 1 (fun _ => rfl) rfl) a_nil)) ⟨_, _, _, rfl, .int _, rfl⟩) (by rw [below_of hx])
  · cases h
  refine b_nil ?_
  -- return value[0] != value[1]
  refine b_one (k_ret c (E.eq (w_cmp (w_ix fm (w_nm 0 (fun _ => rfl) rfl) w_int qL rfl) (w_ix fm (w_nm 0 (fun _ => rfl) rfl) w_int qL rfl) cm_neS) ?_) fun v M H c r => q v _ _ M H c r)
  rw [decide_eq_false]
  · rfl
  · intro z
    have : (a : Int) = b := V.int.inj z
    exact hab (by omega)
abbrev RTies : List D → D → Prop := fun ds d => ∃ (h : Nat) (ts : List Tie), ds = [.int (h : Int), .lst (pL ts)] ∧ WOk h ts ∧ d = .tup (pT ts)
abbrev s39 : Stmt := top 39
theorem sc39 : FnScope ["houses", "ties", "at", "tie"] ["houses", "ties"] (defScope s39) := ⟨rfl, rfl, rfl, by decide +kernel, rfl, by decide +kernel, by decide +kernel⟩
include B G in
theorem ok39 {f : Addr} {fd : FuncData} (F : Df K mg "check_ties" s39 f fd) (C22 : Cal P wd K mg base "is_within" 2 ["value", "least", "most"] (spD RWithin)) (C23 : CIs P wd K mg base "is_sequence" 1 isSeqD) (C38 : Cal P wd K mg base "is_pair" 4 ["value", "houses"] (spD RPair)) : Cal P wd K mg base "check_ties" 5 ["houses", "ties"] (spD RTies) := by
  refine cal_pure F.F sc39 F.g (F.F.binds fun _ _ _ _ _ _ us hl => match us, hl with | [_, _], _ => rfl) (fun ds d ⟨_, _, e, _⟩ => by rw [e]; rfl) ?_
  rintro cdv A outer s H Er fm ds d ⟨hh, ts, rfl, ok, rfl⟩ M0 H0 σ D c q
  have k1 := ok.h1
  have k2 := ok.h12
  have k3 := ok.t20
  refine b_cons (k_if c (t_pw (v_or (t_not (t_val (w_call fm C22 (a_cons (w_nm 0 (fun _ => rfl) rfl) (a_cons w_int (a_cons (w_g fm G.MOST_HOUSES) a_nil))) ⟨_, _, _, rfl, rfl⟩))) fun h2 => (v_or (t_not (t_val (w_call fm C23 (a_cons (w_nm 1 (fun _ => rfl) rfl) a_nil) ⟨_, _, rfl, .lst _, rfl⟩))) fun h1 => (v_or1 (t_cmp (w_len fm B (w_nm 1 (fun _ => rfl) rfl) qL) (w_g fm G.MOST_TIES) cm_gt))))) (fun h M H c => ?_) fun h M H c => ?_)
  · exfalso
    rw [decide_eq_true (show (1 : Int) ≤ hh by omega), decide_eq_true (show (hh : Int) ≤ 12 by omega), pL_len, decide_eq_false (show ¬ (20 : Int) < ts.length by omega)] at h
    cases h
  refine b_nil ?_
  refine b_cons (k_forB fm (fun _ (_ : Unit) => True) (fun _ => []) (fun _ => [some (.int _), some (.lst (pL ts)), none, none]) () (f2 2 3) c (i_en fm B (w_nm 1 (fun _ => rfl) rfl) qL) trivial rfl (fun _ _ _ σ M H c => c) (fun i d h => by
    obtain ⟨x, hx, rfl⟩ := enD_get h
    exact (g_tup fm (g_cons fm 2 (fun _ => rfl) (g_cons fm 3 (fun _ => rfl) g_nil)))) (fun M1 H1 lf i d x σ M H hi hP c D1 e1 e2 kn => ?_) (fun x σ M H hP c => ?_) (fun _ => passes_of rfl))
  · obtain ⟨y, hy, rfl⟩ := enD_get hi
    obtain ⟨⟨a, b⟩, hp, rfl⟩ := pL_get hy
    obtain ⟨h1, h2, h3⟩ := ok.tie _ (List.mem_of_getElem? hp)
    refine b_one (k_if c (t_not (t_val (w_call fm C38 (a_cons (w_nm 3 (fun _ => rfl) rfl) (a_cons (w_nm 0 (fun _ => rfl) rfl) a_nil)) ⟨a, b, _, rfl, h1, h2, h3, rfl⟩))) (fun h M H c => ?_) fun h M H c => ?_)
    · cases h
    · exact b_nil (kn () _ _ _ trivial ((c.forget 2).forget 3))
  refine b_one (k_ret c (E.eq (w_tuple fm B (EN.e (n_lc fm [("tie", 3)] (blkOk_by (sc := defScope s39) (by decide +kernel)) (fun _ => rfl) (fun _ => true) (fun d => match d with | .lst r => .tup r | x => x) (f1 3) (i_sq fm (w_nm 1 (fun _ => rfl) rfl) qL) (by rw [pL_len]; omega) (fun i d h => (cw_name (Fam.blk fm) 3 (fun _ => rfl) (by decide))) (fun i d h => ts_nil) (fun i d h hq => by
    obtain ⟨r, hr, rfl⟩ := pL_get h
    exact (w_tuple (Fam.blk fm) B (w_nm 3 (fun _ => rfl) rfl) qL)))) qL) ?_) fun v M H c r => q v _ _ M H c r)
  rw [keep_all]
  unfold pL pT
  rw [List.map_map]
  rfl
/-- the class of webs -/
structure WK (K : PySem.W.Frag) (mg : Str → Option Value) (Cw : Addr) : Prop where
  kl : Kls K mg "Web" Cw
  ties : NoAttr K Cw "ties"
  houses : NoAttr K Cw "houses"
def webD (Cw : Addr) (h : Nat) (ts : List Tie) : D := .ins Cw [("ties", .tup (pT ts)), ("houses", .int (h : Int))]
variable {Cw : Addr} (W : WK K mg Cw)
abbrev s40 : Stmt := inClass (top 40) 0
theorem sc40 : FnScope ["self", "houses", "ties"] ["self", "houses", "ties"] (defScope s40) := ⟨rfl, rfl, rfl, by decide +kernel, rfl, by decide +kernel, by decide +kernel⟩
abbrev RWeb (Cw : Addr) : List D → Own → D → Own → Prop := fun ds o d o' => ∃ (h : Nat) (ts : List Tie) (a : Addr), ds = [.ref a, .int (h : Int), .lst (pL ts)] ∧ o = [(a, .ins Cw [])] ∧ WOk h ts ∧ d = .non ∧ o' = [(a, .ins Cw [("ties", .tup (pT ts)), ("houses", .int (h : Int))])]
include W in
theorem ok40 {f : Addr} {fd : FuncData} (F : Fun K "__init__" "Web.__init__" s40 f fd) (C39 : Cal P wd K mg base "check_ties" 5 ["houses", "ties"] (spD RTies)) : FnOk P wd K mg base (L2.CX P wd) 6 f fd ["self", "houses", "ties"] (spO (RWeb Cw)) := by
  refine fn_own F sc40 (fun ds o d o' ⟨t, n, a, e, _⟩ => by rw [e]; rfl) ?_
  rintro cdv A outer s H Er fm ds own d own' ⟨h, ts, a, rfl, rfl, ok, rfl, rfl⟩ M0 H0 σ D c q hn
  refine b_cons (k_fld fm (kk := 0) c (w_call fm C39 (a_cons (w_nm 1 (fun _ => rfl) rfl) (a_cons (w_nm 2 (fun _ => rfl) rfl) a_nil)) ⟨h, ts, rfl, ok, rfl⟩) (w_nm 0 (fun _ => rfl) rfl) rfl W.kl.cl W.ties (lt1000 (m := 0) rfl) fun M H c => ?_)
  refine b_cons (k_fld fm (kk := 0) c (w_nm 1 (fun _ => rfl) rfl) (w_nm 0 (fun _ => rfl) rfl) rfl W.kl.cl W.houses (lt1000 (m := 1) rfl) fun M H c => ?_)
  exact b_nil ((hn _ _).mpr (q .non _ _ M H c (.raw _)))
abbrev s41 : Stmt := top 41
theorem sc41 : FnScope ["web", "house"] ["web", "house"] (defScope s41) := ⟨rfl, rfl, rfl, by decide +kernel, rfl, by decide +kernel, by decide +kernel⟩
abbrev RNeedH (Cw : Addr) : List D → D → Prop := fun ds d => ∃ h ts x, ds = [webD Cw h ts, .int (x : Nat)] ∧ x < h ∧ d = .int (x : Nat)
include W in
theorem ok41 {f : Addr} {fd : FuncData} (F : Df K mg "need_house" s41 f fd) (C21 : CBelow P wd K mg base) : Cal P wd K mg base "need_house" 4 ["web", "house"] (spD (RNeedH Cw)) := by
  refine cal_pure F.F sc41 F.g (F.F.binds fun _ _ _ _ _ _ us hl => match us, hl with | [_, _], _ => rfl) (fun ds d ⟨_, _, _, e, _⟩ => by rw [e]; rfl) ?_
  rintro cdv A outer s H Er fm ds d ⟨t, n, x, rfl, hx, rfl⟩ M0 H0 σ D c q
  refine b_cons (k_if c (t_not (t_val (w_call fm C21 (a_cons (w_nm 1 (fun _ => rfl) rfl) (a_cons (w_fld fm (w_nm 0 (fun _ => rfl) rfl) W.kl.cl W.houses rfl) a_nil)) ⟨_, _, _, rfl, .int _, rfl⟩))) (fun h M H c => ?_) fun h M H c => ?_)
  · exfalso
    rw [below_of hx] at h
    cases h
  refine b_nil ?_
  exact b_one (k_ret c (w_nm 1 (fun _ => rfl) rfl) fun v M H c r => q v _ _ M H c r)
abbrev s42 : Stmt := top 42
theorem sc42 : FnScope ["web", "tie"] ["web", "tie"] (defScope s42) := ⟨rfl, rfl, rfl, by decide +kernel, rfl, by decide +kernel, by decide +kernel⟩
abbrev RNeedT (Cw : Addr) : List D → D → Prop := fun ds d => ∃ h ts x, ds = [webD Cw h ts, .int (x : Nat)] ∧ x < ts.length ∧ d = .int (x : Nat)
include B W in
theorem ok42 {f : Addr} {fd : FuncData} (F : Df K mg "need_tie" s42 f fd) (C21 : CBelow P wd K mg base) : Cal P wd K mg base "need_tie" 4 ["web", "tie"] (spD (RNeedT Cw)) := by
  refine cal_pure F.F sc42 F.g (F.F.binds fun _ _ _ _ _ _ us hl => match us, hl with | [_, _], _ => rfl) (fun ds d ⟨_, _, _, e, _⟩ => by rw [e]; rfl) ?_
  rintro cdv A outer s H Er fm ds d ⟨t, n, x, rfl, hx, rfl⟩ M0 H0 σ D c q
  refine b_cons (k_if c (t_not (t_val (w_call fm C21 (a_cons (w_nm 1 (fun _ => rfl) rfl) (a_cons (w_len fm B (w_fld fm (w_nm 0 (fun _ => rfl) rfl) W.kl.cl W.ties rfl) qT) a_nil)) ⟨_, _, _, rfl, .int _, rfl⟩))) (fun h M H c => ?_) fun h M H c => ?_)
  · exfalso
    rw [pT_len, below_of hx] at h
    cases h
  refine b_nil ?_
  exact b_one (k_ret c (w_nm 1 (fun _ => rfl) rfl) fun v M H c r => q v _ _ M H c r)
/-! ### steps -/
abbrev RStep (Cw : Addr) : List D → D → Prop := fun ds d => ∃ (h : Nat) (ts : List Tie) (k : Nat) (y : D), ds = [webD Cw h ts, .int (k : Int), y] ∧
  ((∃ (a : Nat) (x : D) (T : String), SqD y [.str "do", .int (a : Int), x] ∧ TyD x T ∧ d = .bl (decide (a < h) && isBelow k x)) ∨ ∃ t : Nat, SqD y [.str "meet", .int (t : Int)] ∧ d = .bl (decide (t < ts.length)))
abbrev s47 : Stmt := top 47
theorem sc47 : FnScope ["web", "deeds", "value"] ["web", "deeds", "value"] (defScope s47) := ⟨rfl, rfl, rfl, by decide +kernel, rfl, by decide +kernel, by decide +kernel⟩
theorem seq_of {y : D} {ds : List D} (h : SqD y ds) : ∃ T, TyD y T ∧ isSeqD y = true := by
  cases h with
  | lst => exact ⟨_, .lst _, rfl⟩
  | tup => exact ⟨_, .tup _, rfl⟩
include B G W in
theorem ok47 {f : Addr} {fd : FuncData} (F : Df K mg "is_step" s47 f fd) (C23 : CIs P wd K mg base "is_sequence" 1 isSeqD) (C24 : CIs P wd K mg base "is_text" 1 isTextD) (C21 : CBelow P wd K mg base) : Cal P wd K mg base "is_step" 4 ["web", "deeds", "value"] (spD (RStep Cw)) := by
  refine cal_pure F.F sc47 F.g (F.F.binds fun _ _ _ _ _ _ us hl => match us, hl with | [_, _, _], _ => rfl) (fun ds d ⟨_, _, _, _, e, _⟩ => by rw [e]; rfl) ?_
  rintro cdv A outer s H Er fm ds d ⟨h, ts, k, y, rfl, hy⟩ M0 H0 σ D c q
  rcases hy with ⟨a, x, T, sq, tx, rfl⟩ | ⟨t, sq, rfl⟩
  · obtain ⟨Ty, ty, he⟩ := seq_of sq
    refine b_cons (k_if c (t_pw (v_or (t_not (t_val (w_call fm C23 (a_cons (w_nm 2 (fun _ => rfl) rfl) a_nil) ⟨_, _, rfl, ty, rfl⟩))) fun h2 => (v_or (t_cmp (w_len fm B (w_nm 2 (fun _ => rfl) rfl) sq) w_int cm_eqS) fun h1 => (v_or1 (t_not (t_val (w_call fm C24 (a_cons (w_ix fm (w_nm 2 (fun _ => rfl) rfl) w_int sq rfl) a_nil) ⟨_, _, rfl, .str _, rfl⟩))))))) (fun h M H c => ?_) fun h M H c => ?_)
    · rw [he] at h; cases h
    refine b_nil ?_
    refine b_cons (k_if c (t_cmp (w_ix fm (w_nm 2 (fun _ => rfl) rfl) w_int sq rfl) (w_gs fm G.DO) cm_eqS) (fun h M H c => ?_) fun h M H c => ?_)
    · refine b_one (k_ret c (E.eq (w_and (w_cmp (w_len fm B (w_nm 2 (fun _ => rfl) rfl) sq) w_int cm_eqS) fun h4 => (w_and (w_call fm C21 (a_cons (w_ix fm (w_nm 2 (fun _ => rfl) rfl) w_int sq rfl) (a_cons (w_fld fm (w_nm 0 (fun _ => rfl) rfl) W.kl.cl W.houses rfl) a_nil)) ⟨_, _, _, rfl, .int _, rfl⟩) fun h3 => (w_one (w_call fm C21 (a_cons (w_ix fm (w_nm 2 (fun _ => rfl) rfl) w_int sq rfl) (a_cons (w_nm 1 (fun _ => rfl) rfl) a_nil)) ⟨_, _, _, rfl, tx, rfl⟩)))) ?_) fun v M H c r => q v _ _ M H c r)
      rw [bel]
      rfl
    · simp at h
  · obtain ⟨Ty, ty, he⟩ := seq_of sq
    refine b_cons (k_if c (t_pw (v_or (t_not (t_val (w_call fm C23 (a_cons (w_nm 2 (fun _ => rfl) rfl) a_nil) ⟨_, _, rfl, ty, rfl⟩))) fun h2 => (v_or (t_cmp (w_len fm B (w_nm 2 (fun _ => rfl) rfl) sq) w_int cm_eqS) fun h1 => (v_or1 (t_not (t_val (w_call fm C24 (a_cons (w_ix fm (w_nm 2 (fun _ => rfl) rfl) w_int sq rfl) a_nil) ⟨_, _, rfl, .str _, rfl⟩))))))) (fun h M H c => ?_) fun h M H c => ?_)
    · rw [he] at h; cases h
    refine b_nil ?_
    refine b_cons (k_if c (t_cmp (w_ix fm (w_nm 2 (fun _ => rfl) rfl) w_int sq rfl) (w_gs fm G.DO) cm_eqS) (fun h M H c => ?_) fun h M H c => ?_)
    · exfalso
      rw [show decide (V.str "meet" = V.str "do") = false by decide +kernel] at h
      cases h
    refine b_nil ?_
    refine b_one (k_ret c (E.eq (w_and (w_cmp (w_ix fm (w_nm 2 (fun _ => rfl) rfl) w_int sq rfl) (w_gs fm G.MEET) cm_eqS) fun h6 => (w_and (w_cmp (w_len fm B (w_nm 2 (fun _ => rfl) rfl) sq) w_int cm_eqS) fun h5 => (w_one (w_call fm C21 (a_cons (w_ix fm (w_nm 2 (fun _ => rfl) rfl) w_int sq rfl) (a_cons (w_len fm B (w_fld fm (w_nm 0 (fun _ => rfl) rfl) W.kl.cl W.ties rfl) qT) a_nil)) ⟨_, _, _, rfl, .int _, rfl⟩)))) ?_) fun v M H c r => q v _ _ M H c r)
    rw [pT_len, bel]
    simp
/-- data that are steps -/
def Sts (ys : List D) (ss : List Stp) : Prop := ys.length = ss.length ∧ ∀ (i : Nat) (s : Stp), ss[i]? = some s → ∃ y, ys[i]? = some y ∧ SqD y (stD s)
abbrev RLook (Cw : Addr) : List D → D → Prop := fun ds d => ∃ (h : Nat) (ts : List Tie) (k : Nat) (y : D) (ys : List D) (ss : List Stp), ds = [webD Cw h ts, .int (k : Int), y] ∧ SqD y ys ∧ Sts ys ss ∧ ss.length ≤ 400 ∧ (∀ s ∈ ss, sok h ts.length k s = true) ∧ d = .tup (ss.map stT)
abbrev s48 : Stmt := top 48
theorem sc48 : FnScope ["web", "deeds", "value", "at", "one"] ["web", "deeds", "value"] (defScope s48) := ⟨rfl, rfl, rfl, by decide +kernel, rfl, by decide +kernel, by decide +kernel⟩
theorem Sts.get {ys : List D} {ss : List Stp} (h : Sts ys ss) {i : Nat} {y : D} (e : ys[i]? = some y) : ∃ s, ss[i]? = some s ∧ SqD y (stD s) := by
  have hi : i < ss.length := by rw [← h.1]; exact lt_of_get e
  obtain ⟨y', h1, h2⟩ := h.2 i ss[i] (by simp [hi])
  rw [e] at h1; cases h1
  exact ⟨ss[i], by simp [hi], h2⟩
theorem step_R {h : Nat} {ts : List Tie} {k : Nat} {y : D} {s : Stp} (sq : SqD y (stD s)) : RStep Cw [webD Cw h ts, .int (k : Int), y] (.bl (sok h ts.length k s)) := by
  cases s with
  | act a d => exact ⟨h, ts, k, y, rfl, .inl ⟨a, .int (d : Int), _, sq, .int _, by rw [bel]; rfl⟩⟩
  | meet t => exact ⟨h, ts, k, y, rfl, .inr ⟨t, sq, rfl⟩⟩
theorem SqD.tupOf {y : D} {ds : List D} (s : SqD y ds) : (match y with | .lst r => D.tup r | x => x) = .tup ds := by cases s <;> rfl
include B G in
theorem ok48 {f : Addr} {fd : FuncData} (F : Df K mg "looked_steps" s48 f fd) (C23 : CIs P wd K mg base "is_sequence" 1 isSeqD) (C47 : Cal P wd K mg base "is_step" 4 ["web", "deeds", "value"] (spD (RStep Cw))) : Cal P wd K mg base "looked_steps" 5 ["web", "deeds", "value"] (spD (RLook Cw)) := by
  refine cal_pure F.F sc48 F.g (F.F.binds fun _ _ _ _ _ _ us hl => match us, hl with | [_, _, _], _ => rfl) (fun ds d ⟨_, _, _, _, _, _, e, _⟩ => by rw [e]; rfl) ?_
  rintro cdv A outer s H Er fm ds d ⟨h, ts, k, y, ys, ss, rfl, sq, sts, hl, hok, rfl⟩ M0 H0 σ D c q
  obtain ⟨Ty, ty, he⟩ := seq_of sq
  have hlen := sts.1
  refine b_cons (k_if c (t_pw (v_or (t_not (t_val (w_call fm C23 (a_cons (w_nm 2 (fun _ => rfl) rfl) a_nil) ⟨_, _, rfl, ty, rfl⟩))) fun h1 => (v_or1 (t_cmp (w_len fm B (w_nm 2 (fun _ => rfl) rfl) sq) (w_g fm G.MOST_STEPS) cm_gt)))) (fun h M H c => ?_) fun h M H c => ?_)
  · exfalso
    rw [he, decide_eq_false (show ¬ (400 : Int) < ys.length by omega)] at h
    cases h
  refine b_nil ?_
  refine b_cons (k_forB fm (fun _ (_ : Unit) => True) (fun _ => []) (fun _ => [some (webD Cw _ ts), some (.int (k : Int)), some y, none, none]) () (f2 3 4) c (i_en fm B (w_nm 2 (fun _ => rfl) rfl) sq) trivial rfl (fun _ _ _ σ M H c => c) (fun i d h => by
    obtain ⟨x, hx, rfl⟩ := enD_get h
    exact (g_tup fm (g_cons fm 3 (fun _ => rfl) (g_cons fm 4 (fun _ => rfl) g_nil)))) (fun M1 H1 lf i d x σ M H hi hP c D1 e1 e2 kn => ?_) (fun x σ M H hP c => ?_) (fun _ => passes_of rfl))
  · obtain ⟨z, hz, rfl⟩ := enD_get hi
    obtain ⟨s, hs, sq'⟩ := sts.get hz
    refine b_one (k_if c (t_not (t_val (w_call fm C47 (a_cons (w_nm 0 (fun _ => rfl) rfl) (a_cons (w_nm 1 (fun _ => rfl) rfl) (a_cons (w_nm 4 (fun _ => rfl) rfl) a_nil))) (step_R sq')))) (fun h M H c => ?_) fun h M H c => ?_)
    · rw [hok s (List.mem_of_getElem? hs)] at h
      cases h
    · exact b_nil (kn () _ _ _ trivial ((c.forget 3).forget 4))
  refine b_one (k_ret c (E.eq (w_tuple fm B (EN.e (n_lc fm [("one", 4)] (blkOk_by (sc := defScope s48) (by decide +kernel)) (fun _ => rfl) (fun _ => true) (fun d => match d with | .lst r => .tup r | x => x) (f1 4) (i_sq fm (w_nm 2 (fun _ => rfl) rfl) sq) (by omega) (fun i d h => (cw_name (Fam.blk fm) 4 (fun _ => rfl) (by decide))) (fun i d h => ts_nil) (fun i d h hq => by
    obtain ⟨s, hs, sq'⟩ := sts.get h
    exact E.eq (w_tuple (Fam.blk fm) B (w_nm 4 (fun _ => rfl) rfl) sq') (SqD.tupOf sq').symm))) qL) ?_) fun v M H c r => q v _ _ M H c r)
  rw [keep_all]
  congr 1
  refine List.ext_getElem? fun i => ?_
  rw [List.getElem?_map]; rw [List.getElem?_map]
  cases hz : ys[i]? with
  | none =>
    have : ss[i]? = none := List.getElem?_eq_none (by rw [← hlen]; exact List.getElem?_eq_none_iff.mp hz)
    rw [this]
    rfl
  | some z =>
    obtain ⟨s, hs, sq'⟩ := sts.get hz
    rw [hs]
    exact congrArg some (SqD.tupOf sq')
end
end Hb
/-! Df4: joins. -/
namespace Hb
open PySem L2 Mc Ly
/-! ### plain: the pairs that are found -/
theorem nodup_lt : ∀ (m : Nat) (l : List Nat), l.Nodup → (∀ x ∈ l, x < m) → l.length ≤ m
  | 0, l, _, h => by
    cases l with
    | nil => exact Nat.le_refl 0
    | cons a l => exact absurd (h a List.mem_cons_self) (Nat.not_lt_zero _)
  | m + 1, l, nd, h => by
    have h2 : (l.erase m).length ≤ m := nodup_lt m (l.erase m) (nd.erase m) fun x hx => by
      have h1 := (nd.mem_erase_iff.mp hx)
      have := h x h1.2
      omega
    have h3 : l.length ≤ (l.erase m).length + 1 := by
      rw [List.length_erase]
      split <;> omega
    omega
abbrev Pr := Nat × Nat
abbrev Fnd := List (Pr × List Nat)
structure Bfs (t : List (List Nat)) (n : Nat) (one other : Nat) (fs : Fnd) : Prop where
  sound : ∀ (i : Nat) (e : Pr × List Nat), fs[i]? = some e → (∀ d ∈ e.2, d < t.length) ∧ run t one e.2 = e.1.1 ∧ run t other e.2 = e.1.2 ∧ e.2.length ≤ i
  nodup : (fs.map (·.1)).Nodup
  start : (one, other) ∈ fs.map (·.1)
def Cld (t : List (List Nat)) (fs : Fnd) (k : Nat) : Prop := ∀ (j : Nat) (e : Pr × List Nat), j < k → fs[j]? = some e → ∀ d, d < t.length → (step t e.1.1 d, step t e.1.2 d) ∈ fs.map (·.1)
theorem Bfs.lt {t : List (List Nat)} {n one other : Nat} {fs : Fnd} (b : Bfs t n one other fs) (ok : MOk t n) (h1 : one < n) (h2 : other < n) {e : Pr × List Nat} (he : e ∈ fs) : e.1.1 < n ∧ e.1.2 < n := by
  obtain ⟨i, hi⟩ := List.getElem?_of_mem he
  obtain ⟨r1, r2, r3, _⟩ := b.sound i e hi
  exact ⟨r2 ▸ ok.run r1 h1, r3 ▸ ok.run r1 h2⟩
theorem Bfs.len {t : List (List Nat)} {n one other : Nat} {fs : Fnd} (b : Bfs t n one other fs) (ok : MOk t n) (h1 : one < n) (h2 : other < n) : fs.length ≤ 144 := by
  have hn := ok.n12
  have key : (fs.map fun e => e.1.1 * 12 + e.1.2).Nodup := by
    have : (fs.map fun e => e.1.1 * 12 + e.1.2) = (fs.map (·.1)).map fun p => p.1 * 12 + p.2 := by rw [List.map_map]; rfl
    rw [this, List.Nodup, List.pairwise_map]
    refine List.Pairwise.imp_of_mem ?_ b.nodup
    intro x y hx hy hxy z
    obtain ⟨e, he, rfl⟩ := List.mem_map.mp hx
    obtain ⟨e', he', rfl⟩ := List.mem_map.mp hy
    have l1 := b.lt ok h1 h2 he
    have l2 := b.lt ok h1 h2 he'
    refine hxy (Prod.ext ?_ ?_) <;> omega
  have := nodup_lt 144 _ key fun x hx => by
    obtain ⟨e, he, rfl⟩ := List.mem_map.mp hx
    have := b.lt ok h1 h2 he
    omega
  rwa [List.length_map] at this
theorem run_snoc {t : List (List Nat)} {s d : Nat} {row : List Nat} : run t s (row ++ [d]) = step t (run t s row) d := by unfold run; rw [List.foldl_append]; rfl
theorem Bfs.reach {t : List (List Nat)} {n one other : Nat} {fs : Fnd} (b : Bfs t n one other fs) (cl : Cld t fs fs.length) : ∀ (row : List Nat), (∀ d ∈ row, d < t.length) → (run t one row, run t other row) ∈ fs.map (·.1) := by
  intro row
  induction h : row.reverse generalizing row with
  | nil =>
    intro _
    have : row = [] := by simpa using h
    subst this
    exact b.start
  | cons d r ih =>
    intro hr
    have e : row = r.reverse ++ [d] := by have := congrArg List.reverse h; simpa using this
    subst e
    have h1 := ih r.reverse (by simp) fun x hx => hr x (List.mem_append_left _ hx)
    obtain ⟨e, he, e2⟩ := List.mem_map.mp h1
    obtain ⟨j, hj⟩ := List.getElem?_of_mem he
    rw [run_snoc, run_snoc]
    have := cl j e (lt_of_get hj) hj d (hr d (by simp))
    rw [e2] at this
    exact this
def keyP (p : Pr) : List Key := [.inl (p.1 : Int), .inl (p.2 : Int)]
theorem keyP_inj {p q : Pr} (h : keyP p = keyP q) : p = q := by
  unfold keyP at h
  simp only [List.cons.injEq, Sum.inl.injEq, and_true] at h
  exact Prod.ext (by omega) (by omega)
theorem keyP_D (p : Pr) : keyD (keyP p) = .tup [.int (p.1 : Int), .int (p.2 : Int)] := rfl
def kvF (fs : Fnd) : List (List Key × D) := fs.map fun e => (keyP e.1, .tup (nD e.2))
theorem kvF_len {fs : Fnd} : (kvF fs).length = fs.length := List.length_map _
theorem valF_in {fs : Fnd} (nd : (fs.map (·.1)).Nodup) {e : Pr × List Nat} (he : e ∈ fs) : valD (kvF fs) (keyP e.1) = some (.tup (nD e.2)) := by
  induction fs with
  | nil => cases he
  | cons x fs ih =>
    unfold valD kvF
    rw [List.map_cons, List.find?_cons]
    rw [List.map_cons] at nd; rw [List.nodup_cons] at nd
    by_cases hx : keyP x.1 = keyP e.1
    · have h1 := keyP_inj hx
      obtain rfl | he := List.mem_cons.mp he
      · simp
      · exact absurd (h1 ▸ List.mem_map_of_mem he) nd.1
    · simp only [hx, decide_false]
      obtain rfl | he := List.mem_cons.mp he
      · exact absurd rfl hx
      · exact ih nd.2 he
theorem valF_out {fs : Fnd} {p : Pr} (h : p ∉ fs.map (·.1)) : valD (kvF fs) (keyP p) = none := by
  unfold valD kvF
  rw [Option.map_eq_none_iff, List.find?_eq_none]
  intro x hx
  obtain ⟨e, he, rfl⟩ := List.mem_map.mp hx
  simp only [decide_eq_true_eq]
  exact fun z => h (keyP_inj z ▸ List.mem_map_of_mem he)
theorem putF_out {fs : Fnd} {p : Pr} {row : List Nat} (h : p ∉ fs.map (·.1)) : putDk (kvF fs) (keyP p) (.tup (nD row)) = kvF (fs ++ [(p, row)]) := by
  unfold putDk
  rw [if_neg]
  · unfold kvF
    rw [List.map_append]
    rfl
  · rw [List.any_eq_true]
    rintro ⟨x, hx, hd⟩
    unfold kvF at hx
    obtain ⟨e, he, rfl⟩ := List.mem_map.mp hx
    exact h (keyP_inj (of_decide_eq_true hd) ▸ List.mem_map_of_mem he)
def wtF (fs : Fnd) : List D := fs.map fun e => .tup [.int (e.1.1 : Int), .int (e.1.2 : Int)]
theorem wtF_len {fs : Fnd} : (wtF fs).length = fs.length := List.length_map _
theorem Bfs.more {t : List (List Nat)} {n one other : Nat} {fs : Fnd} (b : Bfs t n one other fs) {i d : Nat} {e : Pr × List Nat} (he : fs[i]? = some e) (hd : d < t.length) (hn : (step t e.1.1 d, step t e.1.2 d) ∉ fs.map (·.1)) : Bfs t n one other (fs ++ [((step t e.1.1 d, step t e.1.2 d), e.2 ++ [d])]) := by
  obtain ⟨r1, r2, r3, r4⟩ := b.sound i e he
  refine ⟨fun j x hx => ?_, ?_, ?_⟩
  · by_cases hj : j < fs.length
    · rw [List.getElem?_append_left hj] at hx; exact b.sound j x hx
    · rw [List.getElem?_append_right (by omega)] at hx
      have hj0 : j - fs.length = 0 := by
        cases hq : j - fs.length with
        | zero => rfl
        | succ q => rw [hq] at hx; simp at hx
      rw [hj0] at hx
      simp at hx
      subst hx
      have := lt_of_get he
      refine ⟨fun z hz => ?_, by rw [run_snoc, r2], by rw [run_snoc, r3], by simp; omega⟩
      obtain hz | hz := List.mem_append.mp hz
      · exact r1 z hz
      · rw [List.mem_singleton.mp hz]; exact hd
  · rw [List.map_append]; rw [List.nodup_append]
    refine ⟨b.nodup, by simp, fun x hx y hy z => hn ?_⟩
    simp at hy
    subst hy
    exact z ▸ hx
  · rw [List.map_append]; exact List.mem_append_left _ b.start
theorem filter_one {n j : Nat} {q : Nat → Bool} (hj : j < n) (hq : q j = true) (h : ∀ i, i < n → q i = true → i = j) : (List.range n).filter q = [j] := by
  induction n with
  | zero => omega
  | succ n ih =>
    rw [List.range_succ, List.filter_append]
    by_cases e : j = n
    · subst e
      have : (List.range j).filter q = [] := by
        rw [List.filter_eq_nil_iff]
        intro x hx hx2
        have h1 := List.mem_range.mp hx
        have := h x (by omega) hx2
        omega
      rw [this]
      simp [hq]
    · rw [ih (by omega) fun i hi => h i (by omega)]
      have : q n = false := by
        cases hqn : q n with
        | false => rfl
        | true => exact absurd (h n (by omega) hqn).symm e
      simp [this]
section
variable {P : Program} {wd : World} {K : PySem.W.Frag} {mg : Str → Option Value} {base : Heap} (B : Blt mg) (G : Gc mg) {Cm : Addr} (T : MK K mg Cm)
abbrev s34 : Stmt := top 34
theorem sc34 : FnScope ["machine", "one", "other", "found", "waiting", "at", "pair", "deed", "table", "after"] ["machine", "one", "other"] (defScope s34) := ⟨rfl, rfl, rfl, by decide +kernel, rfl, by decide +kernel, by decide +kernel⟩
structure JG where
  t : List (List Nat)
  n : Nat
  one : Nat
  other : Nat
abbrev PreP (Cm : Addr) (g : JG) (ds : List D) (o : Own) : Prop := ds = [machD Cm g.t g.n, .int (g.one : Int), .int (g.other : Int)] ∧ o = [] ∧ MOk g.t g.n ∧ g.one < g.n ∧ g.other < g.n
abbrev PostP (g : JG) (d : D) (o : Own) : Prop := ∃ a fs, d = .ref a ∧ o = [(a, .dt (kvF fs))] ∧ Bfs g.t g.n g.one g.other fs ∧ Cld g.t fs fs.length
include B T in
theorem ok34 {f : Addr} {fd : FuncData} (F : Df K mg "pair_rows" s34 f fd) : Cal P wd K mg base "pair_rows" 1 ["machine", "one", "other"] (spN (PreP Cm) PostP) := by
  refine ⟨f, fd, fn_new F.F sc34 (fun g ds o h => by rw [h.1]; rfl) ?_, F.g, F.F.kp, F.F.binds fun _ _ _ _ _ _ us hl => match us, hl with | [_, _, _], _ => rfl⟩
  rintro cdv A outer s H Er fm ⟨t, n, one, other⟩ ds own ⟨rfl, rfl, ok, l1, l2⟩ M0 H0 σ D c q hn
  simp only at ok l1 l2
  -- found = {(one, other): ()}
  refine b_cons (k_setX fm 3 c (x_disp1 (ks := keyP (one, other)) fm (w_tup (a_cons (w_nm 1 (fun _ => rfl) rfl) (a_cons (w_nm 2 (fun _ => rfl) rfl) a_nil)) (show 2 ≤ 100000 by decide)) (w_tup a_nil)) (fun _ => rfl) ?_)
  rintro d o σ M H ⟨fa, rfl, rfl⟩ c
  -- waiting = [(one, other)]
  refine b_cons (k_new fm 4 c (n_lst (a_cons (w_tup (a_cons (w_nm 1 (fun _ => rfl) rfl) (a_cons (w_nm 2 (fun _ => rfl) rfl) a_nil)) (show 2 ≤ 100000 by decide)) a_nil) (show 1 ≤ 100000 by decide)) (fun _ => rfl) fun wa σ M H c => ?_)
  -- at = 0
  refine b_cons (k_set fm 5 c w_int (fun _ => rfl) fun σ M H c => ?_)
  have b0 : Bfs t n one other [((one, other), [])] := ⟨fun i e h => by
    cases i with
    | zero => simp at h; subst h; exact ⟨(fun _ h => nomatch h), rfl, rfl, Nat.le_refl 0⟩
    | succ i => simp at h, by simp, by simp⟩
  refine b_cons (k_while (G := Fnd × Nat) (fun x => Bfs t n one other x.1 ∧ Cld t x.1 x.2 ∧ x.2 ≤ x.1.length) (fun x => 1000 - x.2) (fun x => [(wa, .l (wtF x.1)), (fa, .dt (kvF x.1))])
    (fun x => [some (machD Cm t n), some (.int (one : Int)), some (.int (other : Int)), some (.ref fa), some (.ref wa), some (.int (x.2 : Int)), none, none, none, none]) ([((one, other), [])], 0) (fun x => decide (x.2 < x.1.length)) c
    ⟨b0, fun j e h => by omega, Nat.zero_le _⟩ rfl (fun c => c) (fun x hP => ?_) (fun x σ M H hP hb c D1 e1 kn => ?_) (fun x σ M H hP hb c => ?_) (fun _ => passes_of rfl))
  · refine et_eq (t_cmp (w_nm 5 (fun _ => rfl) rfl) (w_lenO (kk := 0) fm B (w_nm 4 (fun _ => rfl) rfl) rfl) cm_lt) ?_
    rw [wtF_len]
    refine decide_eq_decide.mpr (by omega)
  · obtain ⟨fs, k⟩ := x
    obtain ⟨bf, cl, hk⟩ := hP
    have hk2 : k < fs.length := of_decide_eq_true hb
    obtain ⟨e, he⟩ : ∃ e, fs[k]? = some e := ⟨fs[k], by simp [hk2]⟩
    have hlen := bf.len ok l1 l2
    have hwt : (wtF fs)[k]? = some (.tup [.int (e.1.1 : Int), .int (e.1.2 : Int)]) := by unfold wtF; rw [List.getElem?_map, he]; rfl
    obtain ⟨le1, le2⟩ := bf.lt ok l1 l2 (List.mem_of_getElem? he)
    -- pair = waiting[at]
    refine b_cons (k_set fm 6 c (w_ixO (kk := 0) fm (w_nm 4 (fun _ => rfl) rfl) (w_nm 5 (fun _ => rfl) rfl) rfl (atI_of k hwt)) (fun _ => rfl) fun σ M H c => ?_)
    -- at += 1
    refine b_cons (k_augI fm 5 c rfl w_int (fun _ => rfl) fun σ M H c => ?_)
    -- for deed, table in enumerate(machine.tables):
    refine b_one (k_forB fm (G := Fnd) (fun i gs => Bfs t n one other gs ∧ Cld t gs k ∧ fs <+: gs ∧ ∀ d, d < i → d < t.length → (step t e.1.1 d, step t e.1.2 d) ∈ gs.map (·.1)) (fun gs => [(wa, .l (wtF gs)), (fa, .dt (kvF gs))])
      (fun gs => [some (machD Cm t n), some (.int (one : Int)), some (.int (other : Int)), some (.ref fa), some (.ref wa), some (.int ((k : Int) + 1)), some (.tup [.int (e.1.1 : Int), .int (e.1.2 : Int)]), none, none, none]) fs (f2 7 8) c
      (i_en fm B (w_fld fm (w_nm 0 (fun _ => rfl) rfl) T.kl.cl T.tables rfl) qT) ⟨bf, cl, List.prefix_refl _, fun d h => by omega⟩ rfl (fun _ _ _ σ M H c => c) (fun i d h => by
        obtain ⟨x, hx, rfl⟩ := enD_get h
        exact (g_tup fm (g_cons fm 7 (fun _ => rfl) (g_cons fm 8 (fun _ => rfl) g_nil)))) (fun M1 H1 lf i d gs σ M H hi hP c D2 e2 e3 kn2 => ?_) (fun gs σ M H hP c => ?_) (fun _ => passes_of rfl))
    · obtain ⟨y, hy, rfl⟩ := enD_get hi
      obtain ⟨r, hr, rfl⟩ := tT_get hy
      obtain ⟨bg, cg, pg, dg⟩ := hP
      have hlg := bg.len ok l1 l2
      have hit : i < t.length := lt_of_get hr
      obtain ⟨hr1, hr2⟩ := ok.row r (List.mem_of_getElem? hr)
      have ei : t.getD i [] = r := getD_of hr
      have heg : gs[k]? = some e := by
        obtain ⟨w, rfl⟩ := pg
        rw [List.getElem?_append_left hk2]; exact he
      -- after = (table[pair[0]], table[pair[1]])
      refine b_cons (k_set fm 9 c (w_tup (a_cons (w_ix fm (w_nm 8 (fun _ => rfl) rfl) (w_ix fm (w_nm 6 (fun _ => rfl) rfl) w_int qT rfl) qT (atI_of e.1.1 (nD_at (by rw [hr1]; exact le1)))) (a_cons (w_ix fm (w_nm 8 (fun _ => rfl) rfl) (w_ix fm (w_nm 6 (fun _ => rfl) rfl) w_int qT rfl) qT (atI_of e.1.2 (nD_at (by rw [hr1]; exact le2)))) a_nil)) (show 2 ≤ 100000 by decide)) (fun _ => rfl) fun σ M H c => ?_)
      have s1 : r.getD e.1.1 0 = step t e.1.1 i := by unfold step; rw [ei]
      have s2 : r.getD e.1.2 0 = step t e.1.2 i := by unfold step; rw [ei]
      rw [s1, s2] at c
      have fin : ∀ {gs' : Fnd}, gs <+: gs' → (step t e.1.1 i, step t e.1.2 i) ∈ gs'.map (·.1) → ∀ d, d < i + 1 → d < t.length → (step t e.1.1 d, step t e.1.2 d) ∈ gs'.map (·.1) := fun {gs'} hp hm d h1 h2 => by
        by_cases hd : d = i
        · subst hd; exact hm
        · have := dg d (by omega) h2
          obtain ⟨w, rfl⟩ := hp
          rw [List.map_append]; exact List.mem_append_left _ this
      -- if after not in found:
      refine b_one (k_if c (t_dnotin (kk := 1) fm (w_nm 9 (fun _ => rfl) rfl) (w_nm 3 (fun _ => rfl) rfl) rfl (.t (kvF gs) (keyP (step t e.1.1 i, step t e.1.2 i)))) (fun h M H c => ?_) fun h M H c => ?_)
      · have hnew : (step t e.1.1 i, step t e.1.2 i) ∉ gs.map (·.1) := fun z => by
          obtain ⟨x, hx, ex⟩ := List.mem_map.mp z
          rw [← ex, valF_in bg.nodup hx] at h
          cases h
        obtain ⟨q1, q2, q3, q4⟩ := bg.sound k e heg
        -- found[after] = found[pair] + (deed,)
        have hgetp : valD (kvF gs) (keyP e.1) = some (.tup (nD e.2)) := valF_in bg.nodup (List.mem_of_getElem? heg)
        have hat : DAt (.dt (kvF gs)) (keyD (keyP e.1)) (some (.tup (nD e.2))) := hgetp ▸ DAt.t (kvF gs) (keyP e.1)
        refine b_cons (k_dputT (kk := 1) (ks := keyP (step t e.1.1 i, step t e.1.2 i)) fm c (w_add fm (w_dget (kk := 1) (x := keyD (keyP e.1)) fm (w_nm 3 (fun _ => rfl) rfl) (w_nm 6 (fun _ => rfl) rfl) rfl hat) (w_tup (a_cons (w_nm 7 (fun _ => rfl) rfl) a_nil) (show 1 ≤ 100000 by decide)) (by show (nD e.2).length + 1 ≤ 100000; rw [nD_len]; omega)) (w_nm 3 (fun _ => rfl) rfl) (w_nm 9 (fun _ => rfl) rfl) rfl (by rw [kvF_len]; omega) fun M H c => ?_)
        -- waiting.append(after)
        refine b_one (k_app (kk := 0) fm c (w_nm 4 (fun _ => rfl) rfl) rfl (w_nm 9 (fun _ => rfl) rfl).x ?_)
        rintro d o ⟨rfl, rfl⟩
        refine ⟨0, _, rfl, by rw [wtF_len]; omega, fun M H c => ?_⟩
        have e4 : addD (.tup (nD e.2)) (.tup [.int (i : Int)]) = .tup (nD (e.2 ++ [i])) := by
          show Ly.D.tup (nD e.2 ++ [.int (i : Int)]) = _
          unfold nD
          rw [List.map_append]
          rfl
        rw [e4, putF_out hnew] at c
        have e5 : wtF gs ++ [.tup [.int ((step t e.1.1 i : Nat) : Int), .int ((step t e.1.2 i : Nat) : Int)]] = wtF (gs ++ [((step t e.1.1 i, step t e.1.2 i), e.2 ++ [i])]) := by
          unfold wtF
          rw [List.map_append]
          rfl
        have c' := ((c.forget 7).forget 8).forget 9
        rw [e5] at c'
        refine kn2 (gs ++ [((step t e.1.1 i, step t e.1.2 i), e.2 ++ [i])]) _ _ _ ⟨bg.more heg hit hnew, fun j x hj hx d hd => ?_, pg.trans (List.prefix_append _ _), fin (List.prefix_append _ _) (by simp)⟩ c'
        rw [List.getElem?_append_left (by have := lt_of_get heg; omega)] at hx
        rw [List.map_append]; exact List.mem_append_left _ (cg j x hj hx d hd)
      · refine b_nil (kn2 gs _ _ _ ⟨bg, cg, pg, fin (List.prefix_refl _) ?_⟩ (((c.forget 7).forget 8).forget 9))
        by_cases hm : (step t e.1.1 i, step t e.1.2 i) ∈ gs.map (·.1)
        · exact hm
        · rw [valF_out hm] at h; cases h
    · obtain ⟨bg, cg, pg, dg⟩ := hP
      rw [enD_len, tT_len] at dg
      have heg : gs[k]? = some e := by
        obtain ⟨w, rfl⟩ := pg
        rw [List.getElem?_append_left hk2]; exact he
      have hkg := lt_of_get heg
      refine kn (gs, k + 1) _ _ _ ⟨bg, fun j x hj hx d hd => ?_, hkg⟩ (by show 1000 - (k + 1) < 1000 - k; omega) (c.forget 6)
      by_cases h : j = k
      · subst h
        rw [heg] at hx; cases hx
        exact dg d hd hd
      · exact cg j x (by omega) hx d hd
  · obtain ⟨fs, k⟩ := x
    obtain ⟨bf, cl, hk⟩ := hP
    have hk2 : ¬ k < fs.length := of_decide_eq_false hb
    have hk3 : k = fs.length := Nat.le_antisymm hk (Nat.le_of_not_lt hk2)
    subst hk3
    refine b_one (k_ret c (w_nm 3 (fun _ => rfl) rfl) fun v M H c r => ?_)
    exact q v _ _ _ _ M H ⟨fa, fs, rfl, rfl, bf, cl⟩ (c.drop (fun h => nomatch h)) r
end
end Hb
/-! Df5: ends of a join, joins, nets. -/
namespace Hb
open PySem L2 Mc Ly
/-- three states tell the fourth -/
structure Told (t : List (List Nat)) (a h th b : Nat) : Prop where
  ex : ∃ row, (∀ d ∈ row, d < t.length) ∧ run t a row = th ∧ run t h row = b
  un : ∀ row, (∀ d ∈ row, d < t.length) → run t a row = th → run t h row = b
section
variable {P : Program} {wd : World} {K : PySem.W.Frag} {mg : Str → Option Value} {base : Heap} (B : Blt mg) (G : Gc mg) {Cm : Addr} (T : MK K mg Cm)
abbrev s35 : Stmt := top 35
theorem sc35 : FnScope ["machine", "archive", "here", "there", "rows", "found", "pair", "row"] ["machine", "archive", "here", "there"] (defScope s35) := ⟨rfl, rfl, rfl, by decide +kernel, rfl, by decide +kernel, by decide +kernel⟩
structure EG where
  t : List (List Nat)
  n : Nat
  a : Nat
  h : Nat
  th : Nat
  b : Nat
abbrev PreE (Cm : Addr) (g : EG) (ds : List D) (o : Own) : Prop := ds = [machD Cm g.t g.n, .int (g.a : Int), .int (g.h : Int), .int (g.th : Int)] ∧ o = [] ∧ MOk g.t g.n ∧ g.a < g.n ∧ g.h < g.n ∧ Told g.t g.a g.h g.th g.b
abbrev PostE (g : EG) (d : D) (o : Own) : Prop := o = [] ∧ ∃ row : List Nat, d = .lst [.tup [.int (row.length : Int), .tup (nD row), .int (g.b : Int)]]
theorem fnd_one {t : List (List Nat)} {n a h th b : Nat} {fs : Fnd} (bf : Bfs t n a h fs) (cl : Cld t fs fs.length) (td : Told t a h th b) : ∃ (j : Nat) (row : List Nat), fs[j]? = some ((th, b), row) ∧ ∀ (i : Nat) (e : Pr × List Nat), fs[i]? = some e → e.1.1 = th → i = j := by
  obtain ⟨r0, v0, h1, h2⟩ := td.ex
  have hm := bf.reach cl r0 v0
  rw [h1, h2] at hm
  obtain ⟨e, he, ee⟩ := List.mem_map.mp hm
  obtain ⟨j, hj⟩ := List.getElem?_of_mem he
  obtain ⟨p, row⟩ := e
  simp only at ee
  subst ee
  refine ⟨j, row, hj, fun i e hi hth => ?_⟩
  obtain ⟨q1, q2, q3, _⟩ := bf.sound i e hi
  have h3 : e.1.2 = b := by rw [← q3]; exact td.un e.2 q1 (q2.trans hth)
  have nd := bf.nodup
  have e1 : (fs.map (·.1))[i]? = some (th, b) := by rw [List.getElem?_map, hi]; exact congrArg some (Prod.ext hth h3)
  have e2 : (fs.map (·.1))[j]? = some (th, b) := by rw [List.getElem?_map, hj]; rfl
  have li := lt_of_get e1
  have lj := lt_of_get e2
  have : (fs.map (·.1))[i]'li = (fs.map (·.1))[j]'lj := by
    rw [List.getElem?_eq_getElem li] at e1
    rw [List.getElem?_eq_getElem lj] at e2
    exact (Option.some.inj e1).trans (Option.some.inj e2).symm
  exact (List.getElem_inj nd).mp this
include B T in
theorem ok35 {f : Addr} {fd : FuncData} (F : Df K mg "ends_of" s35 f fd) (C34 : Cal P wd K mg base "pair_rows" 1 ["machine", "one", "other"] (spN (PreP Cm) PostP)) : Cal P wd K mg base "ends_of" 2 ["machine", "archive", "here", "there"] (spN (PreE Cm) PostE) := by
  refine ⟨f, fd, fn_new F.F sc35 (fun g ds o h => by rw [h.1]; rfl) ?_, F.g, F.F.kp, F.F.binds fun _ _ _ _ _ _ us hl => match us, hl with | [_, _, _, _], _ => rfl⟩
  rintro cdv A outer s H Er fm ⟨t, n, a, h, th, b⟩ ds own ⟨rfl, rfl, ok, l1, l2, td⟩ M0 H0 σ D c q hn
  simp only at ok l1 l2 td
  -- rows = pair_rows(machine, archive, here)
  refine b_cons (k_setX (Pq := fun d o => ∃ a' fs, d = .ref a' ∧ o = [(a', .dt (kvF fs))] ∧ Bfs t n a h fs ∧ Cld t fs fs.length) fm 4 c (x_callN fm C34 (EA.x (a_cons (w_nm 0 (fun _ => rfl) rfl) (a_cons (w_nm 1 (fun _ => rfl) rfl) (a_cons (w_nm 2 (fun _ => rfl) rfl) a_nil)))) ?_) (fun _ => rfl) ?_)
  · rintro ds o ⟨rfl, rfl⟩
    refine ⟨⟨t, n, a, h⟩, [], [], List.Perm.refl _, ⟨rfl, rfl, ok, l1, l2⟩, fun d o1' hp => ?_⟩
    obtain ⟨a', fs, e1, e2, e3⟩ := hp
    exact ⟨a', fs, e1, by rw [e2]; rfl, e3⟩
  rintro d o σ M H ⟨ra, fs, rfl, rfl, bf, cl⟩ c
  have hlen := bf.len ok l1 l2
  obtain ⟨j, row, hj, hu⟩ := fnd_one bf cl td
  -- found = [(len(row), row, pair[1]) for pair, row in rows.items() if pair[0] == there]
  refine b_cons (k_setItems fm 5 [("pair", 6), ("row", 7)] (blkOk_by (sc := defScope s35) (by decide +kernel)) (fun _ => rfl) c (r_items [("pair", 6), ("row", 7)] (fun i => decide ((fs.getD i ((0, 0), [])).1.1 = th))
    (fun i => .tup [.int ((fs.getD i ((0, 0), [])).2.length : Int), .tup (nD (fs.getD i ((0, 0), [])).2), .int ((fs.getD i ((0, 0), [])).1.2 : Int)]) (f2 6 7) rfl (fun p hp => nomatch hp) (w_nm 4 (fun _ => rfl) rfl) (by rw [kvF_len]; omega) (fun i o d hi y => ?_) (fun i o d hi y => ?_) (fun i o d hi y hq => ?_)) (fun _ => rfl) fun σ M H c => ?_)
  · cases y with
    | a he => exact cw_tup (Fam.blk fm) (cw_cons (Fam.blk fm) 6 (fun _ => rfl) (by decide) (cw_cons (Fam.blk fm) 7 (fun _ => rfl) (by decide) cw_nil))
    | b q he => exact cw_tup (Fam.blk fm) (cw_cons (Fam.blk fm) 6 (fun _ => rfl) (by decide) (cw_cons (Fam.blk fm) 7 (fun _ => rfl) (by decide) cw_nil))
  · have key : ∀ {k d}, (kvF fs)[i]? = some (k, d) → ∃ e, fs.getD i ((0, 0), []) = e ∧ k = keyP e.1 ∧ d = .tup (nD e.2) := fun {k d} he => by
      unfold kvF at he
      rw [List.getElem?_map, Option.map_eq_some_iff] at he
      obtain ⟨e, h1, h2⟩ := he
      cases h2
      exact ⟨e, getD_of h1, rfl, rfl⟩
    have fin : ∀ x : Nat, decide (V.int (x : Int) = V.int (th : Int)) = decide (x = th) := fun x => decide_eq_decide.mpr ⟨fun z => by have := V.int.inj z; omega, fun z => by rw [z]⟩
    cases y with
    | a he =>
      obtain ⟨e, h1, rfl, rfl⟩ := key he
      rw [h1]
      exact ts_one (et_eq (t_cmp (w_ix (Fam.blk fm) (w_nm 6 (fun _ => rfl) rfl) w_int qT rfl) (w_nm 3 (fun _ => rfl) rfl) cm_eqS) (fin _))
    | b q he =>
      obtain ⟨e, h1, rfl, rfl⟩ := key he
      rw [h1]
      exact ts_one (et_eq (t_cmp (w_ixC (kk := 0) (Fam.blk fm) (w_nm 6 (fun _ => rfl) rfl) w_int rfl rfl) (w_nm 3 (fun _ => rfl) rfl) cm_eqS) (fin _))
  · have key : ∀ {k d}, (kvF fs)[i]? = some (k, d) → ∃ e, fs.getD i ((0, 0), []) = e ∧ k = keyP e.1 ∧ d = .tup (nD e.2) := fun {k d} he => by
      unfold kvF at he
      rw [List.getElem?_map, Option.map_eq_some_iff] at he
      obtain ⟨e, h1, h2⟩ := he
      cases h2
      exact ⟨e, getD_of h1, rfl, rfl⟩
    cases y with
    | a he =>
      obtain ⟨e, h1, rfl, rfl⟩ := key he
      rw [h1]
      refine E.eq (w_tup (a_cons (w_len (Fam.blk fm) B (w_nm 7 (fun _ => rfl) rfl) qT) (a_cons (w_nm 7 (fun _ => rfl) rfl) (a_cons (w_ix (Fam.blk fm) (w_nm 6 (fun _ => rfl) rfl) w_int qT rfl) a_nil))) (show 3 ≤ 100000 by decide)) ?_
      rw [nD_len]
      rfl
    | b q he =>
      obtain ⟨e, h1, rfl, rfl⟩ := key he
      rw [h1]
      refine E.eq (w_tup (a_cons (w_len (Fam.blk fm) B (w_nm 7 (fun _ => rfl) rfl) qT) (a_cons (w_nm 7 (fun _ => rfl) rfl) (a_cons (w_ixC (kk := 0) (Fam.blk fm) (w_nm 6 (fun _ => rfl) rfl) w_int rfl rfl) a_nil))) (show 3 ≤ 100000 by decide)) ?_
      rw [nD_len]
      rfl
  · -- return sorted(found)
    have e1 : keepI (kvF fs).length (fun i => decide ((fs.getD i ((0, 0), [])).1.1 = th)) (fun i => .tup [.int ((fs.getD i ((0, 0), [])).2.length : Int), .tup (nD (fs.getD i ((0, 0), [])).2), .int ((fs.getD i ((0, 0), [])).1.2 : Int)]) = [.tup [.int (row.length : Int), .tup (nD row), .int (b : Int)]] := by
      unfold keepI
      rw [kvF_len, filter_one (lt_of_get hj) (by rw [getD_of hj]; simp) fun i hi hqi => by
        have h1 : fs[i]? = some fs[i] := by simp [hi]
        rw [getD_of h1] at hqi
        exact hu i _ h1 (of_decide_eq_true hqi)]
      rw [List.map_singleton, getD_of hj]
    rw [e1] at c
    exact b_one (k_ret c (w_sorted1 fm B (w_nm 5 (fun _ => rfl) rfl)) fun v M H c r => q v _ _ _ _ M H ⟨rfl, row, rfl⟩ (c.drop (fun h => nomatch h)) r)
abbrev s36 : Stmt := top 36
theorem sc36 : FnScope ["machine", "archive", "here", "there", "ends"] ["machine", "archive", "here", "there"] (defScope s36) := ⟨rfl, rfl, rfl, by decide +kernel, rfl, by decide +kernel, by decide +kernel⟩
abbrev RJoin (Cm : Addr) : List D → D → Prop := fun ds d => ∃ (t : List (List Nat)) (n a h th b : Nat), ds = [machD Cm t n, .int (a : Int), .int (h : Int), .int (th : Int)] ∧ MOk t n ∧ a < n ∧ h < n ∧ th < n ∧ Told t a h th b ∧ d = .int (b : Int)
include B in
theorem ok36 {f : Addr} {fd : FuncData} (F : Df K mg "join" s36 f fd) (C29 : Cal P wd K mg base "need_state" 4 ["machine", "state"] (spD (RNeed Cm))) (C35 : Cal P wd K mg base "ends_of" 2 ["machine", "archive", "here", "there"] (spN (PreE Cm) PostE)) : Cal P wd K mg base "join" 5 ["machine", "archive", "here", "there"] (spD (RJoin Cm)) := by
  refine cal_pure F.F sc36 F.g (F.F.binds fun _ _ _ _ _ _ us hl => match us, hl with | [_, _, _, _], _ => rfl) (fun ds d ⟨_, _, _, _, _, _, e, _⟩ => by rw [e]; rfl) ?_
  rintro cdv A outer s H Er fm ds d ⟨t, n, a, h, th, b, rfl, ok, l1, l2, l3, td, rfl⟩ M0 H0 σ D c q
  refine b_cons (k_drop c (w_call fm C29 (a_cons (w_nm 0 (fun _ => rfl) rfl) (a_cons (w_nm 1 (fun _ => rfl) rfl) a_nil)) ⟨t, n, a, rfl, l1, rfl⟩).x ?_)
  rintro _ _ M H ⟨rfl, rfl⟩ c
  refine b_cons (k_drop c (w_call fm C29 (a_cons (w_nm 0 (fun _ => rfl) rfl) (a_cons (w_nm 2 (fun _ => rfl) rfl) a_nil)) ⟨t, n, h, rfl, l2, rfl⟩).x ?_)
  rintro _ _ M H ⟨rfl, rfl⟩ c
  refine b_cons (k_drop c (w_call fm C29 (a_cons (w_nm 0 (fun _ => rfl) rfl) (a_cons (w_nm 3 (fun _ => rfl) rfl) a_nil)) ⟨t, n, th, rfl, l3, rfl⟩).x ?_)
  rintro _ _ M H ⟨rfl, rfl⟩ c
  refine b_cons (k_setX (Pq := fun d o => o = [] ∧ ∃ row : List Nat, d = .lst [.tup [.int (row.length : Int), .tup (nD row), .int (b : Int)]]) fm 4 c (x_callN fm C35 (EA.x (a_cons (w_nm 0 (fun _ => rfl) rfl) (a_cons (w_nm 1 (fun _ => rfl) rfl) (a_cons (w_nm 2 (fun _ => rfl) rfl) (a_cons (w_nm 3 (fun _ => rfl) rfl) a_nil))))) ?_) (fun _ => rfl) ?_)
  · rintro ds o ⟨rfl, rfl⟩
    refine ⟨⟨t, n, a, h, th, b⟩, [], [], List.Perm.refl _, ⟨rfl, rfl, ok, l1, l2, td⟩, fun d o1' hp => ?_⟩
    obtain ⟨rfl, row, e⟩ := hp
    exact ⟨rfl, row, e⟩
  rintro d o σ M H ⟨rfl, row, rfl⟩ c
  refine b_cons (k_if c (t_cmp (w_len fm B (w_nm 4 (fun _ => rfl) rfl) qL) w_int cm_neS) (fun h M H c => ?_) fun h M H c => ?_)
  · cases h
  refine b_nil ?_
  exact b_one (k_ret c (w_ix fm (w_ix fm (w_nm 4 (fun _ => rfl) rfl) w_int qL rfl) w_int qT rfl) fun v M H c r => q v _ _ M H c r)
end
end Hb
/-! Df6: nets. -/
namespace Hb
open PySem L2 Mc Ly
theorem cut_to {α : Type} {xs : List α} {k : Nat} (h : k ≤ xs.length) : cutD xs none (some (k : Int)) = xs.take k := by
  unfold cutD
  rw [HT.sIx_none, HT.sIx_nat]
  simp [Nat.min_eq_left h]
theorem cut_from {α : Type} {xs : List α} {k : Nat} (h : k ≤ xs.length) : cutD xs (some (k : Int)) none = xs.drop k := by
  unfold cutD
  rw [HT.sIx_none, HT.sIx_nat, Nat.min_eq_left h]
  exact List.take_of_length_le (by rw [List.length_drop]; exact Nat.le_refl _)
theorem nD_set {l : List Nat} {k v : Nat} (h : k < l.length) : (nD l).take k ++ [.int (v : Int)] ++ (nD l).drop (k + 1) = nD (l.set k v) := by
  have e := List.set_eq_take_append_cons_drop (l := l) (i := k) (a := v)
  rw [if_pos h] at e
  rw [e]
  unfold nD
  rw [List.map_append, List.map_cons, List.map_take, List.map_drop]; simp
section
variable {P : Program} {wd : World} {K : PySem.W.Frag} {mg : Str → Option Value} {base : Heap} (B : Blt mg) (G : Gc mg) {Cm Cw Cn : Addr} (T : MK K mg Cm) (W : WK K mg Cw)
abbrev s49 : Stmt := top 49
theorem sc49 : FnScope ["row", "at", "value"] ["row", "at", "value"] (defScope s49) := ⟨rfl, rfl, rfl, by decide +kernel, rfl, by decide +kernel, by decide +kernel⟩
abbrev RPut : List D → D → Prop := fun ds d => ∃ (l : List Nat) (k v : Nat), ds = [.tup (nD l), .int (k : Int), .int (v : Int)] ∧ k < l.length ∧ l.length ≤ 1000 ∧ d = .tup (nD (l.set k v))
theorem ok49 {f : Addr} {fd : FuncData} (F : Df K mg "put_at" s49 f fd) : Cal P wd K mg base "put_at" 1 ["row", "at", "value"] (spD RPut) := by
  refine cal_pure F.F sc49 F.g (F.F.binds fun _ _ _ _ _ _ us hl => match us, hl with | [_, _, _], _ => rfl) (fun ds d ⟨_, _, _, e, _⟩ => by rw [e]; rfl) ?_
  rintro cdv A outer s H Er fm ds d ⟨l, k, v, rfl, hk, hl, rfl⟩ M0 H0 σ D c q
  have e1 : slD none (some (k : Int)) (.tup (nD l)) = .tup ((nD l).take k) := congrArg Ly.D.tup (cut_to (by rw [nD_len]; omega))
  have e2 : slD (some ((k : Int) + 1)) none (.tup (nD l)) = .tup ((nD l).drop (k + 1)) := congrArg Ly.D.tup (cut_from (k := k + 1) (by rw [nD_len]; omega))
  refine b_one (k_ret c (E.eq (w_add fm (w_add fm (E.eq (w_sl fm (w_nm 0 (fun _ => rfl) rfl) o_none (o_some (w_nm 1 (fun _ => rfl) rfl)) qT) e1) (w_tup (a_cons (w_nm 2 (fun _ => rfl) rfl) a_nil) (show 1 ≤ 100000 by decide)) ?_) (E.eq (w_sl fm (w_nm 0 (fun _ => rfl) rfl) (o_some (w_addI fm (w_nm 1 (fun _ => rfl) rfl) w_int)) o_none qT) e2) ?_) ?_) fun v M H c r => q v _ _ M H c r)
  · show ((nD l).take k).length + 1 ≤ 100000
    rw [List.length_take, nD_len]; omega
  · show ((nD l).take k ++ [_]).length + ((nD l).drop (k + 1)).length ≤ 100000
    rw [List.length_append, List.length_take, List.length_drop, nD_len]
    simp only [List.length_singleton]
    omega
  · exact congrArg Ly.D.tup (nD_set hk)
theorem mulT {x : D} {n : Nat} (h : n ≤ 1000) : mulOk (.tup [x]) (.int (n : Int)) := ⟨by simp, by omega, by omega, by show 1 ≤ 1000; decide⟩
/-- the class of nets -/
structure NK (K : PySem.W.Frag) (mg : Str → Option Value) (Cn : Addr) : Prop where
  kl : Kls K mg "Net" Cn
  machine : NoAttr K Cn "machine"
  web : NoAttr K Cn "web"
  first : NoAttr K Cn "first"
  states : NoAttr K Cn "states"
  archives : NoAttr K Cn "archives"
  steps : NoAttr K Cn "steps"
structure NG where
  t : List (List Nat)
  n : Nat
  h : Nat
  ts : List Tie
  first : Nat
def netF (Cm Cw : Addr) (g : NG) (ss as : List Nat) (sp : List Stp) : List (Str × D) :=
  [("machine", machD Cm g.t g.n), ("web", webD Cw g.h g.ts), ("first", .int (g.first : Int)), ("states", .tup (nD ss)), ("archives", .tup (nD as)), ("steps", .tup (sp.map stT))]
structure NGOk (g : NG) : Prop where
  m : MOk g.t g.n
  w : WOk g.h g.ts
  f : g.first < g.n
variable (N : NK K mg Cn)
theorem rep_flat {n x : Nat} : (List.replicate n [D.int (x : Int)]).flatten = nD (List.replicate n x) := by
  unfold nD
  rw [List.map_replicate]
  induction n with
  | zero => rfl
  | succ n ih => rw [List.replicate_succ, List.flatten_cons, ih, List.replicate_succ]; rfl
abbrev s50 : Stmt := inClass (top 50) 0
theorem sc50 : FnScope ["self", "machine", "web", "first"] ["self", "machine", "web", "first"] (defScope s50) := ⟨rfl, rfl, rfl, by decide +kernel, rfl, by decide +kernel, by decide +kernel⟩
abbrev RNet (Cm Cw Cn : Addr) : List D → Own → D → Own → Prop := fun ds o d o' => ∃ (g : NG) (a : Addr), ds = [.ref a, machD Cm g.t g.n, webD Cw g.h g.ts, .int (g.first : Int)] ∧ o = [(a, .ins Cn [])] ∧ NGOk g ∧ d = .non ∧ o' = [(a, .ins Cn (netF Cm Cw g (List.replicate g.h g.first) (List.replicate g.ts.length g.first) []))]
include B W N in
theorem ok50 {f : Addr} {fd : FuncData} (F : Fun K "__init__" "Net.__init__" s50 f fd) (C29 : Cal P wd K mg base "need_state" 4 ["machine", "state"] (spD (RNeed Cm))) : FnOk P wd K mg base (L2.CX P wd) 5 f fd ["self", "machine", "web", "first"] (spO (RNet Cm Cw Cn)) := by
  refine fn_own F sc50 (fun ds o d o' ⟨_, _, e, _⟩ => by rw [e]; rfl) ?_
  rintro cdv A outer s H Er fm ds own d own' ⟨⟨t, n, h, ts, fi⟩, a, rfl, rfl, ⟨om, ow, of⟩, rfl, rfl⟩ M0 H0 σ D c q hn
  simp only at om ow of
  have k2 := ow.h12
  have k3 := ow.t20
  refine b_cons (k_drop c (w_call fm C29 (a_cons (w_nm 1 (fun _ => rfl) rfl) (a_cons (w_nm 3 (fun _ => rfl) rfl) a_nil)) ⟨t, n, fi, rfl, of, rfl⟩).x ?_)
  rintro _ _ M H ⟨rfl, rfl⟩ c
  refine b_cons (k_fld fm (kk := 0) c (w_nm 1 (fun _ => rfl) rfl) (w_nm 0 (fun _ => rfl) rfl) rfl N.kl.cl N.machine (lt1000 (m := 0) rfl) fun M H c => ?_)
  refine b_cons (k_fld fm (kk := 0) c (w_nm 2 (fun _ => rfl) rfl) (w_nm 0 (fun _ => rfl) rfl) rfl N.kl.cl N.web (lt1000 (m := 1) rfl) fun M H c => ?_)
  refine b_cons (k_fld fm (kk := 0) c (w_nm 3 (fun _ => rfl) rfl) (w_nm 0 (fun _ => rfl) rfl) rfl N.kl.cl N.first (lt1000 (m := 2) rfl) fun M H c => ?_)
  refine b_cons (k_fld fm (kk := 0) c (w_mul fm (w_tup (a_cons (w_nm 3 (fun _ => rfl) rfl) a_nil) (show 1 ≤ 100000 by decide)) (w_fld fm (w_nm 2 (fun _ => rfl) rfl) W.kl.cl W.houses rfl) (mulT (n := h) (by omega))) (w_nm 0 (fun _ => rfl) rfl) rfl N.kl.cl N.states (lt1000 (m := 3) rfl) fun M H c => ?_)
  refine b_cons (k_fld fm (kk := 0) c (w_mul fm (w_tup (a_cons (w_nm 3 (fun _ => rfl) rfl) a_nil) (show 1 ≤ 100000 by decide)) (w_len fm B (w_fld fm (w_nm 2 (fun _ => rfl) rfl) W.kl.cl W.ties rfl) qT) (mulT (n := (pT ts).length) (by rw [pT_len]; omega))) (w_nm 0 (fun _ => rfl) rfl) rfl N.kl.cl N.archives (lt1000 (m := 4) rfl) fun M H c => ?_)
  refine b_cons (k_fld fm (kk := 0) c (w_tup a_nil) (w_nm 0 (fun _ => rfl) rfl) rfl N.kl.cl N.steps (lt1000 (m := 5) rfl) fun M H c => ?_)
  have e1 : mulD (.tup [.int (fi : Int)]) (.int (h : Int)) = .tup (nD (List.replicate h fi)) := congrArg Ly.D.tup (by rw [Int.toNat_natCast]; exact rep_flat)
  have e2 : mulD (.tup [.int (fi : Int)]) (.int ((pT ts).length : Int)) = .tup (nD (List.replicate ts.length fi)) := congrArg Ly.D.tup (by rw [Int.toNat_natCast, pT_len]; exact rep_flat)
  rw [e1, e2] at c
  exact b_nil ((hn _ _).mpr (q .non _ _ M H c (.raw _)))
/-- what is asked of a net's states -/
structure NSt (g : NG) (ss as : List Nat) : Prop where
  s1 : ss.length = g.h
  s2 : ∀ x ∈ ss, x < g.n
  a1 : as.length = g.ts.length
  a2 : ∀ x ∈ as, x < g.n
abbrev s50d : Stmt := inClass (top 50) 1
theorem sc50d : FnScope ["self", "house", "deed", "state"] ["self", "house", "deed"] (defScope s50d) := ⟨rfl, rfl, rfl, by decide +kernel, rfl, by decide +kernel, by decide +kernel⟩
abbrev RDo (Cm Cw Cn : Addr) : List D → Own → D → Own → Prop := fun ds o d o' => ∃ (g : NG) (a : Addr) (ss as : List Nat) (sp : List Stp) (v k : Nat), ds = [.ref a, .int (v : Int), .int (k : Int)] ∧ o = [(a, .ins Cn (netF Cm Cw g ss as sp))] ∧ NGOk g ∧ NSt g ss as ∧ sp.length ≤ 1000 ∧ v < g.h ∧ k < g.t.length ∧
  d = .int (step g.t (ss.getD v 0) k : Nat) ∧ o' = [(a, .ins Cn (netF Cm Cw g (ss.set v (step g.t (ss.getD v 0) k)) as (sp ++ [.act v k])))]
theorem mem_getD {l : List Nat} {i : Nat} (h : i < l.length) : l.getD i 0 ∈ l := by
  have : l.getD i 0 = l[i] := by simp [List.getD, h]
  rw [this]; exact List.getElem_mem h
include B G T N in
theorem ok50d {f : Addr} {fd : FuncData} (F : Fun K "do" "Net.do" s50d f fd) (C41 : Cal P wd K mg base "need_house" 4 ["web", "house"] (spD (RNeedH Cw))) (C30 : Cal P wd K mg base "need_deed" 4 ["machine", "deed"] (spD (RNeedD Cm))) (C49 : Cal P wd K mg base "put_at" 1 ["row", "at", "value"] (spD RPut)) : FnOk P wd K mg base (L2.CX P wd) 5 f fd ["self", "house", "deed"] (spO (RDo Cm Cw Cn)) := by
  refine fn_own F sc50d (fun ds o d o' ⟨_, _, _, _, _, _, _, e, _⟩ => by rw [e]; rfl) ?_
  rintro cdv A outer s H Er fm ds own d own' ⟨⟨t, n, h, ts, fi⟩, a, ss, as, sp, v, k, rfl, rfl, ⟨om, ow, of⟩, ⟨s1, s2, a1, a2⟩, hsp, hv, hk, rfl, rfl⟩ M0 H0 σ D c q hn
  simp only at om ow of s1 s2 a1 a2 hv hk
  have k2 := ow.h12
  have hst : ss.getD v 0 < n := s2 _ (mem_getD (by omega))
  refine b_cons (k_drop c (w_call fm C41 (a_cons (w_fldO fm (kk := 0) (w_nm 0 (fun _ => rfl) rfl) rfl N.kl.cl N.web rfl) (a_cons (w_nm 1 (fun _ => rfl) rfl) a_nil)) ⟨h, ts, v, rfl, hv, rfl⟩).x ?_)
  rintro _ _ M H ⟨rfl, rfl⟩ c
  refine b_cons (k_drop c (w_call fm C30 (a_cons (w_fldO fm (kk := 0) (w_nm 0 (fun _ => rfl) rfl) rfl N.kl.cl N.machine rfl) (a_cons (w_nm 2 (fun _ => rfl) rfl) a_nil)) ⟨t, n, k, rfl, hk, rfl⟩).x ?_)
  rintro _ _ M H ⟨rfl, rfl⟩ c
  refine b_cons (k_set fm 3 c (w_ix fm (w_ix fm (w_fld fm (w_fldO fm (kk := 0) (w_nm 0 (fun _ => rfl) rfl) rfl N.kl.cl N.machine rfl) T.kl.cl T.tables rfl) (w_nm 2 (fun _ => rfl) rfl) qT (atI_of k (tT_at hk))) (w_ix fm (w_fldO fm (kk := 0) (w_nm 0 (fun _ => rfl) rfl) rfl N.kl.cl N.states rfl) (w_nm 1 (fun _ => rfl) rfl) qT (atI_of v (nD_at (by omega)))) qT (atI_of (ss.getD v 0) (nD_at (by rw [(om.at_ hk).1]; exact hst)))) (fun _ => rfl) fun σ M H c => ?_)
  refine b_cons (k_fld fm (kk := 0) c (w_call fm C49 (a_cons (w_fldO fm (kk := 0) (w_nm 0 (fun _ => rfl) rfl) rfl N.kl.cl N.states rfl) (a_cons (w_nm 1 (fun _ => rfl) rfl) (a_cons (w_nm 3 (fun _ => rfl) rfl) a_nil))) ⟨ss, v, _, rfl, by omega, by omega, rfl⟩) (w_nm 0 (fun _ => rfl) rfl) rfl N.kl.cl N.states (lt1000 (m := 6) rfl) fun M H c => ?_)
  refine b_cons (k_fldT fm (kk := 0) (f := "steps") (xs := sp.map stT) c (w_nm 0 (fun _ => rfl) rfl) rfl rfl (w_tup (a_cons (w_tup (a_cons (w_gs fm G.DO) (a_cons (w_nm 1 (fun _ => rfl) rfl) (a_cons (w_nm 2 (fun _ => rfl) rfl) a_nil))) (show 3 ≤ 100000 by decide)) a_nil) (show 1 ≤ 100000 by decide)) N.kl.cl N.steps (lt1000 (m := 6) rfl) (by rw [List.length_map]; show sp.length + 1 ≤ 100000; omega) fun M H c => ?_)
  have e : sp.map stT ++ [.tup [.str "do", .int (v : Int), .int (k : Int)]] = (sp ++ [Stp.act v k]).map stT := by rw [List.map_append]; rfl
  rw [e] at c
  exact b_one (k_ret c (w_nm 3 (fun _ => rfl) rfl) fun v M H c r => q v _ _ M H c r)
abbrev s50m : Stmt := inClass (top 50) 2
theorem sc50m : FnScope ["self", "tie", "here", "there", "state"] ["self", "tie"] (defScope s50m) := ⟨rfl, rfl, rfl, by decide +kernel, rfl, by decide +kernel, by decide +kernel⟩
abbrev RMeet (Cm Cw Cn : Addr) : List D → Own → D → Own → Prop := fun ds o d o' => ∃ (g : NG) (a : Addr) (ss as : List Nat) (sp : List Stp) (i b : Nat) (p : Tie), ds = [.ref a, .int (i : Int)] ∧ o = [(a, .ins Cn (netF Cm Cw g ss as sp))] ∧ NGOk g ∧ NSt g ss as ∧ sp.length ≤ 1000 ∧ g.ts[i]? = some p ∧
  Told g.t (as.getD i 0) (ss.getD p.1 0) (ss.getD p.2 0) b ∧ d = .int (b : Nat) ∧ o' = [(a, .ins Cn (netF Cm Cw g ((ss.set p.1 b).set p.2 b) (as.set i b) (sp ++ [.meet i])))]
include B G T W N in
theorem ok50m {f : Addr} {fd : FuncData} (F : Fun K "meet" "Net.meet" s50m f fd) (C42 : Cal P wd K mg base "need_tie" 4 ["web", "tie"] (spD (RNeedT Cw))) (C36 : Cal P wd K mg base "join" 5 ["machine", "archive", "here", "there"] (spD (RJoin Cm))) (C49 : Cal P wd K mg base "put_at" 1 ["row", "at", "value"] (spD RPut)) : FnOk P wd K mg base (L2.CX P wd) 6 f fd ["self", "tie"] (spO (RMeet Cm Cw Cn)) := by
  refine fn_own F sc50m (fun ds o d o' ⟨_, _, _, _, _, _, _, _, e, _⟩ => by rw [e]; rfl) ?_
  rintro cdv A outer s H Er fm ds own d own' ⟨⟨t, n, h, ts, fi⟩, a, ss, as, sp, i, b, p, rfl, rfl, ⟨om, ow, of⟩, ⟨s1, s2, a1, a2⟩, hsp, hi, td, rfl, rfl⟩ M0 H0 σ D c q hn
  simp only at om ow of s1 s2 a1 a2 hi td
  have k2 := ow.h12
  have k3 := ow.t20
  have hit := lt_of_get hi
  obtain ⟨p1, p2, p3⟩ := ow.tie p (List.mem_of_getElem? hi)
  refine b_cons (k_asg c (w_ix fm (w_fld fm (w_fldO fm (kk := 0) (w_nm 0 (fun _ => rfl) rfl) rfl N.kl.cl N.web rfl) W.kl.cl W.ties rfl) (w_call fm C42 (a_cons (w_fldO fm (kk := 0) (w_nm 0 (fun _ => rfl) rfl) rfl N.kl.cl N.web rfl) (a_cons (w_nm 1 (fun _ => rfl) rfl) a_nil)) ⟨h, ts, i, rfl, hit, rfl⟩) qT (atI_of i (pT_at hi))) (g_tup fm (g_cons fm 2 (fun _ => rfl) (g_cons fm 3 (fun _ => rfl) g_nil))) fun σ M H c => ?_)
  refine b_cons (k_set fm 4 c (w_call fm C36 (a_cons (w_fldO fm (kk := 0) (w_nm 0 (fun _ => rfl) rfl) rfl N.kl.cl N.machine rfl) (a_cons (w_ix fm (w_fldO fm (kk := 0) (w_nm 0 (fun _ => rfl) rfl) rfl N.kl.cl N.archives rfl) (w_nm 1 (fun _ => rfl) rfl) qT (atI_of i (nD_at (by omega)))) (a_cons (w_ix fm (w_fldO fm (kk := 0) (w_nm 0 (fun _ => rfl) rfl) rfl N.kl.cl N.states rfl) (w_nm 2 (fun _ => rfl) rfl) qT (atI_of p.1 (nD_at (by omega)))) (a_cons (w_ix fm (w_fldO fm (kk := 0) (w_nm 0 (fun _ => rfl) rfl) rfl N.kl.cl N.states rfl) (w_nm 3 (fun _ => rfl) rfl) qT (atI_of p.2 (nD_at (by omega)))) a_nil))))
    ⟨t, n, _, _, _, b, rfl, om, a2 _ (mem_getD (by omega)), s2 _ (mem_getD (by omega)), s2 _ (mem_getD (by omega)), td, rfl⟩) (fun _ => rfl) fun σ M H c => ?_)
  refine b_cons (k_fld fm (kk := 0) c (w_call fm C49 (a_cons (w_call fm C49 (a_cons (w_fldO fm (kk := 0) (w_nm 0 (fun _ => rfl) rfl) rfl N.kl.cl N.states rfl) (a_cons (w_nm 2 (fun _ => rfl) rfl) (a_cons (w_nm 4 (fun _ => rfl) rfl) a_nil))) ⟨ss, p.1, b, rfl, by omega, by omega, rfl⟩) (a_cons (w_nm 3 (fun _ => rfl) rfl) (a_cons (w_nm 4 (fun _ => rfl) rfl) a_nil))) ⟨ss.set p.1 b, p.2, b, rfl, by rw [List.length_set]; omega, by rw [List.length_set]; omega, rfl⟩) (w_nm 0 (fun _ => rfl) rfl) rfl N.kl.cl N.states (lt1000 (m := 6) rfl) fun M H c => ?_)
  refine b_cons (k_fld fm (kk := 0) c (w_call fm C49 (a_cons (w_fldO fm (kk := 0) (w_nm 0 (fun _ => rfl) rfl) rfl N.kl.cl N.archives rfl) (a_cons (w_nm 1 (fun _ => rfl) rfl) (a_cons (w_nm 4 (fun _ => rfl) rfl) a_nil))) ⟨as, i, b, rfl, by omega, by omega, rfl⟩) (w_nm 0 (fun _ => rfl) rfl) rfl N.kl.cl N.archives (lt1000 (m := 6) rfl) fun M H c => ?_)
  refine b_cons (k_fldT fm (kk := 0) (f := "steps") (xs := sp.map stT) c (w_nm 0 (fun _ => rfl) rfl) rfl rfl (w_tup (a_cons (w_tup (a_cons (w_gs fm G.MEET) (a_cons (w_nm 1 (fun _ => rfl) rfl) a_nil)) (show 2 ≤ 100000 by decide)) a_nil) (show 1 ≤ 100000 by decide)) N.kl.cl N.steps (lt1000 (m := 6) rfl) (by rw [List.length_map]; show sp.length + 1 ≤ 100000; omega) fun M H c => ?_)
  have e : sp.map stT ++ [.tup [.str "meet", .int (i : Int)]] = (sp ++ [Stp.meet i]).map stT := by rw [List.map_append]; rfl
  rw [e] at c
  exact b_one (k_ret c (w_nm 4 (fun _ => rfl) rfl) fun v M H c r => q v _ _ M H c r)
end
end Hb
/-! Df7: powers of a row, deeds led by counts, the deeds of steps. -/
namespace Hb
open PySem L2 Mc Ly
/-! ### plain -/
def itr (f : Nat → Nat) : Nat → Nat → Nat
  | 0, s => s
  | n + 1, s => f (itr f n s)
theorem itr_add (f : Nat → Nat) (s : Nat) : ∀ (m n : Nat), itr f (m + n) s = itr f m (itr f n s)
  | 0, n => by rw [Nat.zero_add]; rfl
  | m + 1, n => by rw [Nat.succ_add]; show f _ = f _; rw [itr_add f s m n]
theorem itr_lt {f : Nat → Nat} {n s : Nat} (hf : ∀ x, x < n → f x < n) (hs : s < n) : ∀ k, itr f k s < n
  | 0 => hs
  | k + 1 => hf _ (itr_lt hf hs k)
theorem itr_per {f : Nat → Nat} {s i k : Nat} (h : itr f k s = itr f i s) (hik : i < k) : ∀ c m, itr f (i + m + c * (k - i)) s = itr f (i + m) s
  | 0, m => by rw [Nat.zero_mul, Nat.add_zero]
  | c + 1, m => by
    have e : i + m + (c + 1) * (k - i) = (m + c * (k - i)) + k := by rw [Nat.succ_mul]; omega
    rw [e, itr_add, h, ← itr_add, ← itr_per h hik c m]
    congr 1; omega
theorem itr_led {f : Nat → Nat} {s i k : Nat} (h : itr f k s = itr f i s) (hik : i < k) (n : Nat) : itr f (if n < i then n else i + (n - i) % (k - i)) s = itr f n s := by
  by_cases hn : n < i
  · rw [if_pos hn]
  · rw [if_neg hn]
    have e : n = i + (n - i) % (k - i) + ((n - i) / (k - i)) * (k - i) := by
      have := Nat.mod_add_div (n - i) (k - i)
      rw [Nat.mul_comm] at this
      omega
    have := itr_per h hik ((n - i) / (k - i)) ((n - i) % (k - i))
    rw [← this]
    congr 1; omega
def deedsOf (ss : List Stp) : List Nat := ss.filterMap fun s => match s with | .act _ d => some d | .meet _ => none
def isAct : Stp → Bool
  | .act _ _ => true
  | .meet _ => false
def ledc (t : List (List Nat)) (s : Nat) (deeds counts : List Nat) : Nat := (deeds.zip counts).foldl (fun s p => itr (fun x => step t x p.1) p.2 s) s
section
variable {P : Program} {wd : World} {K : PySem.W.Frag} {mg : Str → Option Value} {base : Heap} (B : Blt mg) (G : Gc mg) {Cm Cw Cn : Addr} (T : MK K mg Cm) (W : WK K mg Cw)
abbrev s52 : Stmt := top 52
theorem sc52 : FnScope ["machine", "state", "row", "told", "met", "here"] ["machine", "state", "row"] (defScope s52) := ⟨rfl, rfl, rfl, by decide +kernel, rfl, by decide +kernel, by decide +kernel⟩
structure PG where
  t : List (List Nat)
  n : Nat
  s : Nat
  row : List Nat
abbrev PrePo (Cm : Addr) (g : PG) (ds : List D) (o : Own) : Prop := ds = [machD Cm g.t g.n, .int (g.s : Int), .tup (nD g.row)] ∧ o = [] ∧ MOk g.t g.n ∧ g.s < g.n ∧ (∀ x ∈ g.row, x < g.t.length) ∧ g.row.length ≤ 1000
abbrev PostPo (g : PG) (d : D) (o : Own) : Prop := o = [] ∧ ∃ i k : Nat, i < k ∧ k ≤ 12 ∧ itr (fun x => run g.t x g.row) k g.s = itr (fun x => run g.t x g.row) i g.s ∧ d = .tup [.int (i : Int), .int ((k : Int) - (i : Int))]
/-- what is met: the i-th state at i -/
def metK (f : Nat → Nat) (s k : Nat) : List (Key × D) := (List.range k).map fun i => (.inl ((itr f i s : Nat) : Int), .int (i : Int))
theorem metK_len {f : Nat → Nat} {s k : Nat} : (metK f s k).length = k := by unfold metK; rw [List.length_map, List.length_range]
theorem metK_val {f : Nat → Nat} {s k x : Nat} : (valD (metK f s k) (.inl (x : Int)) = none ∧ ∀ i, i < k → itr f i s ≠ x) ∨ ∃ i, i < k ∧ itr f i s = x ∧ valD (metK f s k) (.inl (x : Int)) = some (.int (i : Int)) := by
  unfold valD
  cases h : (metK f s k).find? (fun kv => decide (kv.1 = .inl (x : Int))) with
  | none =>
    refine .inl ⟨rfl, fun i hi e => ?_⟩
    rw [List.find?_eq_none] at h
    refine h (.inl ((itr f i s : Nat) : Int), .int (i : Int)) (List.mem_map.mpr ⟨i, List.mem_range.mpr hi, rfl⟩) ?_
    rw [e]; simp
  | some p =>
    have h1 := List.mem_of_find?_eq_some h
    have h2 := List.find?_some h
    obtain ⟨i, hi, rfl⟩ := List.mem_map.mp h1
    refine .inr ⟨i, List.mem_range.mp hi, ?_, rfl⟩
    have h3 := of_decide_eq_true h2
    have := Sum.inl.inj h3
    omega
theorem metK_put {f : Nat → Nat} {s k : Nat} (h : ∀ i, i < k → itr f i s ≠ itr f k s) : putDk (metK f s k) (.inl ((itr f k s : Nat) : Int)) (.int (k : Int)) = metK f s (k + 1) := by
  unfold putDk
  rw [if_neg]
  · unfold metK
    rw [List.range_succ, List.map_append]
    rfl
  · rw [List.any_eq_true]
    rintro ⟨x, hx, hd⟩
    obtain ⟨i, hi, rfl⟩ := List.mem_map.mp hx
    have h3 := Sum.inl.inj (of_decide_eq_true hd)
    exact h i (List.mem_range.mp hi) (by omega)
theorem met_le {f : Nat → Nat} {n s k : Nat} (hf : ∀ x, x < n → f x < n) (hs : s < n) (hd : ∀ i j, i < j → j < k → itr f i s ≠ itr f j s) : k ≤ n := by
  have := nodup_lt n ((List.range k).map fun i => itr f i s) ?_ fun x hx => by
    obtain ⟨i, hi, rfl⟩ := List.mem_map.mp hx
    exact itr_lt hf hs i
  · rwa [List.length_map, List.length_range] at this
  · rw [List.Nodup, List.pairwise_map]
    refine List.Pairwise.imp_of_mem ?_ (List.pairwise_lt_range (n := k))
    intro a b ha hb hab
    exact hd a b hab (List.mem_range.mp hb)
include B T in
theorem ok52 {f : Addr} {fd : FuncData} (F : Df K mg "power_of" s52 f fd) (C29 : Cal P wd K mg base "need_state" 4 ["machine", "state"] (spD (RNeed Cm))) (C31 : Cal P wd K mg base "check_row" 4 ["machine", "value"] (spD (RRow Cm))) (C32 : Cal P wd K mg base "run_on" 1 ["tables", "state", "row"] (spD RRun)) : Cal P wd K mg base "power_of" 5 ["machine", "state", "row"] (spN (PrePo Cm) PostPo) := by
  refine ⟨f, fd, fn_new F.F sc52 (fun g ds o h => by rw [h.1]; rfl) ?_, F.g, F.F.kp, F.F.binds fun _ _ _ _ _ _ us hl => match us, hl with | [_, _, _], _ => rfl⟩
  rintro cdv A outer s H Er fm ⟨t, n, st, row⟩ ds own ⟨rfl, rfl, ok, l1, l2, l3⟩ M0 H0 σ D c q hn
  simp only at ok l1 l2 l3
  have hf : ∀ x, x < n → run t x row < n := fun x hx => ok.run l2 hx
  have n12 := ok.n12
  refine b_cons (k_drop c (w_call fm C29 (a_cons (w_nm 0 (fun _ => rfl) rfl) (a_cons (w_nm 1 (fun _ => rfl) rfl) a_nil)) ⟨t, n, st, rfl, l1, rfl⟩).x ?_)
  rintro _ _ M H ⟨rfl, rfl⟩ c
  refine b_cons (k_set fm 3 c (w_call fm C31 (a_cons (w_nm 0 (fun _ => rfl) rfl) (a_cons (w_nm 2 (fun _ => rfl) rfl) a_nil)) ⟨t, n, row, rfl, l2, l3, rfl⟩) (fun _ => rfl) fun σ M H c => ?_)
  refine b_cons (k_setX fm 4 c x_dnewK (fun _ => rfl) ?_)
  rintro d o σ M H ⟨ma, rfl, rfl⟩ c
  refine b_cons (k_set fm 5 c (w_nm 1 (fun _ => rfl) rfl) (fun _ => rfl) fun σ M H c => ?_)
  refine b_cons (k_while (G := Nat) (fun k => ∀ i j, i < j → j < k → itr (fun x => run t x row) i st ≠ itr (fun x => run t x row) j st) (fun k => 100 - k) (fun k => [(ma, .dk (metK (fun x => run t x row) st k))])
    (fun k => [some (machD Cm t n), some (.int (st : Int)), some (.tup (nD row)), some (.tup (nD row)), some (.ref ma), some (.int ((itr (fun x => run t x row) k st : Nat) : Int))]) 0 (fun k => !(valD (metK (fun x => run t x row) st k) (.inl ((itr (fun x => run t x row) k st : Nat) : Int))).isSome) c
    (fun i j h1 h2 => by omega) rfl (fun c => c) (fun k hP => t_dnotin (kk := 0) fm (w_nm 5 (fun _ => rfl) rfl) (w_nm 4 (fun _ => rfl) rfl) rfl (.k _ (.inl ((itr (fun x => run t x row) k st : Nat) : Int)))) (fun k σ M H hP hb c D1 e1 kn => ?_) (fun k σ M H hP hb c => ?_) (fun _ => passes_of rfl))
  · have hlen := met_le hf l1 hP
    have hnew : ∀ i, i < k → itr (fun x => run t x row) i st ≠ itr (fun x => run t x row) k st := by
      rcases metK_val (f := fun x => run t x row) (s := st) (k := k) (x := itr (fun x => run t x row) k st) with ⟨h1, h2⟩ | ⟨i, h1, h2, h3⟩
      · exact h2
      · rw [h3] at hb; cases hb
    have hx : itr (fun x => run t x row) k st < n := itr_lt hf l1 k
    refine b_cons (k_dputK (kk := 0) (ks := .inl ((itr (fun x => run t x row) k st : Nat) : Int)) fm c (w_lenK (kk := 0) fm B (w_nm 4 (fun _ => rfl) rfl) rfl) (w_nm 4 (fun _ => rfl) rfl) (w_nm 5 (fun _ => rfl) rfl) rfl (by rw [metK_len]; omega) fun M H c => ?_)
    rw [metK_len, metK_put hnew] at c
    refine b_one (k_set fm 5 c (w_call fm C32 (a_cons (w_fld fm (w_nm 0 (fun _ => rfl) rfl) T.kl.cl T.tables rfl) (a_cons (w_nm 5 (fun _ => rfl) rfl) (a_cons (w_nm 3 (fun _ => rfl) rfl) a_nil))) ⟨t, n, _, row, _, rfl, qT, ok, hx, l2, rfl⟩) (fun _ => rfl) fun σ M H c => ?_)
    refine kn (k + 1) _ _ _ (fun i j h1 h2 => ?_) (by omega) c
    by_cases hj : j = k
    · rw [hj]; exact hnew i (by omega)
    · exact hP i j h1 (by omega)
  · have hlen := met_le hf l1 hP
    obtain ⟨i, h1, h2, h3⟩ : ∃ i, i < k ∧ itr (fun x => run t x row) i st = itr (fun x => run t x row) k st ∧ valD (metK (fun x => run t x row) st k) (.inl ((itr (fun x => run t x row) k st : Nat) : Int)) = some (.int (i : Int)) := by
      rcases metK_val (f := fun x => run t x row) (s := st) (k := k) (x := itr (fun x => run t x row) k st) with ⟨h1, h2⟩ | h
      · rw [h1] at hb; cases hb
      · exact h
    have hat : DAt (.dk (metK (fun x => run t x row) st k)) (.raw (kV (.inl ((itr (fun x => run t x row) k st : Nat) : Int)))) (some (.int (i : Int))) := h3 ▸ DAt.k (metK (fun x => run t x row) st k) (.inl ((itr (fun x => run t x row) k st : Nat) : Int))
    refine b_one (k_ret c (w_tup (a_cons (w_dget (kk := 0) (x := .raw (kV (.inl ((itr (fun x => run t x row) k st : Nat) : Int)))) fm (w_nm 4 (fun _ => rfl) rfl) (w_nm 5 (fun _ => rfl) rfl) rfl hat) (a_cons (w_sub (w_lenK (kk := 0) fm B (w_nm 4 (fun _ => rfl) rfl) rfl) (w_dget (kk := 0) (x := .raw (kV (.inl ((itr (fun x => run t x row) k st : Nat) : Int)))) fm (w_nm 4 (fun _ => rfl) rfl) (w_nm 5 (fun _ => rfl) rfl) rfl hat)) a_nil)) (show 2 ≤ 100000 by decide)) fun v M H c r => ?_)
    rw [metK_len] at r
    exact q v _ _ _ _ M H ⟨rfl, i, k, h1, by omega, h2.symm, rfl⟩ (c.drop (fun h => nomatch h)) r
abbrev s54 : Stmt := top 54
theorem sc54 : FnScope ["web", "value"] ["web", "value"] (defScope s54) := ⟨rfl, rfl, rfl, by decide +kernel, rfl, by decide +kernel, by decide +kernel⟩
/-- steps as they are handed to books: any deeds below 8 -/
structure StA (Cw : Addr) (h : Nat) (ts : List Tie) (y : D) (ss : List Stp) : Prop where
  sq : ∃ ys, SqD y ys ∧ Sts ys ss
  len : ss.length ≤ 400
  ok : ∀ s ∈ ss, sok h ts.length 8 s = true
abbrev RWs (Cw : Addr) (g : List Stp → D) : List D → D → Prop := fun ds d => ∃ (h : Nat) (ts : List Tie) (y : D) (ss : List Stp), ds = [webD Cw h ts, y] ∧ StA Cw h ts y ss ∧ d = g ss
include G in
theorem ok54 {f : Addr} {fd : FuncData} (F : Df K mg "web_steps" s54 f fd) (C48 : Cal P wd K mg base "looked_steps" 5 ["web", "deeds", "value"] (spD (RLook Cw))) : Cal P wd K mg base "web_steps" 6 ["web", "value"] (spD (RWs Cw fun ss => .tup (ss.map stT))) := by
  refine cal_pure F.F sc54 F.g (F.F.binds fun _ _ _ _ _ _ us hl => match us, hl with | [_, _], _ => rfl) (fun ds d ⟨_, _, _, _, e, _⟩ => by rw [e]; rfl) ?_
  rintro cdv A outer s H Er fm ds d ⟨h, ts, y, ss, rfl, ⟨⟨ys, sq, sts⟩, hl, hok⟩, rfl⟩ M0 H0 σ D c q
  exact b_one (k_ret c (w_call fm C48 (a_cons (w_nm 0 (fun _ => rfl) rfl) (a_cons (w_g fm G.MOST_DEEDS) (a_cons (w_nm 1 (fun _ => rfl) rfl) a_nil))) ⟨h, ts, 8, y, ys, ss, rfl, sq, sts, hl, hok, rfl⟩) fun v M H c r => q v _ _ M H c r)
theorem stT_get {ss : List Stp} {i : Nat} {d : D} (h : (ss.map stT)[i]? = some d) : ∃ s, ss[i]? = some s ∧ d = .tup (stD s) := by
  rw [List.getElem?_map, Option.map_eq_some_iff] at h
  obtain ⟨s, h1, h2⟩ := h
  exact ⟨s, h1, h2.symm⟩
/-- does a step's datum begin with "do" -/
def isDo (d : D) : Bool := match d with
  | .tup (.raw (.str x) :: _) => decide (V.str x = V.str "do")
  | _ => false
theorem isDo_st (s : Stp) : isDo (.tup (stD s)) = isAct s := by
  cases s with
  | act h d =>
    show decide (V.str ("do" : Str) = V.str "do") = true
    exact decide_eq_true rfl
  | meet t =>
    show decide (V.str ("meet" : Str) = V.str "do") = false
    decide +kernel
theorem st_first (s : Stp) : ∃ x, atI (stD s) (0 : Int) = some (.str x) ∧ decide (V.str x = V.str "do") = isAct s := by
  cases s with
  | act h d => exact ⟨"do", rfl, decide_eq_true rfl⟩
  | meet t => exact ⟨"meet", rfl, decide_eq_false (by decide +kernel)⟩
def thirdD (d : D) : D := match d with
  | .tup [_, _, x] => x
  | _ => .non
theorem keep_deeds : ∀ (ss : List Stp), keep (ss.map stT) isDo thirdD = nD (deedsOf ss)
  | [] => rfl
  | s :: ss => by
    have ih := keep_deeds ss
    unfold keep at ih ⊢
    rw [List.map_cons, List.filter_cons]
    have e : isDo (stT s) = isAct s := isDo_st s
    rw [e]
    cases s with
    | act h d =>
      show thirdD (stT (.act h d)) :: _ = _
      rw [ih]
      rfl
    | meet t => exact ih
theorem keep_len {ds : List D} {p : D → Bool} {e : D → D} : (keep ds p e).length ≤ ds.length := by unfold keep; rw [List.length_map]; exact List.length_filter_le _ _
abbrev s55 : Stmt := top 55
theorem sc55 : FnScope ["web", "steps", "one"] ["web", "steps"] (defScope s55) := ⟨rfl, rfl, rfl, by decide +kernel, rfl, by decide +kernel, by decide +kernel⟩
/-- a def that keeps a promise, with what it is bound by -/
structure CalX (P : Program) (wd : World) (K : PySem.W.Frag) (mg : Str → Option Value) (base : Heap) (x : Str) (k : Nat) (ps : List Str) (sp : Sp) (f : Addr) (fd : FuncData) : Prop where
  ok : FnOk P wd K mg base (L2.CX P wd) k f fd ps sp
  g : mg x = some (.ref f)
  (kp : PySem.W.keepIn K (.ref f) = true)
  bn : Binds K fd ps []
omit G in
theorem CalX.cal {x : Str} {k : Nat} {ps : List Str} {sp : Sp} {f : Addr} {fd : FuncData} (c : CalX P wd K mg base x k ps sp f fd) : Cal P wd K mg base x k ps sp := ⟨f, fd, c.ok, c.g, c.kp, c.bn⟩
omit G in
theorem cal_pureX {N ps : List Str} {k : Nat} {x : Str} {st : Stmt} {f : Addr} {R : List Ly.D → Ly.D → Prop} {fd : FuncData} (F : Fun K x x st f fd) (S : FnScope N ps (defScope st)) (hm : mg x = some (.ref f)) (hb : Binds K fd ps []) (hlen : ∀ ds d, R ds d → ds.length = ps.length)
    (body : ∀ (cdv : Value) (A : Around) (outer : List Env) (s : Shared) (H : Hp) (Er : XK), Fam (Zd P wd K mg base N x st f cdv A outer s H Er) P wd K mg base N k → ∀ ds d, R ds d → ∀ (M0 H0 : Hp) (σ : L2.St) (D : Ends), C [] M0 H0 [] (startD N.length ds) σ M0 H0 →
      (∀ v ρ σ' M' H', C [] M0 H0 [] ρ σ' M' H' → Dv M' v d → D.rt v H') → wB (Zd P wd K mg base N x st f cdv A outer s H Er) (defBody st) D σ H0) : CalX P wd K mg base x (k + 1) ps (spD R) f fd := by
  refine ⟨F.okX S (fun vs H Q Er h => ?_) (fun cdv A outer s H vs Q Er hr h => ?_), hm, F.kp, hb⟩
  · obtain ⟨M, ds, d, _, r, h, _⟩ := h
    rw [r.length]; exact hlen ds d h
  · obtain ⟨M, ds, d, mh, r, h, q⟩ := h
    refine ⟨_, pb_w (Z := Zd P wd K mg base N x st f cdv A outer s H Er) (), ?_⟩
    refine body cdv A outer s H Er ⟨fun _ => rfl, fun _ => rfl, fun _ => rfl, fun _ => rfl, fun _ => rfl, fun _ => rfl, S.nd, fun _ => rfl, fun _ => hr⟩ ds d h M H _ _ ⟨⟨mh, EnvD.start r N, .nil⟩, .refl, (fun _ h => nomatch h), (fun _ h => nomatch h)⟩ fun v ρ σ' M' H' c r => q v M' H' ?_ r
    exact ⟨c.bs.mm, fun b o e => c.bs.hh b o (fun z => nomatch z) e, c.sd.mh, c.bs.nn⟩
include B G in
theorem ok55 {f : Addr} {fd : FuncData} (F : Df K mg "act_deeds" s55 f fd) (C54 : Cal P wd K mg base "web_steps" 6 ["web", "value"] (spD (RWs Cw fun ss => .tup (ss.map stT)))) : CalX P wd K mg base "act_deeds" 7 ["web", "steps"] (spD (RWs Cw fun ss => .tup (nD (deedsOf ss)))) f fd := by
  refine cal_pureX F.F sc55 F.g (F.F.binds fun _ _ _ _ _ _ us hl => match us, hl with | [_, _], _ => rfl) (fun ds d ⟨_, _, _, _, e, _⟩ => by rw [e]; rfl) ?_
  rintro cdv A outer s H Er fm ds d ⟨h, ts, y, ss, rfl, sa, rfl⟩ M0 H0 σ D c q
  have hl := sa.len
  refine b_one (k_ret c (E.eq (w_tuple fm B (w_lc fm [("one", 2)] (blkOk_by (sc := defScope s55) (by decide +kernel)) (fun _ => rfl) isDo thirdD (f1 2) (i_sq fm (w_call fm C54 (a_cons (w_nm 0 (fun _ => rfl) rfl) (a_cons (w_nm 1 (fun _ => rfl) rfl) a_nil)) ⟨h, ts, y, ss, rfl, sa, rfl⟩) qT) (by rw [List.length_map]; omega) (fun i d h => (cw_name (Fam.blk fm) 2 (fun _ => rfl) (by decide))) (fun i d h => ?_) (fun i d h hq => ?_)) qL) (congrArg Ly.D.tup (keep_deeds ss))) fun v M H c r => q v _ _ M H c r)
  · obtain ⟨s, hs, rfl⟩ := stT_get h
    obtain ⟨x, hx, ex⟩ := st_first s
    refine et_eq (ts_one (t_cmp (w_ix (Fam.blk fm) (w_nm 2 (fun _ => rfl) rfl) w_int qT hx) (w_gs (Fam.blk fm) G.DO) cm_eqS)) ?_
    rw [ex, isDo_st]
  · obtain ⟨s, hs, rfl⟩ := stT_get h
    rw [isDo_st] at hq
    cases s with
    | act h d => exact w_ix (Fam.blk fm) (w_nm 2 (fun _ => rfl) rfl) w_int qT rfl
    | meet t => cases hq
/-! ### counted acts -/
def counted (row : List Nat) : List Nat := (List.range row.length).filter fun i => decide (0 < row.getD i 0)
theorem map_range {α : Type} (l : List Nat) (f : Nat → Nat → α) : (List.range l.length).map (fun i => f i (l.getD i 0)) = (List.range l.length).map (fun i => f i (l.getD i 0)) := rfl
abbrev s59 : Stmt := top 59
theorem sc59 : FnScope ["row", "act", "count"] ["row"] (defScope s59) := ⟨rfl, rfl, rfl, by decide +kernel, rfl, by decide +kernel, by decide +kernel⟩
abbrev RCtd : List D → D → Prop := fun ds d => ∃ row : List Nat, ds = [.tup (nD row)] ∧ row.length ≤ 1000 ∧ d = .tup (nD (counted row))
def cntP (d : D) : Bool := match d with
  | .tup [_, .raw (.int i)] => decide (0 < i)
  | _ => false
def cntE (d : D) : D := match d with
  | .tup [x, _] => x
  | _ => .non
theorem keep_ctd (row : List Nat) : keep (enD (nD row)) cntP cntE = nD (counted row) := by
  unfold keep enD counted nD
  rw [List.length_map, List.filter_map, List.map_map]
  have e1 : (List.range row.length).filter (cntP ∘ fun i : Nat => D.tup [.int (i : Int), (row.map fun n : Nat => D.int (n : Int)).getD i .non]) = (List.range row.length).filter fun i => decide (0 < row.getD i 0) := by
    refine List.filter_congr fun i hi => ?_
    have hi := List.mem_range.mp hi
    have e : (row.map fun n : Nat => D.int (n : Int)).getD i .non = .int ((row.getD i 0 : Nat) : Int) := by simp [List.getD, hi]
    show cntP (D.tup [.int (i : Int), (row.map fun n : Nat => D.int (n : Int)).getD i .non]) = _
    rw [e]
    refine decide_eq_decide.mpr (by omega)
  rw [e1]
  rfl
include B in
theorem ok59 {f : Addr} {fd : FuncData} (F : Df K mg "counted_acts" s59 f fd) : Cal P wd K mg base "counted_acts" 1 ["row"] (spD RCtd) := by
  refine cal_pure F.F sc59 F.g (F.F.binds fun _ _ _ _ _ _ us hl => match us, hl with | [_], _ => rfl) (fun ds d ⟨_, e, _⟩ => by rw [e]; rfl) ?_
  rintro cdv A outer s H Er fm ds d ⟨row, rfl, hl, rfl⟩ M0 H0 σ D c q
  refine b_one (k_ret c (E.eq (w_tuple fm B (w_lc fm [("act", 1), ("count", 2)] (blkOk_by (sc := defScope s59) (by decide +kernel)) (fun _ => rfl) cntP cntE (f2 1 2) (i_en fm B (w_nm 0 (fun _ => rfl) rfl) qT) (by rw [enD_len, nD_len]; omega) (fun i d h => ?_) (fun i d h => ?_) (fun i d h hq => ?_)) qL) (congrArg Ly.D.tup (keep_ctd row))) fun v M H c r => q v _ _ M H c r)
  · obtain ⟨x, hx, rfl⟩ := enD_get h
    exact (cw_tup (Fam.blk fm) (cw_cons (Fam.blk fm) 1 (fun _ => rfl) (by decide) (cw_cons (Fam.blk fm) 2 (fun _ => rfl) (by decide) cw_nil)))
  · obtain ⟨x, hx, rfl⟩ := enD_get h
    obtain ⟨n, hn, rfl⟩ := nD_get hx
    exact ts_one (t_cmp (w_nm 2 (fun _ => rfl) rfl) w_int cm_gt)
  · obtain ⟨x, hx, rfl⟩ := enD_get h
    exact w_nm 1 (fun _ => rfl) rfl
abbrev s61 : Stmt := top 61
theorem sc61 : FnScope ["machine", "state", "row", "times", "told", "index", "period", "_"] ["machine", "state", "row", "times"] (defScope s61) := ⟨rfl, rfl, rfl, by decide +kernel, rfl, by decide +kernel, by decide +kernel⟩
abbrev RTimes (Cm : Addr) : List D → D → Prop := fun ds d => ∃ (t : List (List Nat)) (n s : Nat) (row : List Nat) (k : Nat), ds = [machD Cm t n, .int (s : Int), .tup (nD row), .int (k : Int)] ∧ MOk t n ∧ s < n ∧ (∀ x ∈ row, x < t.length) ∧ row.length ≤ 1000 ∧ d = .int ((itr (fun x => run t x row) k s : Nat) : Int)
include B T in
theorem ok61 {f : Addr} {fd : FuncData} (F : Df K mg "led_times" s61 f fd) (C29 : Cal P wd K mg base "need_state" 4 ["machine", "state"] (spD (RNeed Cm))) (C31 : Cal P wd K mg base "check_row" 4 ["machine", "value"] (spD (RRow Cm))) (C32 : Cal P wd K mg base "run_on" 1 ["tables", "state", "row"] (spD RRun)) (C20 : CIs P wd K mg base "is_number" 2 isNumD) (C52 : Cal P wd K mg base "power_of" 5 ["machine", "state", "row"] (spN (PrePo Cm) PostPo)) : Cal P wd K mg base "led_times" 6 ["machine", "state", "row", "times"] (spD (RTimes Cm)) := by
  refine cal_pure F.F sc61 F.g (F.F.binds fun _ _ _ _ _ _ us hl => match us, hl with | [_, _, _, _], _ => rfl) (fun ds d ⟨_, _, _, _, _, e, _⟩ => by rw [e]; rfl) ?_
  rintro cdv A outer s H Er fm ds d ⟨t, n, st, row, k, rfl, ok, l1, l2, l3, rfl⟩ M0 H0 σ D c q
  have hf : ∀ x, x < n → run t x row < n := fun x hx => ok.run l2 hx
  refine b_cons (k_drop c (w_call fm C29 (a_cons (w_nm 0 (fun _ => rfl) rfl) (a_cons (w_nm 1 (fun _ => rfl) rfl) a_nil)) ⟨t, n, st, rfl, l1, rfl⟩).x ?_)
  rintro _ _ M H ⟨rfl, rfl⟩ c
  refine b_cons (k_set fm 4 c (w_call fm C31 (a_cons (w_nm 0 (fun _ => rfl) rfl) (a_cons (w_nm 2 (fun _ => rfl) rfl) a_nil)) ⟨t, n, row, rfl, l2, l3, rfl⟩) (fun _ => rfl) fun σ M H c => ?_)
  refine b_cons (k_if c (t_not (t_val (w_call fm C20 (a_cons (w_nm 3 (fun _ => rfl) rfl) a_nil) ⟨_, _, rfl, .int _, rfl⟩))) (fun h M H c => ?_) fun h M H c => ?_)
  · exfalso
    have e : isNumD (.int (k : Int)) = true := decide_eq_true (Int.natCast_nonneg k)
    rw [e] at h
    cases h
  refine b_nil ?_
  refine b_cons (k_asgX (Pq := fun d o => o = [] ∧ ∃ i k : Nat, i < k ∧ k ≤ 12 ∧ itr (fun x => run t x row) k st = itr (fun x => run t x row) i st ∧ d = .tup [.int (i : Int), .int ((k : Int) - (i : Int))]) (f := f2 5 6) c (x_callN fm C52 (EA.x (a_cons (w_nm 0 (fun _ => rfl) rfl) (a_cons (w_nm 1 (fun _ => rfl) rfl) (a_cons (w_nm 4 (fun _ => rfl) rfl) a_nil)))) ?_) (fun d o hp => ?_) ?_)
  · rintro ds o ⟨rfl, rfl⟩
    exact ⟨⟨t, n, st, row⟩, [], [], List.Perm.refl _, ⟨rfl, rfl, ok, l1, l2, l3⟩, fun d o1' hp => ⟨by rw [hp.1]; rfl, hp.2⟩⟩
  · obtain ⟨_, i, k', _, _, _, rfl⟩ := hp
    exact (g_tup fm (g_cons fm 5 (fun _ => rfl) (g_cons fm 6 (fun _ => rfl) g_nil)))
  rintro d o σ M H ⟨rfl, i, j, hij, hj, hper, rfl⟩ c
  have em : (if (k : Int) < (i : Int) then (k : Int) else (i : Int) + ((k : Int) - (i : Int)) % ((j : Int) - (i : Int))) = ((if k < i then k else i + (k - i) % (j - i) : Nat) : Int) := by
    by_cases h : k < i
    · rw [if_pos h]; rw [if_pos (by omega)]
    · rw [if_neg h]; rw [if_neg (by omega)]; have e1 : (k : Int) - (i : Int) = ((k - i : Nat) : Int) := by omega
      have e2 : (j : Int) - (i : Int) = ((j - i : Nat) : Int) := by omega
      rw [e1, e2]
      omega
  have hsmall : (if k < i then k else i + (k - i) % (j - i)) ≤ 24 := by
    by_cases h : k < i
    · rw [if_pos h]; omega
    · rw [if_neg h]
      have := Nat.mod_lt (k - i) (show 0 < j - i by omega)
      omega
  refine b_cons (k_forB fm (fun m (x : Nat) => x = itr (fun x => run t x row) m st) (fun _ => []) (fun x => [some (machD Cm t n), some (.int (x : Int)), some (.tup (nD row)), some (.int (k : Int)), some (.tup (nD row)), some (.int (i : Int)), some (.int ((j : Int) - (i : Int))), none]) st (f1 7) c
    (i_rg1 (i := ((if k < i then k else i + (k - i) % (j - i) : Nat) : Int)) fm B (E.eq (w_if (d := .int (if (k : Int) < (i : Int) then (k : Int) else (i : Int) + ((k : Int) - (i : Int)) % ((j : Int) - (i : Int)))) (t_cmp (w_nm 3 (fun _ => rfl) rfl) (w_nm 5 (fun _ => rfl) rfl) cm_lt) (fun h => E.eq (w_nm 3 (fun _ => rfl) rfl) (by rw [if_pos (of_decide_eq_true h)])) fun h => E.eq (w_addI fm (w_nm 5 (fun _ => rfl) rfl) (w_mod (w_sub (w_nm 3 (fun _ => rfl) rfl) (w_nm 5 (fun _ => rfl) rfl)) (w_nm 6 (fun _ => rfl) rfl) (by omega))) (by rw [if_neg (of_decide_eq_false h)])) (congrArg Ly.D.int em)) (by omega) (by omega))
    rfl rfl (fun _ _ _ σ M H c => c) (fun i d h => (g_name fm 7 (fun _ => rfl))) (fun M1 H1 lf m d x σ M H hi hP c D1 e1 e2 kn => ?_) (fun x σ M H hP c => ?_) (fun _ => passes_of rfl))
  · have hx : x < n := by rw [hP]; exact itr_lt hf l1 _
    refine b_one (k_set fm 1 c (w_call fm C32 (a_cons (w_fld fm (w_nm 0 (fun _ => rfl) rfl) T.kl.cl T.tables rfl) (a_cons (w_nm 1 (fun _ => rfl) rfl) (a_cons (w_nm 4 (fun _ => rfl) rfl) a_nil))) ⟨t, n, x, row, _, rfl, qT, ok, hx, l2, rfl⟩) (fun _ => rfl) fun σ M H c => ?_)
    exact kn (run t x row) _ _ _ (by rw [hP]; rfl) (c.forget 7)
  · rw [rgD_len, Int.toNat_natCast, itr_led hper hij] at hP
    subst hP
    exact b_one (k_ret c (w_nm 1 (fun _ => rfl) rfl) fun v M H c r => q v _ _ M H c r)
abbrev s62 : Stmt := top 62
theorem sc62 : FnScope ["machine", "first", "deeds", "counts", "told", "count", "state", "deed"] ["machine", "first", "deeds", "counts"] (defScope s62) := ⟨rfl, rfl, rfl, by decide +kernel, rfl, by decide +kernel, by decide +kernel⟩
abbrev RLed (Cm : Addr) : List D → D → Prop := fun ds d => ∃ (t : List (List Nat)) (n s : Nat) (deeds counts : List Nat), ds = [machD Cm t n, .int (s : Int), .tup (nD deeds), .tup (nD counts)] ∧ MOk t n ∧ s < n ∧ (∀ x ∈ deeds, x < t.length) ∧ deeds.length ≤ 1000 ∧ counts.length = deeds.length ∧ d = .int ((ledc t s deeds counts : Nat) : Int)
theorem run_one {t : List (List Nat)} {d : Nat} : (fun x => run t x [d]) = fun x => step t x d := rfl
theorem ledc_lt {t : List (List Nat)} {n s : Nat} (ok : MOk t n) : ∀ (deeds counts : List Nat), (∀ x ∈ deeds, x < t.length) → ∀ {s : Nat}, s < n → ledc t s deeds counts < n
  | [], _, _, _, hs => by unfold ledc; simpa using hs
  | _ :: _, [], _, _, hs => by unfold ledc; simpa using hs
  | d :: ds, k :: ks, h, s, hs => ledc_lt (s := s) ok ds ks (fun x hx => h x (List.mem_cons_of_mem _ hx)) (itr_lt (fun x hx => ok.step (h d List.mem_cons_self) hx) hs k)
include B T in
theorem ok62 {f : Addr} {fd : FuncData} (F : Df K mg "led_counts" s62 f fd) (C29 : Cal P wd K mg base "need_state" 4 ["machine", "state"] (spD (RNeed Cm))) (C31 : Cal P wd K mg base "check_row" 4 ["machine", "value"] (spD (RRow Cm))) (C23 : CIs P wd K mg base "is_sequence" 1 isSeqD) (C20 : CIs P wd K mg base "is_number" 2 isNumD) (C61 : Cal P wd K mg base "led_times" 6 ["machine", "state", "row", "times"] (spD (RTimes Cm))) : Cal P wd K mg base "led_counts" 7 ["machine", "first", "deeds", "counts"] (spD (RLed Cm)) := by
  refine cal_pure F.F sc62 F.g (F.F.binds fun _ _ _ _ _ _ us hl => match us, hl with | [_, _, _, _], _ => rfl) (fun ds d ⟨_, _, _, _, _, e, _⟩ => by rw [e]; rfl) ?_
  rintro cdv A outer s H Er fm ds d ⟨t, n, st, deeds, counts, rfl, ok, l1, l2, l3, l4, rfl⟩ M0 H0 σ D c q
  refine b_cons (k_drop c (w_call fm C29 (a_cons (w_nm 0 (fun _ => rfl) rfl) (a_cons (w_nm 1 (fun _ => rfl) rfl) a_nil)) ⟨t, n, st, rfl, l1, rfl⟩).x ?_)
  rintro _ _ M H ⟨rfl, rfl⟩ c
  refine b_cons (k_set fm 4 c (w_call fm C31 (a_cons (w_nm 0 (fun _ => rfl) rfl) (a_cons (w_nm 2 (fun _ => rfl) rfl) a_nil)) ⟨t, n, deeds, rfl, l2, l3, rfl⟩) (fun _ => rfl) fun σ M H c => ?_)
  have enum : ∀ k : Nat, isNumD (.int (k : Int)) = true := fun k => decide_eq_true (Int.natCast_nonneg k)
  refine b_cons (k_if c (t_pw (v_or (t_not (t_val (w_call fm C23 (a_cons (w_nm 3 (fun _ => rfl) rfl) a_nil) ⟨_, _, rfl, .tup _, rfl⟩))) fun h2 => (v_or (t_cmp (w_len fm B (w_nm 3 (fun _ => rfl) rfl) qT) (w_len fm B (w_nm 4 (fun _ => rfl) rfl) qT) cm_neS) fun h1 => (v_or1 (t_not (t_val (w_all fm B (bs := counts.map fun _ => true) (w_lc fm [("count", 5)] (blkOk_by (sc := defScope s62) (by decide +kernel)) (fun _ => rfl) (fun _ => true) (fun _ => .bl true) (f1 5) (i_sq fm (w_nm 3 (fun _ => rfl) rfl) qT) (by rw [nD_len]; omega) (fun i d h => (cw_name (Fam.blk fm) 5 (fun _ => rfl) (by decide))) (fun i d h => ts_nil) (fun i d h hq => ?_)) ?_))))))) (fun h M H c => ?_) fun h M H c => ?_)
  · obtain ⟨x, hx, rfl⟩ := nD_get h
    exact E.eq (w_call (Fam.blk fm) C20 (a_cons (w_nm 5 (fun _ => rfl) rfl) a_nil) ⟨_, _, rfl, .int _, rfl⟩) (by rw [enum])
  · rw [keep_all]
    unfold nD
    rw [List.map_map]; rw [List.map_map]
    rfl
  · exfalso
    rw [nD_len, nD_len, l4] at h
    simp [isSeqD] at h
  refine b_nil ?_
  refine b_cons (k_set fm 6 c (w_nm 1 (fun _ => rfl) rfl) (fun _ => rfl) fun σ M H c => ?_)
  have hzl : (deeds.zip counts).length = deeds.length := by rw [List.length_zip, l4, Nat.min_self]
  refine b_cons (k_forB fm (fun m (x : Nat) => x = ledc t st (deeds.take m) (counts.take m)) (fun _ => []) (fun x => [some (machD Cm t n), some (.int (st : Int)), some (.tup (nD deeds)), some (.tup (nD counts)), some (.tup (nD deeds)), none, some (.int (x : Int)), none]) st (f2 7 5) c (i_zip2 fm B (w_nm 4 (fun _ => rfl) rfl) (w_nm 3 (fun _ => rfl) rfl) qT qT) (by simp [ledc]) rfl (fun _ _ _ σ M H c => c) (fun i d h => ?_) (fun M1 H1 lf m d x σ M H hi hP c D1 e1 e2 kn => ?_) (fun x σ M H hP c => ?_) (fun _ => passes_of rfl))
  · unfold zip2D at h
    rw [List.getElem?_map, Option.map_eq_some_iff] at h
    obtain ⟨p, _, rfl⟩ := h
    exact (g_tup fm (g_cons fm 7 (fun _ => rfl) (g_cons fm 5 (fun _ => rfl) g_nil)))
  · unfold zip2D at hi
    rw [List.getElem?_map, Option.map_eq_some_iff] at hi
    obtain ⟨⟨a, b⟩, hp, rfl⟩ := hi
    obtain ⟨g1, g2⟩ := List.getElem?_zip_eq_some.mp hp
    obtain ⟨dd, hd, rfl⟩ := nD_get g1
    obtain ⟨kk, hk, rfl⟩ := nD_get g2
    have hdl := l2 dd (List.mem_of_getElem? hd)
    have hx : x < n := by rw [hP]; exact ledc_lt (s := st) ok _ _ (fun z hz => l2 z (List.mem_of_mem_take hz)) l1
    refine b_one (k_set fm 6 c (w_call fm C61 (a_cons (w_nm 0 (fun _ => rfl) rfl) (a_cons (w_nm 6 (fun _ => rfl) rfl) (a_cons (w_tup (a_cons (w_nm 7 (fun _ => rfl) rfl) a_nil) (show 1 ≤ 100000 by decide)) (a_cons (w_nm 5 (fun _ => rfl) rfl) a_nil)))) ⟨t, n, x, [dd], kk, rfl, ok, hx, fun z hz => by rw [List.mem_singleton.mp hz]; exact hdl, (by show 1 ≤ 1000; decide), rfl⟩) (fun _ => rfl) fun σ M H c => ?_)
    refine kn (itr (fun x => step t x dd) kk x) _ _ _ ?_ ((c.forget 7).forget 5)
    rw [hP, take_more hd, take_more hk]
    unfold ledc
    rw [List.zip_append (by rw [List.length_take, List.length_take, l4]), List.foldl_append]
    rfl
  · have e : (zip2D (nD deeds) (nD counts)).length = deeds.length := by unfold zip2D; rw [List.length_map, List.length_zip, nD_len, nD_len, l4, Nat.min_self]
    rw [e, List.take_length, ← l4, List.take_length] at hP
    subst hP
    exact b_one (k_ret c (w_nm 6 (fun _ => rfl) rfl) fun v M H c r => q v _ _ M H c r)
end
end Hb
/-! Bk1: books, plainly. -/
namespace Hb
open PySem L2 Mc Ly
structure Bk where
  acted : Nat
  hs : List (List Nat)
  tz : List (List Nat)
def at2 (m : List (List Nat)) (i j : Nat) : Nat := (m.getD i []).getD j 0
def joinRow (a b c : List Nat) : List Nat := (a.zip (b.zip c)).map fun p => p.1 + p.2.1 - p.2.2
def hearB (ts : List Tie) (s : Bk) : Stp → Bk
  | .act v _ => ⟨s.acted + 1, s.hs.set v ((s.hs.getD v []).set s.acted ((s.hs.getD v []).getD s.acted 0 + 1)), s.tz⟩
  | .meet i => ⟨s.acted, (s.hs.set (ts.getD i (0, 0)).1 (joinRow (s.hs.getD (ts.getD i (0, 0)).1 []) (s.hs.getD (ts.getD i (0, 0)).2 []) (s.tz.getD i []))).set (ts.getD i (0, 0)).2 (joinRow (s.hs.getD (ts.getD i (0, 0)).1 []) (s.hs.getD (ts.getD i (0, 0)).2 []) (s.tz.getD i [])),
      s.tz.set i (joinRow (s.hs.getD (ts.getD i (0, 0)).1 []) (s.hs.getD (ts.getD i (0, 0)).2 []) (s.tz.getD i []))⟩
def bk0 (h m acts : Nat) : Bk := ⟨0, List.replicate h (List.replicate acts 0), List.replicate m (List.replicate acts 0)⟩
def bookAt (h : Nat) (ts : List Tie) (acts : Nat) (ss : List Stp) : Bk := ss.foldl (hearB ts) (bk0 h ts.length acts)
structure BkOk (h : Nat) (ts : List Tie) (acts : Nat) (s : Bk) : Prop where
  hl : s.hs.length = h
  tl : s.tz.length = ts.length
  hr : ∀ r ∈ s.hs, r.length = acts
  tr : ∀ r ∈ s.tz, r.length = acts
  le : ∀ (i : Nat) (p : Tie) (j : Nat), ts[i]? = some p → at2 s.tz i j ≤ at2 s.hs p.1 j ∧ at2 s.tz i j ≤ at2 s.hs p.2 j
theorem getD_set {α : Type} {l : List α} {k i : Nat} {v d : α} (hk : k < l.length) : (l.set k v).getD i d = if i = k then v else l.getD i d := by
  rw [List.getD_eq_getElem?_getD, List.getD_eq_getElem?_getD, List.getElem?_set]
  by_cases h : k = i
  · subst h; simp [hk]
  · rw [if_neg h, if_neg (Ne.symm h)]
theorem getD_at {α : Type} {l : List α} {i : Nat} {d : α} (h : i < l.length) : l[i]? = some (l.getD i d) := by
  rw [List.getD_eq_getElem?_getD]; rw [List.getElem?_eq_getElem h]; rfl
theorem getD_mem {α : Type} {l : List α} {i : Nat} {d : α} (h : i < l.length) : l.getD i d ∈ l := List.mem_of_getElem? (getD_at h)
theorem join_len {a b c : List Nat} {n : Nat} (h1 : a.length = n) (h2 : b.length = n) (h3 : c.length = n) : (joinRow a b c).length = n := by
  unfold joinRow
  rw [List.length_map, List.length_zip, List.length_zip]; omega
theorem join_at {a b c : List Nat} {n : Nat} (h1 : a.length = n) (h2 : b.length = n) (h3 : c.length = n) (j : Nat) : (joinRow a b c).getD j 0 = a.getD j 0 + b.getD j 0 - c.getD j 0 := by
  by_cases hj : j < n
  · have e : (joinRow a b c)[j]? = some (a.getD j 0 + b.getD j 0 - c.getD j 0) := by
      unfold joinRow
      rw [List.getElem?_map, (List.getElem?_zip_eq_some (z := (a.getD j 0, b.getD j 0, c.getD j 0))).mpr ⟨getD_at (by omega), List.getElem?_zip_eq_some.mpr ⟨getD_at (by omega), getD_at (by omega)⟩⟩]
      rfl
    exact getD_of e
  · have z : ∀ l : List Nat, l.length = n → l.getD j 0 = 0 := fun l hl => by
      rw [List.getD_eq_getElem?_getD, List.getElem?_eq_none (by omega)]; rfl
    rw [z _ (join_len h1 h2 h3), z a h1, z b h2, z c h3]
theorem at2_set {m : List (List Nat)} {k i j : Nat} {r : List Nat} (hk : k < m.length) : at2 (m.set k r) i j = if i = k then r.getD j 0 else at2 m i j := by
  unfold at2
  rw [getD_set hk]
  split <;> rfl
theorem hear_act {ts : List Tie} {s : Bk} {h acts v k : Nat} (ok : BkOk h ts acts s) (hv : v < h) (ha : s.acted < acts) (i j : Nat) : at2 (hearB ts s (.act v k)).hs i j = at2 s.hs i j + if i = v ∧ j = s.acted then 1 else 0 := by
  show at2 (s.hs.set v _) i j = _
  have hv' : v < s.hs.length := by rw [ok.hl]; exact hv
  have hr : (s.hs.getD v []).length = acts := ok.hr _ (getD_mem hv')
  rw [at2_set hv']
  by_cases h1 : i = v
  · subst h1
    rw [if_pos rfl, getD_set (by omega)]
    by_cases h2 : j = s.acted
    · subst h2; rw [if_pos rfl, if_pos ⟨rfl, rfl⟩]; rfl
    · rw [if_neg h2, if_neg (fun z => h2 z.2)]; rfl
  · rw [if_neg h1, if_neg (fun z => h1 z.1)]; rfl
theorem tie_getD {ts : List Tie} {i : Nat} {p : Tie} (h : ts[i]? = some p) : ts.getD i (0, 0) = p := getD_of h
theorem hear_meetH {ts : List Tie} {s : Bk} {h acts i : Nat} {p : Tie} (ok : BkOk h ts acts s) (w : WOk h ts) (hi : ts[i]? = some p) (a j : Nat) :
    at2 (hearB ts s (.meet i)).hs a j = if a = p.1 ∨ a = p.2 then at2 s.hs p.1 j + at2 s.hs p.2 j - at2 s.tz i j else at2 s.hs a j := by
  obtain ⟨p1, p2, _⟩ := w.tie p (List.mem_of_getElem? hi)
  have hit := lt_of_get hi
  have l1 : p.1 < s.hs.length := by rw [ok.hl]; exact p1
  have l2 : p.2 < s.hs.length := by rw [ok.hl]; exact p2
  have l3 : i < s.tz.length := by rw [ok.tl]; exact hit
  show at2 ((s.hs.set (ts.getD i (0, 0)).1 _).set (ts.getD i (0, 0)).2 _) a j = _
  rw [tie_getD hi, at2_set (by rw [List.length_set]; exact l2), at2_set l1, join_at (ok.hr _ (getD_mem l1)) (ok.hr _ (getD_mem l2)) (ok.tr _ (getD_mem l3))]
  by_cases h2 : a = p.2
  · rw [if_pos h2, if_pos (.inr h2)]; rfl
  · rw [if_neg h2]
    by_cases h1 : a = p.1
    · rw [if_pos h1, if_pos (.inl h1)]; rfl
    · rw [if_neg h1, if_neg (fun z => z.elim h1 h2)]
theorem hear_meetT {ts : List Tie} {s : Bk} {h acts i : Nat} {p : Tie} (ok : BkOk h ts acts s) (w : WOk h ts) (hi : ts[i]? = some p) (a j : Nat) :
    at2 (hearB ts s (.meet i)).tz a j = if a = i then at2 s.hs p.1 j + at2 s.hs p.2 j - at2 s.tz i j else at2 s.tz a j := by
  obtain ⟨p1, p2, _⟩ := w.tie p (List.mem_of_getElem? hi)
  have hit := lt_of_get hi
  have l1 : p.1 < s.hs.length := by rw [ok.hl]; exact p1
  have l2 : p.2 < s.hs.length := by rw [ok.hl]; exact p2
  have l3 : i < s.tz.length := by rw [ok.tl]; exact hit
  show at2 (s.tz.set i _) a j = _
  rw [tie_getD hi, at2_set l3, join_at (ok.hr _ (getD_mem l1)) (ok.hr _ (getD_mem l2)) (ok.tr _ (getD_mem l3))]
  rfl
def fits (h : Nat) (ts : List Tie) (acts : Nat) (s : Bk) : Stp → Prop
  | .act v _ => v < h ∧ s.acted < acts
  | .meet i => i < ts.length
theorem mem_set' {α : Type} {l : List α} {k : Nat} {v x : α} (h : x ∈ l.set k v) : x ∈ l ∨ x = v := List.mem_or_eq_of_mem_set h
theorem BkOk.hear {ts : List Tie} {s : Bk} {h acts : Nat} (ok : BkOk h ts acts s) (w : WOk h ts) {st : Stp} (f : fits h ts acts s st) : BkOk h ts acts (hearB ts s st) := by
  cases st with
  | act v k =>
    obtain ⟨hv, ha⟩ := f
    have hv' : v < s.hs.length := by rw [ok.hl]; exact hv
    refine ⟨by show (s.hs.set v _).length = h; rw [List.length_set]; exact ok.hl, ok.tl, fun r hr => ?_, ok.tr, fun i p j hi => ?_⟩
    · rcases mem_set' hr with hr | rfl
      · exact ok.hr r hr
      · rw [List.length_set]; exact ok.hr _ (getD_mem hv')
    · obtain ⟨l1, l2⟩ := ok.le i p j hi
      rw [hear_act ok hv ha, hear_act ok hv ha]
      show at2 s.tz i j ≤ _ ∧ at2 s.tz i j ≤ _
      exact ⟨Nat.le_trans l1 (Nat.le_add_right _ _), Nat.le_trans l2 (Nat.le_add_right _ _)⟩
  | meet i =>
    have hi : ts[i]? = some (ts.getD i (0, 0)) := getD_at f
    obtain ⟨p1, p2, _⟩ := w.tie _ (List.mem_of_getElem? hi)
    have l1 : (ts.getD i (0, 0)).1 < s.hs.length := by rw [ok.hl]; exact p1
    have l2 : (ts.getD i (0, 0)).2 < s.hs.length := by rw [ok.hl]; exact p2
    have l3 : i < s.tz.length := by rw [ok.tl]; exact f
    have jl := join_len (ok.hr _ (getD_mem (d := []) l1)) (ok.hr _ (getD_mem (d := []) l2)) (ok.tr _ (getD_mem (d := []) l3))
    refine ⟨by show ((s.hs.set _ _).set _ _).length = h; rw [List.length_set, List.length_set]; exact ok.hl, by show (s.tz.set i _).length = _; rw [List.length_set]; exact ok.tl, fun r hr => ?_, fun r hr => ?_, fun a p j ha => ?_⟩
    · rcases mem_set' hr with hr | rfl
      · rcases mem_set' hr with hr | rfl
        · exact ok.hr r hr
        · exact jl
      · exact jl
    · rcases mem_set' hr with hr | rfl
      · exact ok.tr r hr
      · exact jl
    · rw [hear_meetH ok w hi, hear_meetH ok w hi, hear_meetT ok w hi]
      obtain ⟨q1, q2⟩ := ok.le i _ j hi
      obtain ⟨r1, r2⟩ := ok.le a p j ha
      by_cases h1 : a = i
      · subst h1
        rw [hi] at ha
        cases ha
        rw [if_pos rfl, if_pos (.inl rfl), if_pos (.inr rfl)]
        exact ⟨Nat.le_refl _, Nat.le_refl _⟩
      · rw [if_neg h1]
        refine ⟨?_, ?_⟩
        · split
          · rename_i h; rcases h with h | h <;> rw [h] at r1 <;> omega
          · exact r1
        · split
          · rename_i h; rcases h with h | h <;> rw [h] at r2 <;> omega
          · exact r2
theorem rep_getD {α : Type} {n i : Nat} {x d : α} : (List.replicate n x).getD i d = if i < n then x else d := by
  rw [List.getD_eq_getElem?_getD, List.getElem?_replicate]
  split <;> rfl
theorem bk0_at {n m i j : Nat} : at2 (List.replicate n (List.replicate m 0)) i j = 0 := by
  unfold at2
  rw [rep_getD (n := n)]
  split
  · rw [rep_getD]; split <;> rfl
  · rfl
theorem snocI {α : Type} {p : List α → Prop} (h0 : p []) (h1 : ∀ l a, p l → p (l ++ [a])) (l : List α) : p l := by
  have key : ∀ l : List α, p l.reverse := by
    intro l
    induction l with
    | nil => exact h0
    | cons a t ih => rw [List.reverse_cons]; exact h1 _ _ ih
  have := key l.reverse
  rwa [List.reverse_reverse] at this
theorem bk0_ok {h acts : Nat} {ts : List Tie} : BkOk h ts acts (bk0 h ts.length acts) :=
  ⟨List.length_replicate, List.length_replicate, fun r hr => by rw [List.eq_of_mem_replicate hr]; exact List.length_replicate, fun r hr => by rw [List.eq_of_mem_replicate hr]; exact List.length_replicate, fun i p j _ => by
    show at2 (List.replicate _ _) _ _ ≤ _ ∧ at2 (List.replicate _ _) _ _ ≤ _
    rw [bk0_at]; exact ⟨Nat.zero_le _, Nat.zero_le _⟩⟩
theorem deedsOf_append (a b : List Stp) : deedsOf (a ++ b) = deedsOf a ++ deedsOf b := by unfold deedsOf; rw [List.filterMap_append]
theorem bookAt_snoc {h acts : Nat} {ts : List Tie} {ss : List Stp} {s : Stp} : bookAt h ts acts (ss ++ [s]) = hearB ts (bookAt h ts acts ss) s := by
  unfold bookAt; rw [List.foldl_append]; rfl
theorem acted_at {h acts : Nat} {ts : List Tie} (ss : List Stp) : (bookAt h ts acts ss).acted = (deedsOf ss).length := by
  refine snocI (p := fun ss => (bookAt h ts acts ss).acted = (deedsOf ss).length) rfl (fun ss s ih => ?_) ss
  · rw [bookAt_snoc, deedsOf_append, List.length_append, ← ih]
    cases s with
    | act v k => rfl
    | meet i => rfl
/-- the book after some steps, room for more -/
theorem book_ok {h acts : Nat} {ts : List Tie} (w : WOk h ts) : ∀ (ss : List Stp), (deedsOf ss).length ≤ acts → (∀ s ∈ ss, sok h ts.length 8 s = true) → BkOk h ts acts (bookAt h ts acts ss) := by
  refine snocI (fun _ _ => bk0_ok) (fun ss s ih => ?_)
  · intro hl hok
    rw [deedsOf_append, List.length_append] at hl
    rw [bookAt_snoc]
    have b := ih (by omega) fun s hs => hok s (List.mem_append_left _ hs)
    have o := hok s (List.mem_append_right _ List.mem_cons_self)
    refine b.hear w ?_
    cases s with
    | act v k =>
      have o : (decide (v < h) && decide (k < 8)) = true := o
      rw [Bool.and_eq_true, decide_eq_true_eq, decide_eq_true_eq] at o
      refine ⟨o.1, ?_⟩
      rw [acted_at]
      have : (deedsOf [Stp.act v k]).length = 1 := rfl
      omega
    | meet i =>
      have o : decide (i < ts.length) = true := o
      show i < ts.length
      exact of_decide_eq_true o
end Hb
/-! Df8: books walked. -/
namespace Hb
open PySem L2 Mc Ly
section
variable {ι : Type} {Z : ι → Cx} {own : Own} {ρ : Ev} {P : Program} {wd : World} {K : PySem.W.Frag} {mg : Str → Option Value} {base : Heap} {N : List Str} {k : Nat} (fm : Fam Z P wd K mg base N k)
variable {e o i : Expr} {pos p : Pos} {D : Ends} {F : List Addr} {M0 H0 M H : Hp} {σ : L2.St} {ad : Addr} {Pq : Ly.D → Own → Prop}
include fm in
/-- xs[i] = e, xs a cell that is read from cells -/
theorem k_itemX {x : Int} {j : Nat} {p' : Pos} (c : C F M0 H0 own ρ σ M H) (he : X own ρ (wE Z e) Pq) (ho : ∀ d o', Pq d o' → E o' ρ (wE Z o) (.ref ad)) (hi : ∀ d o', Pq d o' → E o' ρ (wE Z i) (.int x)) (h : ∀ d o', Pq d o' → ∃ k ds, o'[k]? = some (ad, .l ds) ∧ ixN ds.length x = some j ∧ ∀ M' H', C F M0 H0 (o'.set k (ad, .l (ds.set j d))) ρ σ M' H' → D.nx σ H')
    (hs : ∀ n, swapsWithSole [.Subscript o i p'] e pos.line (Z n).env = pure false := by intro _; rfl) (hw : ∀ n, swappedStores [.Subscript o i p'] e (Z n).env = pure none := by intro _; rfl)
    (h1 : ∀ n, (assignEach [.Subscript o i p'] (Z n).env).map (·.2) = [assign (.Subscript o i p') (Z n).env] := by intro _; rfl)
    (ha : ∀ n v, assign (.Subscript o i p') (Z n).env v = (do
      let ov ← holding [v] (eval o (Z n).env)
      let iv ← holding [v, ov] (eval i (Z n).env)
      standAt p'
      holding [v, ov, iv] <| setItem ov iv v
      release [v, ov, iv] []) := by intro _ _; rfl) : wS Z (.Assign [.Subscript o i p'] e pos) D σ H := by
  refine ⟨tAsg (wE Z e) (gSub (wE Z o) (wE Z i) rSetL), fun n => ps_asg (pe_w n) (pg_sub (pe_w n) (pe_w n) set_list (ha n)) (hs n) (hw n) (h1 n), he F M0 H0 σ M H c _ fun v d o' M1 H1 pq c1 s1 r1 => ?_⟩
  refine ho d o' pq σ M1 H1 c1.sd _ fun w M2 H2 u2 r2 => hi d o' pq σ M2 H2 (c1.sd.pure u2) _ fun y M3 H3 u3 r3 => ?_
  have c3 := (c1.pure u2).pure u3
  obtain ⟨k, ds, hk, hx, kn⟩ := h d o' pq
  obtain ⟨_, ob, hob, vs, rfl, rv⟩ := c3.sd.ow.get hk
  exact ⟨ad, vs, x, j, r2.raw_eq, r3.raw_eq, hob, by rw [rv.length]; exact hx, kn M3 _ (c3.put hk ⟨_, rfl, rv.set (r1.mono (u2.mm.trans u3.mm)) j⟩)⟩
end
/-! ### the cells of a book -/
abbrev Rw := List (Addr × List Nat)
def rowO (hr : Rw) : Own := hr.map fun p => (p.1, .l (nD p.2))
def refs (hr : Rw) : List D := hr.map fun p => .ref p.1
/-- the class of books -/
structure BK (K : PySem.W.Frag) (mg : Str → Option Value) (Cb : Addr) : Prop where
  kl : Kls K mg "Book" Cb
  web : NoAttr K Cb "web"
  acted : NoAttr K Cb "acted"
  houses : NoAttr K Cb "houses"
  ties : NoAttr K Cb "ties"
structure BG where
  h : Nat
  ts : List Tie
  acts : Nat
  b : Addr
  hl : Addr
  tl : Addr
  acted : Nat
  hr : Rw
  tr : Rw
  junk : Own
def BG.bk (g : BG) : Bk := ⟨g.acted, g.hr.map (·.2), g.tr.map (·.2)⟩
def bookF (Cw : Addr) (h : Nat) (ts : List Tie) (acted : Nat) (x y : D) : List (Str × D) := [("web", webD Cw h ts), ("acted", .int (acted : Int)), ("houses", x), ("ties", y)]
def BG.own (Cb Cw : Addr) (g : BG) : Own := (g.b, .ins Cb (bookF Cw g.h g.ts g.acted (.ref g.hl) (.ref g.tl))) :: (g.hl, .l (refs g.hr)) :: (g.tl, .l (refs g.tr)) :: (rowO g.hr ++ (rowO g.tr ++ g.junk))
def bookD (Cb Cw : Addr) (h : Nat) (ts : List Tie) (s : Bk) : D := .ins Cb (bookF Cw h ts s.acted (.lst (tL s.hs)) (.lst (tL s.tz)))
theorem rowO_get {hr : Rw} {i : Nat} {p : Addr × List Nat} (h : hr[i]? = some p) : (rowO hr)[i]? = some (p.1, .l (nD p.2)) := by unfold rowO; rw [List.getElem?_map, h]; rfl
theorem refs_get {hr : Rw} {i : Nat} {p : Addr × List Nat} (h : hr[i]? = some p) : (refs hr)[i]? = some (.ref p.1) := by unfold refs; rw [List.getElem?_map, h]; rfl
theorem rowO_len {hr : Rw} : (rowO hr).length = hr.length := by unfold rowO; rw [List.length_map]
theorem refs_len {hr : Rw} : (refs hr).length = hr.length := by unfold refs; rw [List.length_map]
theorem rowO_set {hr : Rw} {i : Nat} {p : Addr × List Nat} : rowO (hr.set i p) = (rowO hr).set i (p.1, .l (nD p.2)) := by unfold rowO; rw [List.map_set]
theorem refs_set {hr : Rw} {i : Nat} {p : Addr × List Nat} : refs (hr.set i p) = (refs hr).set i (.ref p.1) := by unfold refs; rw [List.map_set]
theorem BG.hrow {Cb Cw : Addr} {g : BG} {i : Nat} {p : Addr × List Nat} (h : g.hr[i]? = some p) : (g.own Cb Cw)[i + 3]? = some (p.1, .l (nD p.2)) := by
  show (rowO g.hr ++ (rowO g.tr ++ g.junk))[i]? = _
  rw [List.getElem?_append_left (by rw [rowO_len]; exact lt_of_get h)]; exact rowO_get h
theorem BG.trow {Cb Cw : Addr} {g : BG} {i : Nat} {p : Addr × List Nat} (h : g.tr[i]? = some p) : (g.own Cb Cw)[g.hr.length + i + 3]? = some (p.1, .l (nD p.2)) := by
  show (rowO g.hr ++ (rowO g.tr ++ g.junk))[g.hr.length + i]? = _
  rw [List.getElem?_append_right (by rw [rowO_len]; omega), rowO_len, Nat.add_sub_cancel_left, List.getElem?_append_left (by rw [rowO_len]; exact lt_of_get h)]; exact rowO_get h
theorem EN.to {own : Own} {ρ : Ev} {te : TE} {ds es : List D} (h : EN own ρ te ds) (e : ds = es) : EN own ρ te es := e ▸ h
theorem perm_c {α : Type} {a b : List α} (h : ∀ [DecidableEq α] (x : α), a.count x = b.count x) : a.Perm b := by
  classical exact List.perm_iff_count.mpr fun x => h x
section
variable {P : Program} {wd : World} {K : PySem.W.Frag} {mg : Str → Option Value} {base : Heap} (B : Blt mg) (G : Gc mg) {Cm Cw Cn Cb : Addr} (W : WK K mg Cw) (BK : BK K mg Cb)
structure BI where
  b : Addr
  h : Nat
  ts : List Tie
  acts : Nat
abbrev PreB (Cb Cw : Addr) (g : BI) (ds : List D) (o : Own) : Prop := ds = [.ref g.b, webD Cw g.h g.ts, .int (g.acts : Int)] ∧ o = [(g.b, .ins Cb [])] ∧ WOk g.h g.ts ∧ g.acts ≤ 400
abbrev PostB (Cb Cw : Addr) (i : BI) (d : D) (o : Own) : Prop := d = .non ∧ ∃ g : BG, g.h = i.h ∧ g.ts = i.ts ∧ g.b = i.b ∧ g.acts = i.acts ∧ o = g.own Cb Cw ∧ g.bk = bk0 i.h i.ts.length i.acts
abbrev s56 : Stmt := inClass (top 56) 0
theorem sc56 : FnScope ["self", "web", "acts", "_"] ["self", "web", "acts"] (defScope s56) := ⟨rfl, rfl, rfl, by decide +kernel, rfl, by decide +kernel, by decide +kernel⟩
theorem rowsO_rowO {acts : Nat} {rs : List Addr} : rowsO (nD (List.replicate acts 0)) rs = rowO (rs.map fun r => (r, List.replicate acts 0)) := by
  unfold rowsO rowO; rw [List.map_map]; rfl
theorem refs_map {l : List Nat} {rs : List Addr} : rs.map D.ref = refs (rs.map fun r => (r, l)) := by unfold refs; rw [List.map_map]; rfl
include B W BK in
theorem ok56 {f : Addr} {fd : FuncData} (F : Fun K "__init__" "Book.__init__" s56 f fd) : FnOk P wd K mg base (L2.CX P wd) 1 f fd ["self", "web", "acts"] (spN (PreB Cb Cw) (PostB Cb Cw)) := by
  refine fn_new F sc56 (fun g ds o ⟨e, _⟩ => by rw [e]; rfl) ?_
  rintro cdv A outer s H Er fm ⟨b, h, ts, acts⟩ ds own ⟨rfl, rfl, ow, ha⟩ M0 H0 σ D c q hn
  simp only at ow ha c
  have k2 := ow.h12
  have k3 := ow.t20
  refine b_cons (k_fld fm (kk := 0) c (w_nm 1 (fun _ => rfl) rfl) (w_nm 0 (fun _ => rfl) rfl) rfl BK.kl.cl BK.web (lt1000 (m := 0) rfl) fun M H c => ?_)
  refine b_cons (k_fld fm (kk := 0) c w_int (w_nm 0 (fun _ => rfl) rfl) rfl BK.kl.cl BK.acted (lt1000 (m := 1) rfl) fun M H c => ?_)
  have e1 : (List.replicate (acts : Int).toNat [Ly.D.int 0]).flatten = nD (List.replicate acts 0) := by rw [Int.toNat_natCast]; exact rep_flat (x := 0)
  refine b_cons (k_fldX fm c (x_lcRows (w := nD (List.replicate acts 0)) fm [("_", 3)] (blkOk_by (sc := defScope s56) (by decide +kernel)) (fun _ => rfl) (f1 3) (i_rg1 fm B (w_fld fm (w_nm 1 (fun _ => rfl) rfl) W.kl.cl W.houses rfl)) (by unfold rgD; rw [List.length_map, List.length_range]; omega) (fun i d h => (cw_name (Fam.blk fm) 3 (fun _ => rfl) (by decide)))
    (fun i d h => EN.to (n_rep (w_lst (a_cons w_int a_nil)) (w_nm 2 (fun _ => rfl) rfl) ⟨by omega, by omega, Nat.le_refl 1⟩) e1)) (fun o => w_nm 0 (fun _ => rfl) rfl) BK.kl.cl BK.houses ?_)
  rintro d o ⟨hl, rs, rfl, hrs, rfl⟩
  refine ⟨rs.length + 1, [("web", webD Cw h ts), ("acted", .int 0)], ?_, lt1000 (m := 2) rfl, fun M H c => ?_⟩
  · show (rowsO _ rs ++ [(b, OC.ins Cb _)])[rs.length]? = _
    rw [List.getElem?_append_right (by unfold rowsO; rw [List.length_map]; exact Nat.le_refl _)]
    unfold rowsO
    rw [List.length_map, Nat.sub_self]
    rfl
  have e2 : ((hl, OC.l (rs.map Ly.D.ref)) :: (rowsO (nD (List.replicate acts 0)) rs ++ [(b, OC.ins Cb [("web", webD Cw h ts), ("acted", .int 0)])])).set (rs.length + 1) (b, .ins Cb [("web", webD Cw h ts), ("acted", .int 0), ("houses", .ref hl)]) = (hl, OC.l (rs.map Ly.D.ref)) :: (rowsO (nD (List.replicate acts 0)) rs ++ [(b, OC.ins Cb [("web", webD Cw h ts), ("acted", .int 0), ("houses", .ref hl)])]) := by
    rw [List.set_cons_succ, List.set_append_right _ _ (by unfold rowsO; rw [List.length_map]; exact Nat.le_refl _)]
    unfold rowsO
    rw [List.length_map, Nat.sub_self]
    rfl
  have c := (show C _ M0 H0 (((hl, OC.l (rs.map Ly.D.ref)) :: (rowsO (nD (List.replicate acts 0)) rs ++ [(b, OC.ins Cb [("web", webD Cw h ts), ("acted", .int 0)])])).set (rs.length + 1) (b, .ins Cb [("web", webD Cw h ts), ("acted", .int 0), ("houses", .ref hl)])) _ σ M H from c)
  rw [e2] at c
  have c := c.perm (o2 := (b, OC.ins Cb [("web", webD Cw h ts), ("acted", .int 0), ("houses", .ref hl)]) :: (hl, OC.l (rs.map Ly.D.ref)) :: rowsO (nD (List.replicate acts 0)) rs) (perm_c fun x => by
    simp only [List.count_cons, List.count_append, List.count_nil]; omega)
  refine b_one (k_fldX fm c (x_lcRows (w := nD (List.replicate acts 0)) fm [("_", 3)] (blkOk_by (sc := defScope s56) (by decide +kernel)) (fun _ => rfl) (f1 3) (i_sq fm (w_fld fm (w_nm 1 (fun _ => rfl) rfl) W.kl.cl W.ties rfl) qT) (by rw [pT_len]; omega) (fun i d h => (cw_name (Fam.blk fm) 3 (fun _ => rfl) (by decide)))
    (fun i d h => EN.to (n_rep (w_lst (a_cons w_int a_nil)) (w_nm 2 (fun _ => rfl) rfl) ⟨by omega, by omega, Nat.le_refl 1⟩) e1)) (fun o => w_nm 0 (fun _ => rfl) rfl) BK.kl.cl BK.ties ?_)
  rintro d o ⟨tl, rt, rfl, hrt, rfl⟩
  refine ⟨rt.length + 1, [("web", webD Cw h ts), ("acted", .int 0), ("houses", .ref hl)], ?_, lt1000 (m := 3) rfl, fun M H c => ?_⟩
  · show (rowsO _ rt ++ _)[rt.length]? = _
    rw [List.getElem?_append_right (by unfold rowsO; rw [List.length_map]; exact Nat.le_refl _)]
    unfold rowsO
    rw [List.length_map, Nat.sub_self]
    rfl
  have e3 : ((tl, OC.l (rt.map Ly.D.ref)) :: (rowsO (nD (List.replicate acts 0)) rt ++ ((b, OC.ins Cb [("web", webD Cw h ts), ("acted", .int 0), ("houses", .ref hl)]) :: (hl, OC.l (rs.map Ly.D.ref)) :: rowsO (nD (List.replicate acts 0)) rs))).set (rt.length + 1) (b, .ins Cb (bookF Cw h ts 0 (.ref hl) (.ref tl)))
      = (tl, OC.l (rt.map Ly.D.ref)) :: (rowsO (nD (List.replicate acts 0)) rt ++ ((b, OC.ins Cb (bookF Cw h ts 0 (.ref hl) (.ref tl))) :: (hl, OC.l (rs.map Ly.D.ref)) :: rowsO (nD (List.replicate acts 0)) rs)) := by
    rw [List.set_cons_succ, List.set_append_right _ _ (by unfold rowsO; rw [List.length_map]; exact Nat.le_refl _)]
    have e : rt.length - (rowsO (nD (List.replicate acts 0)) rt).length = 0 := by unfold rowsO; rw [List.length_map, Nat.sub_self]
    rw [e]
    rfl
  have c := (show C _ M0 H0 (((tl, OC.l (rt.map Ly.D.ref)) :: (rowsO (nD (List.replicate acts 0)) rt ++ ((b, OC.ins Cb [("web", webD Cw h ts), ("acted", .int 0), ("houses", .ref hl)]) :: (hl, OC.l (rs.map Ly.D.ref)) :: rowsO (nD (List.replicate acts 0)) rs))).set (rt.length + 1) (b, .ins Cb (bookF Cw h ts 0 (.ref hl) (.ref tl)))) _ σ M H from c)
  rw [e3] at c
  have hrs' : rs.length = h := by rw [hrs]; unfold rgD; rw [List.length_map, List.length_range, Int.toNat_natCast]
  have hrt' : rt.length = ts.length := by rw [hrt, pT_len]
  refine (hn _ _).mpr (q .non .non _ _ σ M H ⟨rfl, ⟨h, ts, acts, b, hl, tl, 0, rs.map fun r => (r, List.replicate acts 0), rt.map fun r => (r, List.replicate acts 0), []⟩, rfl, rfl, rfl, rfl, rfl, ?_⟩ (c.perm ?_) (.raw _))
  · have z : ∀ l : List Addr, (l.map fun r => (r, List.replicate acts 0)).map (·.2) = List.replicate l.length (List.replicate acts 0) := fun l => by
      rw [List.map_map]
      exact List.map_const'
    show Bk.mk _ _ _ = Bk.mk _ _ _
    rw [z, z, hrs', hrt']
  · unfold BG.own
    rw [rowsO_rowO, rowsO_rowO, refs_map (l := List.replicate acts 0), refs_map (l := List.replicate acts 0)]
    refine perm_c fun x => ?_
    simp only [List.count_cons, List.count_append, List.count_nil]
    omega
/-! ### hear -/
theorem map_snd_set {hr : Rw} {i : Nat} {a : Addr} {l : List Nat} : (hr.set i (a, l)).map (·.2) = (hr.map (·.2)).set i l := by rw [List.map_set]
theorem snd_at {hr : Rw} {i : Nat} {p : Addr × List Nat} (h : hr[i]? = some p) : (hr.map (·.2)).getD i [] = p.2 := by
  refine getD_of ?_
  rw [List.getElem?_map, h]; rfl
/-- what joins two rows -/
def jD (d : D) : D := match d with
  | .tup [.raw (.int c), .raw (.int o), .raw (.int b)] => .int (c + o - b)
  | x => x
theorem jD_eq : ∀ (a b c : List Nat), (∀ q ∈ a.zip (b.zip c), q.2.2 ≤ q.1 + q.2.1) → (zip3D (nD a) (nD b) (nD c)).map jD = nD (joinRow a b c)
  | [], _, _, _ => rfl
  | _ :: _, [], _, _ => rfl
  | _ :: _, _ :: _, [], _ => rfl
  | x :: a, y :: b, z :: c, h => by
    have ih := jD_eq a b c fun q hq => h q (List.mem_cons_of_mem _ hq)
    have h0 : z ≤ x + y := h (x, y, z) List.mem_cons_self
    show jD (.tup [.int (x : Int), .int (y : Int), .int (z : Int)]) :: (zip3D (nD a) (nD b) (nD c)).map jD = .int ((x + y - z : Nat) : Int) :: nD (joinRow a b c)
    rw [ih]
    show D.int ((x : Int) + y - z) :: _ = _
    rw [Int.natCast_sub h0, Int.natCast_add]
theorem zip3D_get {a b c : List Nat} {i : Nat} {d : D} (h : (zip3D (nD a) (nD b) (nD c))[i]? = some d) : ∃ x y z : Nat, a[i]? = some x ∧ b[i]? = some y ∧ c[i]? = some z ∧ d = .tup [.int (x : Int), .int (y : Int), .int (z : Int)] := by
  unfold zip3D at h
  rw [List.getElem?_map, Option.map_eq_some_iff] at h
  obtain ⟨p, h1, rfl⟩ := h
  obtain ⟨h2, h3⟩ := List.getElem?_zip_eq_some.mp h1
  obtain ⟨h4, h5⟩ := List.getElem?_zip_eq_some.mp h3
  obtain ⟨x, e1, e2⟩ := nD_get h2
  obtain ⟨y, e3, e4⟩ := nD_get h4
  obtain ⟨z, e5, e6⟩ := nD_get h5
  exact ⟨x, y, z, e1, e3, e5, by rw [e2, e4, e6]⟩
structure HI where
  g : BG
  st : Stp
abbrev PreH (Cb Cw : Addr) (x : HI) (ds : List D) (o : Own) : Prop := ds = [.ref x.g.b, stT x.st] ∧ o = x.g.own Cb Cw ∧ WOk x.g.h x.g.ts ∧ BkOk x.g.h x.g.ts x.g.acts x.g.bk ∧ fits x.g.h x.g.ts x.g.acts x.g.bk x.st ∧ x.g.acts ≤ 400
abbrev PostH (Cb Cw : Addr) (x : HI) (d : D) (o : Own) : Prop := d = .non ∧ ∃ g : BG, g.h = x.g.h ∧ g.ts = x.g.ts ∧ g.b = x.g.b ∧ g.acts = x.g.acts ∧ o = g.own Cb Cw ∧ g.bk = hearB x.g.ts x.g.bk x.st
abbrev s56h : Stmt := inClass (top 56) 2
theorem sc56h : FnScope ["self", "one", "here", "there", "rows", "count", "other", "both"] ["self", "one"] (defScope s56h) := ⟨rfl, rfl, rfl, by decide +kernel, rfl, by decide +kernel, by decide +kernel⟩
/-- a new row at a house -/
theorem BG.perm_h {g : BG} {i : Nat} {a r : Addr} {l l' : List Nat} (h : g.hr[i]? = some (r, l)) :
    ((a, OC.l (nD l')) :: (g.b, OC.ins Cb (bookF Cw g.h g.ts g.acted (.ref g.hl) (.ref g.tl))) :: (g.hl, OC.l ((refs g.hr).set i (.ref a))) :: (g.tl, OC.l (refs g.tr)) :: (rowO g.hr ++ (rowO g.tr ++ g.junk))).Perm (BG.own Cb Cw { g with hr := g.hr.set i (a, l'), junk := (r, .l (nD l)) :: g.junk }) := by
  have p := perm_set (x := (a, OC.l (nD l'))) (rowO g.hr) i (rowO_get h)
  unfold BG.own
  rw [rowO_set, refs_set]
  refine perm_c fun x => ?_
  have p := List.perm_iff_count.mp p x
  simp only [List.count_cons, List.count_append] at p ⊢
  omega
/-- a new row at a tie -/
theorem BG.perm_t {g : BG} {i : Nat} {a r : Addr} {l l' : List Nat} (h : g.tr[i]? = some (r, l)) :
    ((a, OC.l (nD l')) :: (g.b, OC.ins Cb (bookF Cw g.h g.ts g.acted (.ref g.hl) (.ref g.tl))) :: (g.hl, OC.l (refs g.hr)) :: (g.tl, OC.l ((refs g.tr).set i (.ref a))) :: (rowO g.hr ++ (rowO g.tr ++ g.junk))).Perm (BG.own Cb Cw { g with tr := g.tr.set i (a, l'), junk := (r, .l (nD l)) :: g.junk }) := by
  have p := perm_set (x := (a, OC.l (nD l'))) (rowO g.tr) i (rowO_get h)
  unfold BG.own
  rw [rowO_set, refs_set]
  refine perm_c fun x => ?_
  have p := List.perm_iff_count.mp p x
  simp only [List.count_cons, List.count_append] at p ⊢
  omega
theorem BG.put_h {g : BG} {v : Nat} {r : Addr} {l l' : List Nat} (h : g.hr[v]? = some (r, l)) : (g.own Cb Cw).set (v + 3) (r, .l (nD l')) = BG.own Cb Cw { g with hr := g.hr.set v (r, l') } := by
  unfold BG.own
  rw [rowO_set, refs_set]
  have e : (refs g.hr).set v (.ref r) = refs g.hr := by
    refine List.ext_getElem? fun j => ?_; by_cases hj : v = j
    · subst hj
      rw [List.getElem?_set_self (by rw [refs_len]; exact lt_of_get h), refs_get h]
    · rw [List.getElem?_set_ne hj]
  rw [e]
  show _ :: _ :: _ :: (rowO g.hr ++ _).set v _ = _
  rw [List.set_append_left _ _ (by rw [rowO_len]; exact lt_of_get h)]
theorem nD_setI {l : List Nat} {j m : Nat} : (nD l).set j (.int (m : Int)) = nD (l.set j m) := by unfold nD; rw [List.map_set]
theorem row_of {hr : Rw} {h v : Nat} (hl : (hr.map (·.2)).length = h) (hv : v < h) : ∃ r l, hr[v]? = some (r, l) ∧ l ∈ hr.map (·.2) ∧ (hr.map (·.2)).getD v [] = l := by
  rw [List.length_map] at hl
  have e : hr[v]? = some (hr.getD v (0, [])) := getD_at (by omega)
  exact ⟨_, _, e, List.mem_map.mpr ⟨_, List.mem_of_getElem? e, rfl⟩, snd_at e⟩
include B G W BK in
theorem ok56h {f : Addr} {fd : FuncData} (F : Fun K "hear" "Book.hear" s56h f fd) : FnOk P wd K mg base (L2.CX P wd) 1 f fd ["self", "one"] (spN (PreH Cb Cw) (PostH Cb Cw)) := by
  refine fn_new F sc56h (fun g ds o ⟨e, _⟩ => by rw [e]; rfl) ?_
  rintro cdv A outer s H Er fm ⟨g, st⟩ ds own ⟨rfl, rfl, ow, ok, fi, ha⟩ M0 H0 σ D c q hn
  simp only at ow ok fi ha c
  have k2 := ow.h12
  have k3 := ow.t20
  obtain ⟨x, hx, ex⟩ := st_first st
  refine b_one (k_if c (t_cmp (w_ix fm (w_nm 1 (fun _ => rfl) rfl) w_int qT hx) (w_gs fm G.DO) cm_eqS) (fun h M H c => ?_) fun h M H c => ?_)
  · rw [ex] at h
    cases st with
    | meet i => cases h
    | act v d =>
      obtain ⟨hv, hac⟩ := fi
      have hac : g.acted < g.acts := hac
      obtain ⟨r, l, hrow, hm, hg⟩ := row_of ok.hl hv
      have ll : l.length = g.acts := ok.hr l hm
      refine b_cons (k_itemI (kk := v + 3) (j := g.acted) (z := (l.getD g.acted 0 : Nat)) fm c (w_ixO (kk := 1) fm (w_fldO fm (kk := 0) (w_nm 0 (fun _ => rfl) rfl) rfl BK.kl.cl BK.houses rfl) (w_ix fm (w_nm 1 (fun _ => rfl) rfl) w_int qT rfl) rfl (atI_of v (refs_get hrow))) (w_fldO fm (kk := 0) (w_nm 0 (fun _ => rfl) rfl) rfl BK.kl.cl BK.acted rfl) w_int (BG.hrow hrow) (ixN_of (by show g.acted < (nD l).length; rw [nD_len]; omega)) (nD_at (by show g.acted < l.length; omega)) fun M H c => ?_)
      have e : (nD l).set g.acted (.int (((l.getD g.acted 0 : Nat) : Int) + 1)) = nD (l.set g.acted (l.getD g.acted 0 + 1)) := nD_setI (m := l.getD g.acted 0 + 1)
      rw [e, BG.put_h hrow] at c
      refine b_one (k_fldI fm (kk := 0) c (w_nm 0 (fun _ => rfl) rfl) rfl rfl w_int BK.kl.cl BK.acted (lt1000 (m := 4) rfl) fun M H c => ?_)
      refine (hn _ _).mpr (q .non .non _ _ _ M H ⟨rfl, { g with hr := g.hr.set v (r, l.set g.acted (l.getD g.acted 0 + 1)), acted := g.acted + 1 }, rfl, rfl, rfl, rfl, rfl, ?_⟩ c (.raw _))
      show Bk.mk _ _ _ = Bk.mk _ _ _
      rw [map_snd_set]
      show Bk.mk _ _ _ = Bk.mk _ ((g.hr.map (·.2)).set v (((g.hr.map (·.2)).getD v []).set g.acted (((g.hr.map (·.2)).getD v []).getD g.acted 0 + 1))) _
      rw [hg]
      rfl
  · rw [ex] at h
    cases st with
    | act v d => cases h
    | meet i =>
      have hi : g.ts[i]? = some (g.ts.getD i (0, 0)) := getD_at fi
      generalize hp : g.ts.getD i (0, 0) = p at hi
      obtain ⟨p1, p2, p3⟩ := ow.tie _ (List.mem_of_getElem? hi)
      obtain ⟨r1, l1, h1, m1, g1⟩ := row_of ok.hl p1
      obtain ⟨r2, l2, h2, m2, g2⟩ := row_of ok.hl p2
      obtain ⟨r3, l3, h3, m3, g3⟩ := row_of ok.tl fi
      have ll1 : l1.length = g.acts := ok.hr l1 m1
      have ll2 : l2.length = g.acts := ok.hr l2 m2
      have ll3 : l3.length = g.acts := ok.tr l3 m3
      refine b_cons (k_asg c (w_ix fm (w_fld fm (w_fldO fm (kk := 0) (w_nm 0 (fun _ => rfl) rfl) rfl BK.kl.cl BK.web rfl) W.kl.cl W.ties rfl) (w_ix fm (w_nm 1 (fun _ => rfl) rfl) w_int qT rfl) qT (atI_of i (pT_at hi))) (g_tup fm (g_cons fm 2 (fun _ => rfl) (g_cons fm 3 (fun _ => rfl) g_nil))) fun σ M H c => ?_)
      refine b_cons (k_set fm 4 c (EN.e (n_listZip3O fm B (w_ixO (kk := 1) fm (w_fldO fm (kk := 0) (w_nm 0 (fun _ => rfl) rfl) rfl BK.kl.cl BK.houses rfl) (w_nm 2 (fun _ => rfl) rfl) rfl (atI_of p.1 (refs_get h1))) (w_ixO (kk := 1) fm (w_fldO fm (kk := 0) (w_nm 0 (fun _ => rfl) rfl) rfl BK.kl.cl BK.houses rfl) (w_nm 3 (fun _ => rfl) rfl) rfl (atI_of p.2 (refs_get h2))) (w_ixO (kk := 2) fm (w_fldO fm (kk := 0) (w_nm 0 (fun _ => rfl) rfl) rfl BK.kl.cl BK.ties rfl) (w_ix fm (w_nm 1 (fun _ => rfl) rfl) w_int qT rfl) rfl (atI_of i (refs_get h3)))
        (BG.hrow h1) (BG.hrow h2) (BG.trow h3) (by rw [nD_len, nD_len]; show l1.length ≤ l2.length; omega) (by rw [nD_len, nD_len]; show l1.length ≤ l3.length; omega))) (fun _ => rfl) fun σ M H c => ?_)
      have ej : ((zip3D (nD l1) (nD l2) (nD l3)).map jD) = nD (joinRow l1 l2 l3) := jD_eq _ _ _ fun q hq => by
        obtain ⟨j, hj⟩ := List.getElem?_of_mem hq
        obtain ⟨y1, y2⟩ := List.getElem?_zip_eq_some.mp hj
        obtain ⟨y3, y4⟩ := List.getElem?_zip_eq_some.mp y2
        have := (ok.le i p j hi).1
        unfold at2 at this
        have a1 : (g.bk.tz.getD i []).getD j 0 = q.2.2 := by show ((g.tr.map (·.2)).getD i []).getD j 0 = _; rw [g3]; exact getD_of y4
        have a2 : (g.bk.hs.getD p.1 []).getD j 0 = q.1 := by show ((g.hr.map (·.2)).getD p.1 []).getD j 0 = _; rw [g1]; exact getD_of y1
        rw [a1, a2] at this
        omega
      refine b_cons (k_itemX fm (x := (p.1 : Int)) (j := p.1) (ad := g.hl) c (EN.xn (EN.to (n_lc fm [("count", 5), ("other", 6), ("both", 7)] (blkOk_by (sc := defScope s56h) (by decide +kernel)) (fun _ => rfl) (fun _ => true) jD (f3 5 6 7) (i_sq fm (w_nm 4 (fun _ => rfl) rfl) qL) (by unfold zip3D; rw [List.length_map, List.length_zip, nD_len]; show min l1.length _ ≤ _; omega) (fun i d h => ?_) (fun i d h => ts_nil) (fun i d h hq => ?_)) (keep_all.trans ej))) ?_ ?_ ?_)
      · obtain ⟨x, y, z, e1, e2, e3, rfl⟩ := zip3D_get h
        exact (cw_tup (Fam.blk fm) (cw_cons (Fam.blk fm) 5 (fun _ => rfl) (by decide) (cw_cons (Fam.blk fm) 6 (fun _ => rfl) (by decide) (cw_cons (Fam.blk fm) 7 (fun _ => rfl) (by decide) cw_nil))))
      · obtain ⟨x, y, z, e1, e2, e3, rfl⟩ := zip3D_get h
        exact w_sub (w_addI (Fam.blk fm) (w_nm 5 (fun _ => rfl) rfl) (w_nm 6 (fun _ => rfl) rfl)) (w_nm 7 (fun _ => rfl) rfl)
      · rintro d o ⟨a, rfl, rfl⟩
        exact w_fldO fm (kk := 1) (w_nm 0 (fun _ => rfl) rfl) rfl BK.kl.cl BK.houses rfl
      · rintro d o ⟨a, rfl, rfl⟩
        exact w_nm 2 (fun _ => rfl) rfl
      rintro d o ⟨a, rfl, rfl⟩
      refine ⟨2, refs g.hr, rfl, ixN_of (by rw [refs_len]; exact lt_of_get h1), fun M H c => ?_⟩
      have c := c.perm (BG.perm_h (Cb := Cb) (Cw := Cw) (l' := joinRow l1 l2 l3) (a := a) h1)
      have q1 : (g.hr.set p.1 (a, joinRow l1 l2 l3))[p.1]? = some (a, joinRow l1 l2 l3) := List.getElem?_set_self (lt_of_get h1)
      have q2 : (g.hr.set p.1 (a, joinRow l1 l2 l3))[p.2]? = some (r2, l2) := by rw [List.getElem?_set_ne p3]; exact h2
      refine b_cons (k_itemX fm (x := (p.2 : Int)) (j := p.2) (ad := g.hl) c (EN.xn (n_listO fm B (w_ixO (kk := 1) fm (w_fldO fm (kk := 0) (w_nm 0 (fun _ => rfl) rfl) rfl BK.kl.cl BK.houses rfl) (w_nm 2 (fun _ => rfl) rfl) rfl (atI_of p.1 (refs_get q1))) (BG.hrow (g := { g with hr := g.hr.set p.1 (a, joinRow l1 l2 l3), junk := (r1, .l (nD l1)) :: g.junk }) q1))) ?_ ?_ ?_)
      · rintro d o ⟨a, rfl, rfl⟩
        exact w_fldO fm (kk := 1) (w_nm 0 (fun _ => rfl) rfl) rfl BK.kl.cl BK.houses rfl
      · rintro d o ⟨a, rfl, rfl⟩
        exact w_nm 3 (fun _ => rfl) rfl
      rintro d o ⟨a2, rfl, rfl⟩
      refine ⟨2, refs (g.hr.set p.1 (a, joinRow l1 l2 l3)), rfl, ixN_of (by rw [refs_len]; exact lt_of_get q2), fun M H c => ?_⟩
      have c := c.perm (BG.perm_h (Cb := Cb) (Cw := Cw) (g := { g with hr := g.hr.set p.1 (a, joinRow l1 l2 l3), junk := (r1, .l (nD l1)) :: g.junk }) (l' := joinRow l1 l2 l3) (a := a2) q2)
      have q4 : ((g.hr.set p.1 (a, joinRow l1 l2 l3)).set p.2 (a2, joinRow l1 l2 l3))[p.1]? = some (a, joinRow l1 l2 l3) := by rw [List.getElem?_set_ne (Ne.symm p3)]; exact q1
      refine b_one (k_itemX fm (x := (i : Int)) (j := i) (ad := g.tl) c (EN.xn (n_listO fm B (w_ixO (kk := 1) fm (w_fldO fm (kk := 0) (w_nm 0 (fun _ => rfl) rfl) rfl BK.kl.cl BK.houses rfl) (w_nm 2 (fun _ => rfl) rfl) rfl (atI_of p.1 (refs_get q4))) (BG.hrow (g := { g with hr := (g.hr.set p.1 (a, joinRow l1 l2 l3)).set p.2 (a2, joinRow l1 l2 l3), junk := (r2, .l (nD l2)) :: (r1, .l (nD l1)) :: g.junk }) q4))) ?_ ?_ ?_)
      · rintro d o ⟨a, rfl, rfl⟩
        exact w_fldO fm (kk := 1) (w_nm 0 (fun _ => rfl) rfl) rfl BK.kl.cl BK.ties rfl
      · rintro d o ⟨a, rfl, rfl⟩
        exact w_ix fm (w_nm 1 (fun _ => rfl) rfl) w_int qT rfl
      rintro d o ⟨a3, rfl, rfl⟩
      refine ⟨3, refs g.tr, rfl, ixN_of (by rw [refs_len]; exact lt_of_get h3), fun M H c => ?_⟩
      have c := c.perm (BG.perm_t (Cb := Cb) (Cw := Cw) (g := { g with hr := (g.hr.set p.1 (a, joinRow l1 l2 l3)).set p.2 (a2, joinRow l1 l2 l3), junk := (r2, .l (nD l2)) :: (r1, .l (nD l1)) :: g.junk }) (l' := joinRow l1 l2 l3) (a := a3) h3)
      refine (hn _ _).mpr (q .non .non _ _ _ M H ⟨rfl, { g with hr := (g.hr.set p.1 (a, joinRow l1 l2 l3)).set p.2 (a2, joinRow l1 l2 l3), tr := g.tr.set i (a3, joinRow l1 l2 l3), junk := (r3, .l (nD l3)) :: (r2, .l (nD l2)) :: (r1, .l (nD l1)) :: g.junk }, rfl, rfl, rfl, rfl, rfl, ?_⟩ c (.raw _))
      show Bk.mk _ _ _ = Bk.mk _ _ _
      rw [map_snd_set, map_snd_set, map_snd_set, hp]
      show _ = Bk.mk _ (((g.hr.map (·.2)).set _ (joinRow ((g.hr.map (·.2)).getD _ []) ((g.hr.map (·.2)).getD _ []) ((g.tr.map (·.2)).getD i []))).set _ (joinRow ((g.hr.map (·.2)).getD _ []) ((g.hr.map (·.2)).getD _ []) ((g.tr.map (·.2)).getD i []))) ((g.tr.map (·.2)).set i (joinRow ((g.hr.map (·.2)).getD _ []) ((g.hr.map (·.2)).getD _ []) ((g.tr.map (·.2)).getD i [])))
      rw [g1, g2, g3]
      rfl
end
end Hb
/-! Df9: books after steps. -/
namespace Hb
open PySem L2 Mc Ly
section
variable {M0 H0 M H : Hp} {own own' o2 : Own} {ρ : Ev} {σ : L2.St} {Cb Cw : Addr}
theorem C.dropAll (c : C [] M0 H0 own ρ σ M H) : C [] M0 H0 [] ρ σ M H :=
  ⟨⟨c.sd.mh, c.sd.env, .nil⟩, c.bs, (fun _ h => nomatch h), fun a ha => nomatch ha⟩
theorem C.frzRows : ∀ (hr : Rw) {own : Own} {M : Hp}, C [] M0 H0 (rowO hr ++ own) ρ σ M H → ∃ M', C [] M0 H0 own ρ σ M' H ∧ Same M M' ∧ ∀ p ∈ hr, Dv M' (.ref p.1) (.lst (nD p.2))
  | [], own, M, c => ⟨M, c, Same.refl _, fun _ h => nomatch h⟩
  | p :: hr, own, M, c => by
    obtain ⟨M1, c1, s1, d1⟩ := C.frz (F := []) (a := p.1) (cl := .l (nD p.2)) (own := rowO hr ++ own) c (fun h => nomatch h) rfl
    obtain ⟨M2, c2, s2, d2⟩ := C.frzRows hr c1
    refine ⟨M2, c2, s1.trans s2, fun q hq => ?_⟩
    obtain rfl | hq := List.mem_cons.mp hq
    · exact d1.mono s2
    · exact d2 q hq
theorem refs_told {M : Hp} : ∀ {hr : Rw} {vs : List V}, (∀ p ∈ hr, Dv M (.ref p.1) (.lst (nD p.2))) → Dvs M vs (refs hr) → Dvs M vs (tL (hr.map (·.2)))
  | [], _, _, r => r
  | p :: hr, _, h, .cons r rs => by
    rw [r.raw_eq]
    exact .cons (h p List.mem_cons_self) (refs_told (fun q hq => h q (List.mem_cons_of_mem _ hq)) rs)
theorem BG.freeze {g : BG} (c : C [] M0 H0 (g.own Cb Cw) ρ σ M H) : ∃ M', C [] M0 H0 [] ρ σ M' H ∧ Same M M' ∧ Dv M' (.ref g.b) (bookD Cb Cw g.h g.ts g.bk) := by
  have c1 := c.perm (o2 := rowO g.hr ++ (rowO g.tr ++ ((g.hl, .l (refs g.hr)) :: (g.tl, .l (refs g.tr)) :: (g.b, .ins Cb (bookF Cw g.h g.ts g.acted (.ref g.hl) (.ref g.tl))) :: g.junk))) (by
    unfold BG.own
    refine perm_c fun x => ?_
    simp only [List.count_cons, List.count_append]
    omega)
  obtain ⟨M1, c2, s1, d1⟩ := C.frzRows g.hr c1
  obtain ⟨M2, c3, s2, d2⟩ := C.frzRows g.tr c2
  have c4 := c3.tellL (k := 0) (es := tL (g.hr.map (·.2))) rfl fun vs r => refs_told (fun p hp => (d1 p hp).mono s2) r
  obtain ⟨M3, c5, s3, d3⟩ := C.frz (F := []) (own := (g.tl, .l (refs g.tr)) :: (g.b, .ins Cb (bookF Cw g.h g.ts g.acted (.ref g.hl) (.ref g.tl))) :: g.junk) c4 (fun h => nomatch h) rfl
  have c6 := c5.tellL (k := 0) (es := tL (g.tr.map (·.2))) rfl fun vs r => refs_told (fun p hp => (d2 p hp).mono s3) r
  obtain ⟨M4, c7, s4, d4⟩ := C.frz (F := []) (own := (g.b, .ins Cb (bookF Cw g.h g.ts g.acted (.ref g.hl) (.ref g.tl))) :: g.junk) c6 (fun h => nomatch h) rfl
  have c8 := c7.tellI (k := 0) (gs := bookF Cw g.h g.ts g.acted (.lst (tL (g.hr.map (·.2)))) (.lst (tL (g.tr.map (·.2))))) rfl fun vs r => by
    cases r with
    | cons r1 r => cases r with
      | cons r2 r => cases r with
        | cons r3 r => cases r with
          | cons r4 r =>
            cases r
            refine .cons r1 (.cons r2 (.cons ?_ (.cons ?_ .nil)))
            · rw [r3.raw_eq]; exact d3.mono s4
            · rw [r4.raw_eq]; exact d4
  obtain ⟨M5, c9, s5, d5⟩ := C.frz (F := []) (own := g.junk) c8 (fun h => nomatch h) rfl
  exact ⟨M5, C.dropAll c9, (((s1.trans s2).trans s3).trans s4).trans s5, d5⟩
end
section
variable {P : Program} {wd : World} {K : PySem.W.Frag} {mg : Str → Option Value} {base : Heap} (B : Blt mg) (G : Gc mg) {Cm Cw Cn Cb : Addr} (T : MK K mg Cm) (W : WK K mg Cw) (BK : BK K mg Cb)
def bookOf (h : Nat) (ts : List Tie) (ss : List Stp) : Bk := bookAt h ts (deedsOf ss).length ss
abbrev RBook (Cb Cw : Addr) : List D → D → Prop := fun ds d => ∃ (h : Nat) (ts : List Tie) (ss : List Stp), ds = [webD Cw h ts, .tup (ss.map stT)] ∧ WOk h ts ∧ ss.length ≤ 400 ∧ (∀ s ∈ ss, sok h ts.length 8 s = true) ∧ d = bookD Cb Cw h ts (bookOf h ts ss)
theorem keep_do_len (ss : List Stp) : (keep (ss.map stT) isDo (fun d => d)).length = (deedsOf ss).length := by
  have := congrArg List.length (keep_deeds ss)
  rw [nD_len] at this
  rw [← this]
  unfold keep
  rw [List.length_map, List.length_map]
theorem deedsOf_len {ss : List Stp} : (deedsOf ss).length ≤ ss.length := List.length_filterMap_le _ _
abbrev s57 : Stmt := top 57
theorem sc57 : FnScope ["web", "told", "book", "one"] ["web", "told"] (defScope s57) := ⟨rfl, rfl, rfl, by decide +kernel, rfl, by decide +kernel, by decide +kernel⟩
include B G BK in
theorem ok57 {f : Addr} {fd : FuncData} (F : Df K mg "book_after" s57 f fd) (CI : CalI P wd K mg base Cb 1 ["self", "web", "acts"] (spN (PreB Cb Cw) (PostB Cb Cw))) (CH : CalM P wd K mg base Cb "hear" 1 ["self", "one"] (spN (PreH Cb Cw) (PostH Cb Cw))) : Cal P wd K mg base "book_after" 3 ["web", "told"] (spD (RBook Cb Cw)) := by
  refine cal_pure F.F sc57 F.g (F.F.binds fun _ _ _ _ _ _ us hl => match us, hl with | [_, _], _ => rfl) (fun ds d ⟨_, _, _, e, _⟩ => by rw [e]; rfl) ?_
  rintro cdv A outer s H Er fm ds d ⟨h, ts, ss, rfl, ow, hl, hok, rfl⟩ M0 H0 σ D c q
  have hda := deedsOf_len (ss := ss)
  refine b_cons (k_setX (Pq := fun d o => ∃ g : BG, d = .ref g.b ∧ g.h = h ∧ g.ts = ts ∧ g.acts = (deedsOf ss).length ∧ o = g.own Cb Cw ∧ g.bk = bk0 h ts.length (deedsOf ss).length) fm 2 c (x_makeN fm BK.kl CI (a_cons (w_nm 0 (fun _ => rfl) rfl) (a_cons (w_len fm B (EN.e (n_lc fm [("one", 3)] (blkOk_by (sc := defScope s57) (by decide +kernel)) (fun _ => rfl) isDo (fun d => d) (f1 3) (i_sq fm (w_nm 1 (fun _ => rfl) rfl) qT) (by rw [List.length_map]; omega) (fun i d h => (cw_name (Fam.blk fm) 3 (fun _ => rfl) (by decide))) (fun i d h => ?_) (fun i d h hq => (w_nm 3 (fun _ => rfl) rfl)))) qL) a_nil)).x ?_) (fun _ => rfl) ?_)
  · obtain ⟨s, hs, rfl⟩ := stT_get h
    obtain ⟨x, hx, ex⟩ := st_first s
    refine et_eq (ts_one (t_cmp (w_ix (Fam.blk fm) (w_nm 3 (fun _ => rfl) rfl) w_int qT hx) (w_gs (Fam.blk fm) G.DO) cm_eqS)) ?_
    rw [ex, isDo_st]
  · rintro _ _ ⟨rfl, rfl⟩ x
    rw [keep_do_len]
    refine ⟨⟨x, h, ts, (deedsOf ss).length⟩, ⟨rfl, rfl, ow, by show (deedsOf ss).length ≤ 400; omega⟩, ?_⟩
    rintro d o' ⟨rfl, g, e1, e2, e3, e4, rfl, e5⟩
    exact ⟨rfl, g, by rw [e3], e1, e2, e4, List.append_nil _, e5⟩
  rintro d o σ M H ⟨g0, rfl, e1, e2, e3, rfl, e4⟩ c
  refine b_cons (k_forB fm (G := BG) (fun i x => x.b = g0.b ∧ x.h = h ∧ x.ts = ts ∧ x.acts = (deedsOf ss).length ∧ x.bk = bookAt h ts (deedsOf ss).length (ss.take i)) (fun x => x.own Cb Cw) (fun _ => [some (webD Cw h ts), some (.tup (ss.map stT)), some (.ref g0.b), none]) g0 (f1 3) c (i_sq fm (w_nm 1 (fun _ => rfl) rfl) qT) ⟨rfl, e1, e2, e3, e4⟩ rfl (fun _ _ _ σ M H c => c) (fun i d h => (g_name fm 3 (fun _ => rfl))) (fun M1 H1 lf i d x σ M H hi hP c D1 e1 e2 kn => ?_) (fun x σ M H hP c => ?_) (fun _ => passes_of rfl))
  · obtain ⟨st, hst, rfl⟩ := stT_get hi
    obtain ⟨p1, p2, p3, p5, p4⟩ := hP
    have tk : ss.take (i + 1) = ss.take i ++ [st] := by rw [List.take_add_one, hst]; rfl
    have hda2 : (deedsOf (ss.take i)).length + (deedsOf [st]).length ≤ (deedsOf ss).length := by
      have : (deedsOf (ss.take (i + 1) ++ ss.drop (i + 1))).length = (deedsOf ss).length := by rw [List.take_append_drop]
      rw [deedsOf_append, tk, deedsOf_append, List.length_append, List.length_append] at this
      omega
    have hb := book_ok (acts := (deedsOf ss).length) ow (ss.take i) (by omega) fun s hs => hok s (List.mem_of_mem_take hs)
    have hst' := hok st (List.mem_of_getElem? hst)
    have hf : fits h ts (deedsOf ss).length (bookAt h ts (deedsOf ss).length (ss.take i)) st := by
      cases st with
      | act v k =>
        have o : (decide (v < h) && decide (k < 8)) = true := hst'
        rw [Bool.and_eq_true, decide_eq_true_eq, decide_eq_true_eq] at o
        refine ⟨o.1, ?_⟩
        rw [acted_at]
        have : (deedsOf [Stp.act v k]).length = 1 := rfl
        omega
      | meet j =>
        have o : decide (j < ts.length) = true := hst'
        show j < ts.length
        exact of_decide_eq_true o
    have hx : (x.own Cb Cw)[0]? = some (g0.b, .ins Cb (bookF Cw x.h x.ts x.acted (.ref x.hl) (.ref x.tl))) := by rw [← p1]; rfl
    refine b_one (k_drop c (x_methN fm (o1 := x.own Cb Cw) (o2 := []) (Pq := fun d o => ∃ g : BG, g.b = g0.b ∧ g.h = h ∧ g.ts = ts ∧ g.acts = (deedsOf ss).length ∧ o = g.own Cb Cw ∧ g.bk = bookAt h ts (deedsOf ss).length (ss.take (i + 1))) BK.kl.cl CH (w_nm 2 (fun _ => rfl) rfl) hx rfl (a_cons (w_nm 3 (fun _ => rfl) rfl) a_nil) (by rw [List.append_nil]) ⟨x, st⟩ ⟨by rw [← p1]; rfl, rfl, by rw [p2, p3]; exact ow, by rw [p2, p3, p5, p4]; exact hb, by rw [p2, p3, p5, p4]; exact hf, by rw [p5]; omega⟩ ?_) ?_)
    · rintro d o' ⟨rfl, g, e1, e2, e3, e4, rfl, e5⟩
      refine ⟨g, e3.trans p1, e1.trans p2, e2.trans p3, e4.trans p5, List.append_nil _, ?_⟩
      rw [e5, tk, bookAt_snoc]
      show hearB x.ts x.bk st = _
      rw [p3, p4]
    · rintro d o M H ⟨g, e1, e2, e3, e4, rfl, e5⟩ c
      exact kn g _ _ _ ⟨e1, e2, e3, e4, e5⟩ (c.forget 3)
  · obtain ⟨p1, p2, p3, p5, p4⟩ := hP
    obtain ⟨M', c, s, dv⟩ := BG.freeze c
    rw [p1, p2, p3, p4, List.length_map, List.take_length] at dv
    have c := c.again (i := 2) (d := .ref g0.b) (d' := bookD Cb Cw h ts (bookOf h ts ss)) rfl fun v r => by rw [r.raw_eq]; exact dv
    exact b_one (k_ret c (w_nm 2 (fun _ => rfl) rfl) fun v M H c r => q v _ _ M H c r)
end
end Hb
/-! Df10: counts, what is heard, the plain state. -/
namespace Hb
open PySem L2 Mc Ly
section
variable {P : Program} {wd : World} {K : PySem.W.Frag} {mg : Str → Option Value} {base : Heap} (B : Blt mg) (G : Gc mg) {Cm Cw Cn Cb : Addr} (T : MK K mg Cm) (W : WK K mg Cw) (BK : BK K mg Cb)
def cD (s : Bk) : D := .tup [.tup (tT s.hs), .tup (tT s.tz)]
def hD (s : Bk) : D := .tup [.tup (tT (s.hs.map counted)), .tup (tT (s.tz.map counted))]
abbrev RBk (Cw : Addr) (g : Bk → D) : List D → D → Prop := fun ds d => ∃ (h : Nat) (ts : List Tie) (y : D) (ss : List Stp), ds = [webD Cw h ts, y] ∧ WOk h ts ∧ StA Cw h ts y ss ∧ d = g (bookOf h ts ss)
def l2t (d : D) : D := match d with
  | .lst r => .tup r
  | x => x
theorem l2t_tL {l : List (List Nat)} : (tL l).map l2t = tT l := by unfold tL tT; rw [List.map_map]; rfl
theorem bookOf_ok {h : Nat} {ts : List Tie} {y : D} {ss : List Stp} (ow : WOk h ts) (sa : StA Cw h ts y ss) : BkOk h ts (deedsOf ss).length (bookOf h ts ss) := book_ok ow ss (Nat.le_refl _) sa.ok
abbrev s58 : Stmt := top 58
theorem sc58 : FnScope ["web", "steps", "book", "row"] ["web", "steps"] (defScope s58) := ⟨rfl, rfl, rfl, by decide +kernel, rfl, by decide +kernel, by decide +kernel⟩
include B BK in
theorem ok58 {f : Addr} {fd : FuncData} (F : Df K mg "counts_after" s58 f fd) (C54 : Cal P wd K mg base "web_steps" 6 ["web", "value"] (spD (RWs Cw fun ss => .tup (ss.map stT)))) (C57 : Cal P wd K mg base "book_after" 3 ["web", "told"] (spD (RBook Cb Cw))) : CalX P wd K mg base "counts_after" 7 ["web", "steps"] (spD (RBk Cw cD)) f fd := by
  refine cal_pureX F.F sc58 F.g (F.F.binds fun _ _ _ _ _ _ us hl => match us, hl with | [_, _], _ => rfl) (fun ds d ⟨_, _, _, _, e, _⟩ => by rw [e]; rfl) ?_
  rintro cdv A outer s H Er fm ds d ⟨h, ts, y, ss, rfl, ow, sa, rfl⟩ M0 H0 σ D c q
  have hl := sa.len
  have bo := bookOf_ok ow sa
  have k2 := ow.h12
  have k3 := ow.t20
  refine b_cons (k_set fm 2 c (w_call fm C57 (a_cons (w_nm 0 (fun _ => rfl) rfl) (a_cons (w_call fm C54 (a_cons (w_nm 0 (fun _ => rfl) rfl) (a_cons (w_nm 1 (fun _ => rfl) rfl) a_nil)) ⟨h, ts, y, ss, rfl, sa, rfl⟩) a_nil)) ⟨h, ts, ss, rfl, ow, hl, sa.ok, rfl⟩) (fun _ => rfl) fun σ M H c => ?_)
  refine b_one (k_ret c (E.eq (w_tup (a_cons (w_tuple fm B (EN.e (n_lc fm [("row", 3)] (blkOk_by (sc := defScope s58) (by decide +kernel)) (fun _ => rfl) (fun _ => true) l2t (f1 3) (i_sq fm (w_fld fm (w_nm 2 (fun _ => rfl) rfl) BK.kl.cl BK.houses rfl) qL) (by unfold tL; rw [List.length_map, bo.hl]; omega) (fun i d h => (cw_name (Fam.blk fm) 3 (fun _ => rfl) (by decide))) (fun i d h => ts_nil) (fun i d h hq => ?_))) qL)
    (a_cons (w_tuple fm B (EN.e (n_lc fm [("row", 3)] (blkOk_by (sc := defScope s58) (by decide +kernel)) (fun _ => rfl) (fun _ => true) l2t (f1 3) (i_sq fm (w_fld fm (w_nm 2 (fun _ => rfl) rfl) BK.kl.cl BK.ties rfl) qL) (by unfold tL; rw [List.length_map, bo.tl]; omega) (fun i d h => (cw_name (Fam.blk fm) 3 (fun _ => rfl) (by decide))) (fun i d h => ts_nil) (fun i d h hq => ?_))) qL) a_nil)) (show 2 ≤ 100000 by decide)) ?_) fun v M H c r => q v _ _ M H c r)
  · obtain ⟨r, hr, rfl⟩ := tL_get h
    exact w_tuple (Fam.blk fm) B (w_nm 3 (fun _ => rfl) rfl) qL
  · obtain ⟨r, hr, rfl⟩ := tL_get h
    exact w_tuple (Fam.blk fm) B (w_nm 3 (fun _ => rfl) rfl) qL
  · rw [keep_all, keep_all, l2t_tL, l2t_tL]
    rfl
abbrev s60 : Stmt := top 60
theorem sc60 : FnScope ["web", "steps", "houses", "ties", "row"] ["web", "steps"] (defScope s60) := ⟨rfl, rfl, rfl, by decide +kernel, rfl, by decide +kernel, by decide +kernel⟩
def ctD (d : D) : D := match d with
  | .tup r => .tup ((List.range r.length).filter (fun i => match r.getD i .non with | .raw (.int k) => decide (0 < k) | _ => false) |>.map fun i => .int (i : Nat))
  | x => x
theorem ctD_row (r : List Nat) : ctD (.tup (nD r)) = .tup (nD (counted r)) := by
  show D.tup _ = D.tup _
  unfold nD counted
  rw [List.length_map]
  congr 1
  congr 1
  refine List.filter_congr fun i hi => ?_
  have hi := List.mem_range.mp hi
  have e : (r.map fun n : Nat => D.int (n : Int)).getD i .non = .int ((r.getD i 0 : Nat) : Int) := by simp [List.getD, hi]
  rw [e]
  refine decide_eq_decide.mpr (by omega)
theorem ctD_tT {l : List (List Nat)} : (tT l).map ctD = tT (l.map counted) := by
  unfold tT
  rw [List.map_map]; rw [List.map_map]
  exact List.map_congr_left fun r _ => ctD_row r
include B in
theorem ok60 {f : Addr} {fd : FuncData} (F : Df K mg "heard_after" s60 f fd) (C58 : Cal P wd K mg base "counts_after" 7 ["web", "steps"] (spD (RBk Cw cD))) (C59 : Cal P wd K mg base "counted_acts" 1 ["row"] (spD RCtd)) : CalX P wd K mg base "heard_after" 8 ["web", "steps"] (spD (RBk Cw hD)) f fd := by
  refine cal_pureX F.F sc60 F.g (F.F.binds fun _ _ _ _ _ _ us hl => match us, hl with | [_, _], _ => rfl) (fun ds d ⟨_, _, _, _, e, _⟩ => by rw [e]; rfl) ?_
  rintro cdv A outer s H Er fm ds d ⟨h, ts, y, ss, rfl, ow, sa, rfl⟩ M0 H0 σ D c q
  have hl := sa.len
  have bo := bookOf_ok ow sa
  have k2 := ow.h12
  have k3 := ow.t20
  have hda := deedsOf_len (ss := ss)
  refine b_cons (k_asg c (w_call fm C58 (a_cons (w_nm 0 (fun _ => rfl) rfl) (a_cons (w_nm 1 (fun _ => rfl) rfl) a_nil)) ⟨h, ts, y, ss, rfl, ow, sa, rfl⟩) (g_tup fm (g_cons fm 2 (fun _ => rfl) (g_cons fm 3 (fun _ => rfl) g_nil))) fun σ M H c => ?_)
  refine b_one (k_ret c (E.eq (w_tup (a_cons (w_tuple fm B (EN.e (n_lc fm [("row", 4)] (blkOk_by (sc := defScope s60) (by decide +kernel)) (fun _ => rfl) (fun _ => true) ctD (f1 4) (i_sq fm (w_nm 2 (fun _ => rfl) rfl) qT) (by unfold tT; rw [List.length_map, bo.hl]; omega) (fun i d h => (cw_name (Fam.blk fm) 4 (fun _ => rfl) (by decide))) (fun i d h => ts_nil) (fun i d h hq => ?_))) qL)
    (a_cons (w_tuple fm B (EN.e (n_lc fm [("row", 4)] (blkOk_by (sc := defScope s60) (by decide +kernel)) (fun _ => rfl) (fun _ => true) ctD (f1 4) (i_sq fm (w_nm 3 (fun _ => rfl) rfl) qT) (by unfold tT; rw [List.length_map, bo.tl]; omega) (fun i d h => (cw_name (Fam.blk fm) 4 (fun _ => rfl) (by decide))) (fun i d h => ts_nil) (fun i d h hq => ?_))) qL) a_nil)) (show 2 ≤ 100000 by decide)) ?_) fun v M H c r => q v _ _ M H c r)
  · obtain ⟨r, hr, rfl⟩ := tT_get h
    have := bo.hr r (List.mem_of_getElem? hr)
    exact E.eq (w_call (Fam.blk fm) C59 (a_cons (w_nm 4 (fun _ => rfl) rfl) a_nil) ⟨r, rfl, by omega, rfl⟩) (ctD_row r).symm
  · obtain ⟨r, hr, rfl⟩ := tT_get h
    have := bo.tr r (List.mem_of_getElem? hr)
    exact E.eq (w_call (Fam.blk fm) C59 (a_cons (w_nm 4 (fun _ => rfl) rfl) a_nil) ⟨r, rfl, by omega, rfl⟩) (ctD_row r).symm
  · rw [keep_all, keep_all, ctD_tT, ctD_tT]
    rfl
/-- the deeds of the acts that a house heard, in their order -/
def plainRow (ss : List Stp) (row : List Nat) : List Nat := (counted row).map fun a => (deedsOf ss).getD a 0
abbrev RPlain (Cm Cw : Addr) : List D → D → Prop := fun ds d => ∃ (t : List (List Nat)) (n h : Nat) (ts : List Tie) (first : Nat) (y : D) (ys : List D) (ss : List Stp) (v : Nat), ds = [machD Cm t n, webD Cw h ts, .int (first : Int), y, .int (v : Int)] ∧ MOk t n ∧ first < n ∧ WOk h ts ∧ SqD y ys ∧ Sts ys ss ∧ ss.length ≤ 400 ∧ (∀ s ∈ ss, sok h ts.length t.length s = true) ∧ v < h ∧
  d = .int (run t first (plainRow ss ((bookOf h ts ss).hs.getD v [])) : Nat)
abbrev s63 : Stmt := top 63
theorem sc63 : FnScope ["machine", "web", "first", "steps", "house", "deeds", "act"] ["machine", "web", "first", "steps", "house"] (defScope s63) := ⟨rfl, rfl, rfl, by decide +kernel, rfl, by decide +kernel, by decide +kernel⟩
theorem sok_mono {h m k k' : Nat} (hk : k ≤ k') {s : Stp} (o : sok h m k s = true) : sok h m k' s = true := by
  cases s with
  | act v d =>
    have o : (decide (v < h) && decide (d < k)) = true := o
    show (decide (v < h) && decide (d < k')) = true
    rw [Bool.and_eq_true, decide_eq_true_eq, decide_eq_true_eq] at o ⊢
    exact ⟨o.1, by omega⟩
  | meet i => exact o
theorem deeds_lt {h m k : Nat} {ss : List Stp} (hok : ∀ s ∈ ss, sok h m k s = true) : ∀ d ∈ deedsOf ss, d < k := by
  intro d hd
  unfold deedsOf at hd
  obtain ⟨s, hs, e⟩ := List.mem_filterMap.mp hd
  have o := hok s hs
  cases s with
  | act v x =>
    have e : x = d := by simpa using e
    subst e
    have o : (decide (v < h) && decide (x < k)) = true := o
    rw [Bool.and_eq_true, decide_eq_true_eq, decide_eq_true_eq] at o
    exact o.2
  | meet i => cases e
theorem counted_lt {row : List Nat} {a : Nat} (h : a ∈ counted row) : a < row.length := by
  unfold counted at h
  exact List.mem_range.mp (List.mem_filter.mp h).1
def actD (ss : List Stp) (d : D) : D := match d with
  | .raw (.int k) => .int ((deedsOf ss).getD k.toNat 0 : Nat)
  | x => x
include B T W in
theorem ok63 {f : Addr} {fd : FuncData} (F : Df K mg "plain_state" s63 f fd) (C29 : Cal P wd K mg base "need_state" 4 ["machine", "state"] (spD (RNeed Cm))) (C48 : Cal P wd K mg base "looked_steps" 5 ["web", "deeds", "value"] (spD (RLook Cw))) (C41 : Cal P wd K mg base "need_house" 4 ["web", "house"] (spD (RNeedH Cw)))
    (C55 : Cal P wd K mg base "act_deeds" 7 ["web", "steps"] (spD (RWs Cw fun ss => .tup (nD (deedsOf ss))))) (C32 : Cal P wd K mg base "run_on" 1 ["tables", "state", "row"] (spD RRun)) (C60 : Cal P wd K mg base "heard_after" 8 ["web", "steps"] (spD (RBk Cw hD))) : CalX P wd K mg base "plain_state" 9 ["machine", "web", "first", "steps", "house"] (spD (RPlain Cm Cw)) f fd := by
  refine cal_pureX F.F sc63 F.g (F.F.binds fun _ _ _ _ _ _ us hl => match us, hl with | [_, _, _, _, _], _ => rfl) (fun ds d ⟨_, _, _, _, _, _, _, _, _, e, _⟩ => by rw [e]; rfl) ?_
  rintro cdv A outer s H Er fm ds d ⟨t, n, h, ts, first, y, ys, ss, v, rfl, om, of, ow, sq, sts, hl, hok, hv, rfl⟩ M0 H0 σ D c q
  have sa : StA Cw h ts y ss := ⟨⟨ys, sq, sts⟩, hl, fun s hs => sok_mono om.d8 (hok s hs)⟩
  have bo := bookOf_ok ow sa
  have hda := deedsOf_len (ss := ss)
  have hv' : v < (bookOf h ts ss).hs.length := by rw [bo.hl]; exact hv
  have hr := bo.hr _ (getD_mem (d := []) hv')
  refine b_cons (k_drop c (w_call fm C29 (a_cons (w_nm 0 (fun _ => rfl) rfl) (a_cons (w_nm 2 (fun _ => rfl) rfl) a_nil)) ⟨t, n, first, rfl, of, rfl⟩).x ?_)
  rintro _ _ M H ⟨rfl, rfl⟩ c
  refine b_cons (k_drop c (w_call fm C48 (a_cons (w_nm 1 (fun _ => rfl) rfl) (a_cons (w_fld fm (w_nm 0 (fun _ => rfl) rfl) T.kl.cl T.deeds rfl) (a_cons (w_nm 3 (fun _ => rfl) rfl) a_nil))) ⟨h, ts, t.length, y, ys, ss, rfl, sq, sts, hl, hok, rfl⟩).x ?_)
  rintro _ _ M H ⟨rfl, rfl⟩ c
  refine b_cons (k_drop c (w_call fm C41 (a_cons (w_nm 1 (fun _ => rfl) rfl) (a_cons (w_nm 4 (fun _ => rfl) rfl) a_nil)) ⟨h, ts, v, rfl, hv, rfl⟩).x ?_)
  rintro _ _ M H ⟨rfl, rfl⟩ c
  refine b_cons (k_set fm 5 c (w_call fm C55 (a_cons (w_nm 1 (fun _ => rfl) rfl) (a_cons (w_nm 3 (fun _ => rfl) rfl) a_nil)) ⟨h, ts, y, ss, rfl, sa, rfl⟩) (fun _ => rfl) fun σ M H c => ?_)
  have hrow : (tT ((bookOf h ts ss).hs.map counted))[v]? = some (.tup (nD (counted ((bookOf h ts ss).hs.getD v [])))) := by
    unfold tT
    rw [List.map_map, List.getElem?_map, getD_at (d := []) hv']
    rfl
  have hcl : (counted ((bookOf h ts ss).hs.getD v [])).length ≤ 400 := by
    have : (counted ((bookOf h ts ss).hs.getD v [])).length ≤ ((bookOf h ts ss).hs.getD v []).length := by
      unfold counted
      exact Nat.le_trans (List.length_filter_le _ _) (by rw [List.length_range]; exact Nat.le_refl _)
    omega
  have ek : keep (nD (counted ((bookOf h ts ss).hs.getD v []))) (fun _ => true) (actD ss) = nD (plainRow ss ((bookOf h ts ss).hs.getD v [])) := by
    rw [keep_all]
    unfold nD plainRow
    rw [List.map_map]; rw [List.map_map]
    rfl
  refine b_one (k_ret c (w_call fm C32 (a_cons (w_fld fm (w_nm 0 (fun _ => rfl) rfl) T.kl.cl T.tables rfl) (a_cons (w_nm 2 (fun _ => rfl) rfl) (a_cons (EN.e (EN.to (n_lc fm [("act", 6)] (blkOk_by (sc := defScope s63) (by decide +kernel)) (fun _ => rfl) (fun _ => true) (actD ss) (f1 6) (i_sq fm (w_ix fm (w_ix fm (w_call fm C60 (a_cons (w_nm 1 (fun _ => rfl) rfl) (a_cons (w_nm 3 (fun _ => rfl) rfl) a_nil)) ⟨h, ts, y, ss, rfl, ow, sa, rfl⟩) w_int qT rfl) (w_nm 4 (fun _ => rfl) rfl) qT (atI_of v hrow)) qT) (by rw [nD_len]; omega) (fun i d h => (cw_name (Fam.blk fm) 6 (fun _ => rfl) (by decide))) (fun i d h => ts_nil) (fun i d h hq => ?_)) ek)) a_nil))) ⟨t, n, first, _, _, rfl, qL, om, of, ?_, rfl⟩) fun v M H c r => q v _ _ M H c r)
  · obtain ⟨a, ha, rfl⟩ := nD_get h
    have hlt := counted_lt (List.mem_of_getElem? ha)
    exact w_ix (Fam.blk fm) (w_nm 5 (fun _ => rfl) rfl) (w_nm 6 (fun _ => rfl) rfl) qT (atI_of a (nD_at (by omega)))
  · intro x hx
    unfold plainRow at hx
    obtain ⟨a, ha, rfl⟩ := List.mem_map.mp hx
    have hlt := counted_lt ha
    exact deeds_lt hok _ (getD_mem (by omega))
end
end Hb
section
set_option maxRecDepth 999999
/-! Ex1: own exceptions over KeyError or ValueError whose __init__ calls super's and stores one field: made. -/
namespace Exm
open PySem PySem.W PySem.Calls PyProof.Rows PySem.HandSPX
open Builtin
open Builtin.ObjectAttr
/-- a built-in class of exceptions: B, and NB whose __new__ makes its instances -/
structure XB (B NB newId initId : String) (tail : List Value) : Prop where
  new : ∃ i m, ExcBaseFacts NB newId i m
  hasN : tail.contains (.type NB) = true
  noA : tail.contains (.type "AttributeError") = false
  noNm : tail.contains (.type "NameError") = false
  hasO : tail.contains (.type "object") = true
  pass : ∀ self, refuseLoop self "__setattr__" tail = pure ()
  plain : plainId initId = true
  entry : entryFor table initId = some Builtin.«BaseException.__init__»
  kind : builtinKind initId = some .slot
  row : Manifest.signature? initId = some ⟨.positional, "*", B, .self, [⟨"args", .varPos, false⟩]⟩
  noStar : (B != "*") = true
  kx : KxsFacts B initId
theorem kxs_KeyError : KxsFacts "KeyError" "KeyError.__init__" := ⟨by show builtinType _ = _; rw [builtinType_eq_fast]; kernel_rfl, by first | kernel_rfl | rfl⟩
theorem xbK : XB "KeyError" "LookupError" "LookupError.__new__" "KeyError.__init__" keTail where
  new := ⟨_, _, PySem.F.excBase_LookupError⟩
  hasN := by decide +kernel
  noA := by decide +kernel
  noNm := by decide +kernel
  hasO := by decide +kernel
  pass := fun self => by kernel_rfl
  plain := PyProof.Rows.excClass_KeyError.init.plain
  entry := PyProof.Rows.excClass_KeyError.initEntry
  kind := PyProof.Rows.excClass_KeyError.initKind
  row := PyProof.Rows.excClass_KeyError.initSig
  noStar := PyProof.Rows.excClass_KeyError.notStar
  kx := kxs_KeyError
theorem xbV : XB "ValueError" "ValueError" "ValueError.__new__" "ValueError.__init__" veTail where
  new := ⟨_, _, PySem.F.excBase_ValueError⟩
  hasN := by decide +kernel
  noA := by decide +kernel
  noNm := by decide +kernel
  hasO := by decide +kernel
  pass := fun self => PySem.F.store_ValueError.passes self
  plain := PySem.F.excBase_ValueError.init.plain
  entry := PySem.F.excBase_ValueError.initEntry
  kind := PySem.F.excBase_ValueError.initKind
  row := PySem.F.excBase_ValueError.initRow
  noStar := PySem.F.excBase_ValueError.noStar
  kx := kxs_ValueError
section
variable {tail : List Value}
theorem refsX_cases : ∀ l : List Value, refsX tail l = true → (∃ c r, l = .ref c :: r ∧ refsX tail r = true) ∨ l = tail
  | [], e => .inr (beq_iff_eq.mp e) | .ref c :: r, e => .inl ⟨c, r, rfl, e⟩
  | .none :: _, e => .inr (beq_iff_eq.mp e) | .ellipsis :: _, e => .inr (beq_iff_eq.mp e)
  | .notImplemented :: _, e => .inr (beq_iff_eq.mp e) | .bool _ :: _, e => .inr (beq_iff_eq.mp e)
  | .int _ _ :: _, e => .inr (beq_iff_eq.mp e) | .float _ _ :: _, e => .inr (beq_iff_eq.mp e)
  | .str _ _ :: _, e => .inr (beq_iff_eq.mp e) | .bytes _ _ :: _, e => .inr (beq_iff_eq.mp e)
  | .type _ :: _, e => .inr (beq_iff_eq.mp e) | .builtin _ :: _, e => .inr (beq_iff_eq.mp e)
theorem refsX_has (X : String) : ∀ l : List Value, refsX tail l = true → l.contains (.type X) = tail.contains (.type X) := by
  intro l
  induction l with
  | nil => intro e; rw [← beq_iff_eq.mp (show (([] : List Value) == tail) = true from e)]
  | cons a r ih =>
    intro e
    rcases refsX_cases (a :: r) e with ⟨c, r', q, h⟩ | q
    · rcases List.cons.inj q with ⟨rfl, rfl⟩
      rw [List.contains_cons]; rw [ih h]; rfl
    · rw [q]
theorem refsX_pass (self : Value) (hp : refuseLoop self "__setattr__" tail = pure ()) : ∀ l : List Value, refsX tail l = true → refuseLoop self "__setattr__" l = pure () := by
  intro l
  induction l with
  | nil => intro e; rw [beq_iff_eq.mp (show (([] : List Value) == tail) = true from e)]; exact hp
  | cons a r ih =>
    intro e
    rcases refsX_cases (a :: r) e with ⟨c, r', q, h⟩ | q
    · rcases List.cons.inj q with ⟨rfl, rfl⟩
      rw [refuseLoop_ref]
      exact ih h
    · rw [q]; exact hp
end
section
variable {M : Model} {A : Around} {E : Value → Shared → Prop} {h : Heap} {g : Array GenState} {d : Drawn} {t : Nat} {oys : OsState}
variable {nm q : Str} {C N : Addr} {bs bm bmB : List Value} {hdct : Bool} {sn : List Str} {sub : List Value} {ab : Bool} {col : Option Bool} {dd : Option Addr} {k0 k1 k2 k3 k5 : Option Value} {B NB newId initId i : String} {tail : List Value}
theorem check_new_x (F : ExcBaseFacts NB newId i bmB) (hT : bm.contains (.type NB) = true) {rest : List Value} {Q : Unit → Shared → Prop}
    (hyC : h.get? C = some (excClassObj nm q C N bs bm hdct sn sub ab col dd k0 k1 k2 k3 k5 newId)) (hyq : Q () ⟨h, g, d, t, oys⟩) : wpAny M A (checkBuiltinCall newId ⟨.ref C :: rest, []⟩) Q E ⟨h, g, d, t, oys⟩ := by
  have hcont : (Value.ref C :: bm).contains (.type NB) = true := by rw [List.contains_cons, hT, Bool.or_true]
  have hstar := F.noStar
  simp only [checkBuiltinCall, F.newKind, F.newSplit, F.newRow]; repeat (first | refine wpAny_loadPart_at hyC ?_ | (refine wpAny_isSubtype_exc hyC ?_; rw [hcont]) | refine wpAny_staticBase_exc hyC ?_ | refine wpAny_madeBy_exc hyC ?_ | simp only [bne_self_eq_false, Bool.false_eq_true, if_false] | wp_step)
  exact hyq
theorem check_bound_x (X : XB B NB newId initId tail) {e : Addr} {oe : Obj} {rest : List Value} {Q : Unit → Shared → Prop}
    (hyC : h.get? C = some (excClassObj nm q C N bs bm hdct sn sub ab col dd k0 k1 k2 k3 k5 newId)) (hye : h.get? e = some oe) (hycls : oe.cls = .ref C) (hyq : Q () ⟨h, g, d, t, oys⟩) : wpAny M A (checkBoundCall initId ⟨.ref e :: rest, []⟩) Q E ⟨h, g, d, t, oys⟩ := by
  have hshort := X.noStar
  simp only [checkBoundCall, X.kind, X.row]
  repeat (first | (with_reducible refine wpAny_loadPart_at hye ?_; rw [hycls]) | with_reducible refine wpAny_loadPart_at hyC ?_ | wp_step)
  refine wpAny_onRaise ?_
  rw [show ∀ (a b : String) (n : Nat), Bind.check ⟨.positional, "*", B, .self, [⟨"args", .varPos, false⟩]⟩ a b n (List.map (fun x => x.fst) ({ pos := Value.ref e :: rest } : Args).kw) = pure () from fun a b n => check_star_args _ _ _ _ _ _]
  exact wpAny_pure hyq
end
section
variable {prog : Program} {w : World} {A : Around} {E : Value → Shared → Prop} {R : Result → Shared → Prop} {h : Heap} {g : Array GenState} {d : Drawn} {t : Nat} {oys : OsState}
variable {nm q : Str} {C N : Addr} {bs bm bmB : List Value} {hdct : Bool} {sn : List Str} {sub : List Value} {ab : Bool} {col : Option Bool} {dd : Option Addr} {k0 k1 k2 k3 k5 : Option Value} {B NB newId initId i : String} {tail : List Value}
theorem new_x (F : ExcBaseFacts NB newId i bmB) (hT : bm.contains (.type NB) = true) (hA : bm.contains (.type "AttributeError") = false) (hN : bm.contains (.type "NameError") = false) {rest : List Value}
    (hyC : h.get? C = some (excClassObj nm q C N bs bm hdct sn sub ab col dd k0 k1 k2 k3 k5 newId))
    (hyq : R (.ok (.ret (.ref (h.objs.size + 1)))) ⟨(h.push { cls := .type "tuple", data := .seq rest.toArray }).push
      { cls := .ref C, data := .fields #[.ref h.objs.size, .none, .none, .none, .bool false, .none] }, g, d, t, oys⟩) (hyrest : rest.length ≤ sizeLine) :
    codeAny (model prog w) A (.builtin newId ⟨.ref C :: rest, []⟩) R ⟨h, g, d, t, oys⟩ := by
  have hends := F.ends
  have hcB : (Value.ref C :: bm).contains (.type NB) = true := by rw [List.contains_cons, hT, Bool.or_true]
  have hcA : (Value.ref C :: bm).contains (.type "AttributeError") = false := by rw [List.contains_cons, hA]; rfl
  have hcN : (Value.ref C :: bm).contains (.type "NameError") = false := by rw [List.contains_cons, hN]; rfl
  refine codeAny_builtinAt F.entry ?_; unfold Builtin.«BaseException.__new__»
  refine PySem.wpAt_bind ?_
  show PySem.wpAt _ _ _ (stack >>= _) _ _ _
  refine PySem.wpAt_bind (PySem.wpAt_stack fun p below => PySem.wpAt_of_wpAny ?_)
  wp_walk
  refine PySem.wpAt_of_wpAny ?_
  rw [F.owner]
  repeat (first | with_reducible refine wpAny_madeHere_exc F.canon hyC ?_ | with_reducible refine wpAny_loadPart_at hyC ?_ | (with_reducible refine wpAny_isSubtype_exc hyC ?_; first | rw [hcB] | rw [hcA] | rw [hcN]) | wp_step)
  show R _ _
  rw [Heap.size_push]
  exact hyq
theorem type_call_x (X : XB B NB newId initId tail) (hm : refsX tail bm = true) {rest : List Value} {fI : Addr} {Q : Fin → Shared → Prop}
    (hyC : h.get? C = some (excClassObj nm q C N bs bm hdct sn sub ab col dd k0 k1 k2 k3 k5 newId))
    (hyi : W.Looks (model prog w) h (typeLookup (.ref C) "__init__") (some (.ref fI))) (hyb : ∀ self, W.Looks (model prog w) h (bindSpecial (.ref fI) self) (.ref fI, [self])) (hyrest : rest.length ≤ sizeLine)
    (hyq : codeAny (model prog w) A (.call (.ref fI) ⟨.ref (h.objs.size + 1) :: rest, []⟩)
      (fun rr s' => match rr with | .ok (.ret v) => v = .none ∧ Q (.done (.ret (.ref (h.objs.size + 1)))) s' | .ok _ => False | .error e => E e s')
      ⟨(h.push (W.kdv_tup rest)).push (excO C h.objs.size), g, d, t, oys⟩) :
    wpAny (model prog w) A (Builtin.«type.__call__» ⟨.ref C :: rest, []⟩) Q E ⟨h, g, d, t, oys⟩ := by
  obtain ⟨iN, mN, F⟩ := X.new
  have hT : bm.contains (.type NB) = true := (refsX_has NB bm hm).trans X.hasN
  repeat (first | with_reducible refine wpAny_loadPart_at hyC ?_ | with_reducible refine wpAny_madeBy_exc hyC ?_ | wp_step)
  refine codeAny_call_builtin_code (Code.quiet_builtin _ F.quiet) (check_new_x F hT hyC ?_)
  refine new_x F hT ((refsX_has _ bm hm).trans X.noA) ((refsX_has _ bm hm).trans X.noNm) hyC ?_ hyrest
  show wpAny _ _ _ _ _ _
  have k : ∀ b o, h.get? b = some o → ((h.push (W.kdv_tup rest)).push (excO C h.objs.size)).get? b = some o := fun b o e => Heap.get?_push_of_some _ (Heap.get?_push_of_some _ e); have hC₁ := k _ _ hyC
  have hyget : ((h.push (W.kdv_tup rest)).push (excO C h.objs.size)).get? (h.objs.size + 1) = some (excO C h.objs.size) := by heap_get
  have hycC : (Value.ref C :: bm).contains (.ref C) = true := by simp
  have i1 := hyi.keeps k
  have by1 := (hyb (.ref (h.objs.size + 1))).keeps k
  unfold isInstance
  repeat (first | with_reducible refine wpAny_loadPart_at hyget ?_ | (with_reducible refine wpAny_isSubtype_exc hC₁ ?_; rw [hycC]) | wp_step)
  show wpAny _ _ (typeLookup (.ref C) _) _ _ _; refine i1.at ?_
  refine wpAny_holding (wpAny_bind (by1.at ?_))
  refine wpAny_bind (wpAny_call (codeAny_mono hyq fun r s' z => ?_))
  rcases r with e | (v | _ | _ | _) <;> first | exact z | exact z.elim | skip; obtain ⟨rfl, z⟩ := z
  first
    | refine wpAny_pure (wpAny_pure z)
    | (wp_walk; exact z)
theorem call_x (X : XB B NB newId initId tail) (hm : refsX tail bm = true) {rest : List Value} {fI : Addr}
    (hyC : h.get? C = some (excClassObj nm q C N bs bm hdct sn sub ab col dd k0 k1 k2 k3 k5 newId))
    (hyi : W.Looks (model prog w) h (typeLookup (.ref C) "__init__") (some (.ref fI))) (hyb : ∀ self, W.Looks (model prog w) h (bindSpecial (.ref fI) self) (.ref fI, [self])) (hyrest : rest.length ≤ sizeLine)
    (hyq : codeAny (model prog w) (A.under (.builtin "type.__call__" ⟨.ref C :: rest, []⟩)) (.call (.ref fI) ⟨.ref (h.objs.size + 1) :: rest, []⟩) (W.InitBack (h.objs.size + 1) R)
      ⟨(h.push (W.kdv_tup rest)).push (excO C h.objs.size), g, d, t, oys⟩) :
    codeAny (model prog w) A (.call (.ref C) ⟨rest, []⟩) R ⟨h, g, d, t, oys⟩ := by
  have f1 := tc_lookup
  have f2 := tc_bind (.ref C)
  have hTy : (⟨h, g, d, t, oys⟩ : Shared).TypeIs (.ref C) "type" := ⟨_, hyC, rfl⟩
  refine codeAny_of_tree ?_
  show wpAny _ _ (callAny (.ref C) _) _ _ _; repeat (any_goals (first | assumption | with_reducible refine wpAny_loadPart_at hyC ?_ | wp_step))
  refine ⟨rfl, ?_⟩
  refine codeAny_call_builtin_at (Code.quiet_builtin _ (by decide +kernel)) entry_typeCall (wpAny_check_type_call_sub hyC (type_call_x X hm hyC hyi hyb hyrest ?_))
  refine codeAny_mono hyq fun r s' z => ?_
  rcases r with e | (vv | _ | _ | _) <;> exact z
/-- the bound __init__ of the built-in class called: the args are laid anew -/
theorem call_bw_x (X : XB B NB newId initId tail) {u e t0 : Addr} {rest : List Value} {Q : Value → Shared → Prop}
    (hyC : h.get? C = some (excClassObj nm q C N bs bm hdct sn sub ab col dd k0 k1 k2 k3 k5 newId)) (hye : h.get? e = some (excO C t0)) (hu : h.get? u = some (kxs_mw initId e)) (hyrest : rest.length ≤ sizeLine)
    (hyq : ∀ h' t1, (∀ b o, b ≠ e → h.get? b = some o → h'.get? b = some o) → h'.get? e = some (excO C t1) → Q .none ⟨h', g, d, t, oys⟩) :
    wpAny (model prog w) A (call (.ref u) rest) Q E ⟨h, g, d, t, oys⟩ := by
  refine wpAny_call (codeAny_of_tree ?_); show wpAny _ A.in1 (callAny (.ref u) ⟨rest, []⟩) _ _ _
  simp only [callAny]
  refine wpAny_bind (wpAny_load hu ?_); simp only [kxs_mw, show (Value.type "method-wrapper" == Value.type "method" || Value.type "method-wrapper" == Value.type "builtin_function_or_method" || Value.type "method-wrapper" == Value.type "method-wrapper") = true by decide, if_true]
  refine KFB.if_so (by decide) ?_; refine wpAny_bind (check_bound_x X hyC hye rfl ?_)
  refine wpAny_bind (wpAny_pure (wpAny_pure ?_)); refine ⟨plainId_quiet X.plain _, codeAny_builtin X.entry ?_⟩
  rw [Around.under_plainId X.plain _]
  wp_walk
  refine hyq _ h.objs.size (fun b o hyb hyo => ?_) ?_
  · rw [Heap.get?_update_other _ _ (Ne.symm hyb)]
    exact Heap.get?_push_of_some _ hyo
  · rw [Heap.get?_update_self _ (Heap.get?_push_of_some _ hye) rfl]
    rfl
/-- self.name = v, no dict as yet -/
theorem osa_x {K : W.Frag} {name : Str} {tk : Tok} {v : Value} {x : Addr} {fv : Array Value} {cd : ClassData} {hp : Heap}
    (X : K.In hp) (hyx : hp.get? x = some { cls := .ref C, data := .fields fv }) (hcd : W.clsIn K C = some cd) (hm : refsX tail cd.mro = true) (hne : cd.mro.isEmpty = false) (hO : tail.contains (.type "object") = true) (hp' : ∀ self, refuseLoop self "__setattr__" tail = pure ()) (hh : cd.hasDict = true) (ha : W.findIn K (.ref C) name = some none)
    (hyq : ∀ h' tk' dx, (∀ b o, b ≠ x → hp.get? b = some o → h'.get? b = some o) → hp.objs.size ≤ dx → dx ≠ x → h'.get? x = some { cls := .ref C, dict := some dx, data := .fields fv } →
      h'.Ns1 dx (fun y => if y = name then some v else none) → R (.ok (.ret .none)) ⟨h', g, d, tk', oys⟩) :
    codeAny (model prog w) A (.call (.builtin "object.__setattr__") ⟨[.ref x, .str name tk, v], []⟩) R ⟨hp, g, d, t, oys⟩ := by
  have I : W.InstAt hp x { cls := .ref C, data := .fields fv } C none := ⟨hyx, rfl, rfl, trivial⟩
  have SyF := PySem.F.store_object
  have hob : cd.mro.contains (.type "object") = true := (refsX_has "object" _ hm).trans hO
  have hyxs : x ≠ hp.objs.size := Nat.ne_of_lt (Heap.lt_size hyx)
  have sub : W.Looks (model prog w) hp (isInstance (.ref x) (.type "object")) true := I.type.andThen (W.looks_mroIn X (by unfold W.mroIn; rw [hcd, Option.bind_some, if_neg (by rw [hne]; decide), hob]))
  refine codeAny_call_builtin SyF.slot.plain SyF.entry (@W.check_slot (model prog w) _ _ ⟨hp, g, d, t, oys⟩ "object.__setattr__" "object" "__setattr__" (.ref x) [.str name tk, v] [] _ SyF.kind SyF.split sub (SyF.args (.ref x) (.str name tk) v) ?_)
  have hymr : W.Looks (model prog w) hp (mroOf (.ref C)) cd.mro := (W.looks_clsIn X hcd).andThen .now
  have Ly3 : W.Looks (model prog w) hp (storeTaker? none) none := .now
  have hycls : W.Looks (model prog w) hp (classData C) cd := W.looks_clsIn X hcd
  rw [W.osa_eq, refuse_eq]
  refine wpAny_bind (wpAny_bind (I.type.at (wpAny_bind (hymr.at ?_))))
  rw [refsX_pass _ (hp' _) _ hm]
  refine wpAny_pure (wpAny_bind (I.type.at (wpAny_bind ((W.looks_findIn X ha).at (wpAny_bind (Ly3.at ?_))))))
  show wpAny _ _ (storeInOwnDict (.ref x) (.ref C) (.str name tk) name v false) _ _ _; obtain ⟨nm, bs, mro, ns, qn, hyd, sn, sb, ab, col, del⟩ := cd
  dsimp only at hh
  subst hh
  unfold storeInOwnDict ownDictForStores; repeat (first | with_reducible refine store_in_new ?_ ?_ | with_reducible refine wpAny_loadPart_at hyx ?_ | with_reducible refine hycls.at ?_ | wp_step)
  · exact ⟨_, #[], _, (Heap.get?_update_ne _ _ _ _ hyxs.symm).trans (Heap.get?_push_at rfl rfl), rfl, fun e hye => absurd hye (by simp), fun _ => rfl⟩
  · intro h' tk' hn' hs
    have hx₁ : (hp.push { cls := .type "dict", data := .dict #[] }).get? x = some { cls := .ref C, data := .fields fv } := Heap.get?_push_of_some _ hyx
    refine hyq h' tk' hp.objs.size (fun b o hyb hyo => ?_) (Nat.le_refl _) hyxs.symm ?_ hn'
    · exact (hs.2 b (Nat.ne_of_lt (Heap.lt_size hyo))).trans ((Heap.get?_update_ne _ _ _ _ hyb).trans (Heap.get?_push_of_some _ hyo))
    · exact (hs.2 x hyxs).trans (Heap.get?_update_self _ hx₁ rfl)
end
end Exm

end
section
set_option maxRecDepth 999999
/-! Ex2: own exceptions with one field: their __init__ walked, made, raised, the field read. -/
namespace Exm
open PySem PySem.W PySem.Calls PyProof.Rows PySem.HandSPX
open Builtin
open Builtin.ObjectAttr
def iA (f : Fl) (p1 p2 : Pos) : Arguments := { posonlyargs := [], args := [{ arg := "self", annotation := none, pos := p1 }, { arg := f.s, annotation := none, pos := p2 }], vararg := none, kwonlyargs := [], kw_defaults := [], kwarg := none, defaults := [] }
def iB (f : Fl) (msg : Str) (j : Nat) (q1 q2 q3 q4 q5 q6 q7 q8 q9 q10 : Pos) : List Stmt :=
  [.Expr (.Call (.Attribute (.Call (.Name "super" q1) [] [] q2) "__init__" q3) [.Constant (.str msg) j q4] [] q5) q6, .Assign [.Attribute (.Name "self" q7) f.s q8] (.Name f.s q9) q10]
def iS (f : Fl) : Scope := { kind := .function, names := [(PySem.Str.ofString "self", .local), (f.s, .local), (PySem.Str.ofString "__class__", .free), (PySem.Str.ofString "super", .globalImplicit)], isGenerator := false, isCoroutine := false, more := [] }
/-- what the written part says of an own class of exceptions, at C, of its __init__, at fI, of the cell of __class__, at cc, of the code, at cda -/
structure XT (P : Program) (K : Frag) (mg : Str → Option Value) (nm : Str) (f : Fl) (B NB newId initId : String) (tail : List Value) (C fI : Addr) : Prop where
  base : XB B NB newId initId tail
  gC : mg nm = some (.ref C)
  noS : mg "super" = none
  cls : ∃ nm q N bs bm sn sub ab col dd k0 k1 k2 k3 k5, K.lookup C = some (excClassObj nm q C N bs bm true sn sub ab col dd k0 k1 k2 k3 k5 newId) ∧ refsX tail bm = true
  (sa : findIn K (.ref C) "__setattr__" = some (some (.builtin "object.__setattr__")))
  (ga : findIn K (.ref C) "__getattribute__" = some (some (.builtin "BaseException.__getattribute__")))
  (gg : findIn K (.ref C) "__getattr__" = some none)
  noN : findIn K (.ref C) f.s = some none
  (iC : findIn K (.ref C) "__init__" = some (some (.ref fI)))
  (tC : typeIn K (.ref fI) = some (.type "function"))
  kC : keepIn K (.ref C) = true
  (exC : subIn K (.ref C) (.type "BaseException") = some true)
  (tyC : typeIn K (.ref C) = some (.type "type"))
  hdC : hasDictIn K C = true
  up : ks_superIn K C C "__init__" = some (some (.builtin initId))
  hB : subIn K (.ref C) (.type B) = some true
  opq : nsIn K cStatics "thirdparty.any" = some none
  slf : mroIn K C (.ref C) = some true
  top : (P.main.scope.names.lookup ("super" : Str)).isSome = false
  fn : ∃ (oc : Value) (od : Option Addr) (doc pm : Value) (an : Option Addr) (ct : Value) (osl : Array (Option Value)) (qual msg : Str) (j : Nat) (p1 p2 q1 q2 q3 q4 q5 q6 q7 q8 q9 q10 : Pos) (cc cda : Addr) (cl : Value) (cld : Option Addr) (csl : Array (Option Value)) (ccl : Value) (cdd : Option Addr) (ccs : Array (Option Value)) (vs : Array Value) (file : Str) (tf : Tok),
    K.lookup fI = some ⟨oc, od, .func (ksFn "__init__" qual (iA f p1 p2) (iB f msg j q1 q2 q3 q4 q5 q6 q7 q8 q9 q10) (iS f) .none .none doc pm an (.ref cda) ct cc), osl⟩ ∧ codeIn K (.ref cda) qual = true ∧
      K.lookup cda = some ⟨ccl, cdd, .fields vs, ccs⟩ ∧ vs[2]? = some (.str file tf) ∧ ((P.main.file : Str) == file) = true ∧ K.lookup cc = some ⟨cl, cld, .cell (some (.ref C)), csl⟩ ∧
      ∀ L : Addr, ∃ pl : Sem Bool, PySem.eval (.Call (.Attribute (.Call (.Name "super" q1) [] [] q2) "__init__" q3) [.Constant (.str msg) j q4] [] q5) (ksEnv qual (iS f) L fI (.ref cda) cc) = (do
        let ov ← attributeBase (.Call (.Name "super" q1) [] [] q2) "__init__" (ksEnv qual (iS f) L fI (.ref cda) cc) (PySem.eval (.Call (.Name "super" q1) [] [] q2) (ksEnv qual (iS f) L fI (.ref cda) cc))
        standAt q3.atName
        let (fv, first) ← holding [ov] (getMethod ov "__init__" pl)
        callWith q5 fv first (backTo q5 (starEach [.Constant (.str msg) j q4] (ksEnv qual (iS f) L fI (.ref cda) cc))) [])
structure InitEnd (h h' : Heap) (L x C dx t1 : Addr) (f : Fl) (v : Value) : Prop where
  (keep : ∀ b o, b ≠ x → h.get? b = some o → h'.get? b = some o)
  (obj : h'.get? x = some { cls := .ref C, dict := some dx, data := .fields #[.ref t1, .none, .none, .none, .bool false, .none] })
  dbig : L ≤ dx
  dne : dx ≠ x
  ns : h'.Ns1 dx (fun y => if y = f.s then some v else none)
section
variable {prog : Program} {w : World} {A : Around} {E : Value → Shared → Prop} {R : Result → Shared → Prop} {s : Shared} {K : Frag} {mg : Str → Option Value} {nm : Str} {f : Fl} {B NB newId initId : String} {tail : List Value} {C fI : Addr}
theorem kx_bound {M : Model} {pos : Pos} {u x : Addr} {i : String} {first : List Value} {env : Env} {e : Expr} {rest : List Expr} {Q : Value → Shared → Prop}
    (h : wpAny M A (spliced (backTo pos (starEach (e :: rest) env))) (fun vs s₁ => KxsAt i u x s₁.heap ∧ wpAny M A (call (.ref u) (first ++ vs)) Q E s₁) E s)
    (hye : starEach (e :: rest) env = (false, PySem.eval e env) :: starEach rest env := by rfl) (hplain : (backTo pos (starEach rest env)).any (·.1) = false := by rfl) : wpAny M A (callWith pos (.ref u) first (backTo pos (starEach (e :: rest) env)) []) Q E s := by
  rw [hye] at h ⊢
  refine kxs_callWith (i := i) (x := x) (by show (false || (backTo pos (starEach rest env)).any (·.1)) = false; rw [hplain]; rfl) ?_; exact evalArgs_plain h
theorem xbody (T : XT prog K mg nm f B NB newId initId tail C fI) {x t0 L : Addr} {v : Value} {h₁ : Heap} {tk : Nat} {qual msg : Str} {j : Nat} {p1 p2 q1 q2 q3 q4 q5 q6 q7 q8 q9 q10 : Pos} {cc cda : Addr} {oc : Value} {od : Option Addr} {doc pm : Value} {an : Option Addr} {ct : Value} {osl : Array (Option Value)} {cl : Value} {cld : Option Addr} {csl : Array (Option Value)} {ccl : Value} {cdd : Option Addr} {ccs : Array (Option Value)} {vs : Array Value} {file : Str} {tf : Tok}
    (hyo : K.lookup fI = some ⟨oc, od, .func (ksFn "__init__" qual (iA f p1 p2) (iB f msg j q1 q2 q3 q4 q5 q6 q7 q8 q9 q10) (iS f) .none .none doc pm an (.ref cda) ct cc), osl⟩) (hcda : K.lookup cda = some ⟨ccl, cdd, .fields vs, ccs⟩) (hvs : vs[2]? = some (.str file tf)) (hfile : ((prog.main.file : Str) == file) = true) (hcc : K.lookup cc = some ⟨cl, cld, .cell (some (.ref C)), csl⟩)
    (hye : ∀ L : Addr, ∃ pl : Sem Bool, PySem.eval (.Call (.Attribute (.Call (.Name "super" q1) [] [] q2) "__init__" q3) [.Constant (.str msg) j q4] [] q5) (ksEnv qual (iS f) L fI (.ref cda) cc) = (do
        let ov ← attributeBase (.Call (.Name "super" q1) [] [] q2) "__init__" (ksEnv qual (iS f) L fI (.ref cda) cc) (PySem.eval (.Call (.Name "super" q1) [] [] q2) (ksEnv qual (iS f) L fI (.ref cda) cc))
        standAt q3.atName
        let (fv, first) ← holding [ov] (getMethod ov "__init__" pl)
        callWith q5 fv first (backTo q5 (starEach [.Constant (.str msg) j q4] (ksEnv qual (iS f) L fI (.ref cda) cc))) []))
    (X : K.In h₁) (hG : h₁.Ns mainGlobals mg) (hBl : ∃ mb, h₁.Ns builtinsNs mb ∧ ∀ x : Str, x ≠ "__name__" → mb x = bootBuiltins x) (hx : h₁.get? x = some (excO C t0)) (hnx : K.lookup x = none) (hxL : x ≠ L) (hns : h₁.Ns L (fun y => [(("self" : Str), Value.ref x), (f.s, v)].reverse.lookup y))
    {Q : Flow → Shared → Prop} (hyq : ∀ h' tk dx t1, InitEnd h₁ h' L x C dx t1 f v → Q .next { s with heap := h', toks := tk }) :
    PySem.wpAt (model prog w) A (.func (iB f msg j q1 q2 q3 q4 q5 q6 q7 q8 q9 q10) (ksEnv qual (iS f) L fI (.ref cda) cc)) (execs (iB f msg j q1 q2 q3 q4 q5 q6 q7 q8 q9 q10) (ksEnv qual (iS f) L fI (.ref cda) cc)) Q E { s with heap := h₁, toks := tk } := by
  obtain ⟨nm', q', N, bs, bm, sn, sub, ab, col, dd, k0, k1, k2, k3, k5, hC, hbm⟩ := T.cls
  have hcl : clsIn K C = some { name := nm', bases := bs, mro := .ref C :: bm, ns := N, qualname := q', hasDict := true, slotNames := sn, subclasses := sub, abstract := ab, collection := col, hasDel := false } := by unfold clsIn; rw [hC] <;> rfl
  obtain ⟨mb, hb1, hb2⟩ := hBl
  obtain ⟨pl, hye⟩ := hye L
  obtain ⟨oD, hD1, hD2⟩ : ∃ oD, h₁.get? C = some oD ∧ oD.data = .cls { name := nm', bases := bs, mro := .ref C :: bm, ns := N, qualname := q', hasDict := true, slotNames := sn, subclasses := sub, abstract := ab, collection := col, hasDel := false } := ⟨_, X _ _ hC, rfl⟩
  have I : InstAt h₁ x (excO C t0) C none := ⟨hx, rfl, rfl, trivial⟩
  refine ks_wpAt_execs_cons (ks_wpAt_Expr_any (ks_wpAt_MethodCall (ks_wpAt_super_base (f := fI) (cc := cda) ?_ ?_ ?_ rfl (X _ _ hyo) rfl rfl rfl (X _ _ hcda) rfl hvs hfile T.top ?_) hye))
  · cases f <;> rfl
  · cases f <;> rfl
  · decide
  · refine ks_loadName_global rfl (by cases f <;> rfl) (loadGlobal_builtin (env := ksEnv qual (iS f) L fI (.ref cda) cc) hG T.noS hb1 ((hb2 _ (by decide)).trans (by decide +kernel)) ⟨rfl, ?_⟩)
    refine wpAny_loadName_free rfl (by cases f <;> rfl) rfl ⟨_, X _ _ hcc, rfl⟩ ?_
    refine wpAny_loadName_local rfl (by cases f <;> rfl) hns (v := .ref x) (by cases f <;> rfl) ?_
    refine ks_wpAny_isType_cls hD1 hD2 ⟨rfl, ?_⟩; refine ks_wpAny_call_super hD1 hD2 I.at_ I.cls (fun c e => by cases e) (looks_mroIn X T.slf) (fun h' e k => ?_)
    have X' : K.In h' := X.keeps k
    have I' : InstAt h' x (excO C t0) C none := ⟨k _ _ hx, rfl, rfl, trivial⟩
    have hm := T.up
    unfold ks_superIn at hm
    rw [hcl] at hm
    refine kxs_getMethod T.base.kx e (looks_opaque X' T.opq) (l₀ := .ref C :: bm) ?_ rfl X' hm (I'.type.andThen (looks_subIn X' T.hB)) (ks_ne X' I' hcl) (by decide) ?_
    · exact fun A Q E s k q => wpAny_bind ((looks_clsIn X' hcl) A _ E s k (wpAny_pure q))
    have hu : (h'.push (kxs_mw initId x)).get? h'.objs.size = some (kxs_mw initId x) := Heap.get?_push_size _ rfl
    have k2 : ∀ b o, h'.get? b = some o → (h'.push (kxs_mw initId x)).get? b = some o := fun b o q => Heap.get?_push_of_some _ q
    refine kx_bound (i := initId) (x := x) ?_
    rw [show starEach [.Constant (.str msg) j q4] (ksEnv qual (iS f) L fI (.ref cda) cc) = (false, PySem.eval (.Constant (.str msg) j q4) (ksEnv qual (iS f) L fI (.ref cda) cc)) :: starEach [] (ksEnv qual (iS f) L fI (.ref cda) cc) from rfl]
    refine Calls.spliced_cons ?_
    refine wpAny_Constant_str (k := j) (pos := q4) (Calls.spliced_nil ⟨hu, ?_⟩)
    refine call_bw_x T.base (k2 _ _ (k _ _ (X _ _ hC))) (k2 _ _ (k _ _ hx)) hu (by show 1 ≤ sizeLine; decide) fun h3 t1 k3 hx3 => ?_
    have kk : ∀ b o, b ≠ x → h₁.get? b = some o → h3.get? b = some o := fun b o hb e => k3 b o hb (k2 _ _ (k _ _ e))
    have X3 : K.In h3 := fun a o e => kk a o (fun z => by rw [z, hnx] at e; cases e) (X a o e)
    have hns3 : h3.Ns L (fun y => [(("self" : Str), Value.ref x), (f.s, v)].reverse.lookup y) := hns.at fun o e => kk _ o (Ne.symm hxL) e
    -- self.f = f
    refine ks_wpAt_execs_cons (PySem.wpAt_of_wpAny (plainObj_wpAny_Assign_Attribute ?_))
    refine ESX.ldL (env := ksEnv qual (iS f) L fI (.ref cda) cc) (v := v) hns3 (by cases f <;> rfl) (ESX.ldL (env := ksEnv qual (iS f) L fI (.ref cda) cc) (v := .ref x) hns3 (by cases f <;> rfl) ?_ rfl (by cases f <;> rfl) (by decide)) rfl (by cases f <;> rfl) (by cases f <;> decide)
    have hcl3 : clsIn K C = some { name := nm', bases := bs, mro := .ref C :: bm, ns := N, qualname := q', hasDict := true, slotNames := sn, subclasses := sub, abstract := ab, collection := col, hasDel := false } := hcl
    refine set_plain X3 (ox := excO C t1) (od := none) ⟨hx3, rfl, rfl, trivial⟩ T.sa ?_
    refine osa_x (tail := tail) X3 hx3 hcl3 (show refsX tail (.ref C :: bm) = true from hbm) rfl T.base.hasO T.base.pass rfl T.noN (fun h4 tk4 dx k4 dn dne hx4 hn4 => ?_)
    refine PySem.wpAt_of_wpAny (wpAny_execs_nil (hyq h4 tk4 dx t1 ⟨fun b o hb e => k4 b o hb (kk b o hb e), hx4, ?_, dne, hn4⟩))
    exact Nat.le_trans (Nat.le_of_lt hns3.lt) dn
/-- a made one -/
structure OwnMade (h h' : Heap) (e C d : Addr) (f : Fl) (v : Value) : Prop where
  (keep : ∀ b o, h.get? b = some o → h'.get? b = some o)
  new : h.objs.size ≤ e
  obj : ∃ oye vs, h'.get? e = some oye ∧ oye.cls = .ref C ∧ oye.dict = some d ∧ oye.data = .fields vs ∧ vs[1]? = some .none
  dbig : h.objs.size ≤ d
  dne : d ≠ e
  ns : h'.Ns1 d (fun y => if y = f.s then some v else none)
theorem xinit (T : XT prog K mg nm f B NB newId initId tail C fI) {x t0 : Addr} {v : Value} (X : K.In s.heap) (hlim : s.heap.NoLimit) (hG : s.heap.Ns mainGlobals mg) (hBl : ∃ mb, s.heap.Ns builtinsNs mb ∧ ∀ x : Str, x ≠ "__name__" → mb x = bootBuiltins x)
    (hx : s.heap.get? x = some (excO C t0)) (hnx : K.lookup x = none) (hroom : A.depth < recursionLimit)
    (hyq : ∀ h' tk dx t1, InitEnd s.heap h' s.heap.objs.size x C dx t1 f v → R (.ok (.ret .none)) { s with heap := h', toks := tk }) : codeAny (model prog w) A (.call (.ref fI) ⟨[.ref x, v], []⟩) R s := by
  obtain ⟨oc, od, doc, pm, an, ct, osl, qual, msg, j, p1, p2, q1, q2, q3, q4, q5, q6, q7, q8, q9, q10, cc, cda, cl, cld, csl, ccl, cdd, ccs, vs, file, tf, hyo, hcd, hcda, hvs, hfile, hcc, hye⟩ := T.fn
  refine ks_codeAny_call_defAt (fd := ksFn "__init__" qual (iA f p1 p2) (iB f msg j q1 q2 q3 q4 q5 q6 q7 q8 q9 q10) (iS f) .none .none doc pm an (.ref cda) ct cc) (body := iB f msg j q1 q2 q3 q4 q5 q6 q7 q8 q9 q10) (binds := [("self", .ref x), (f.s, v)]) hroom (X _ _ hyo) rfl hlim (codeRec_of X hcd) rfl (BindsTo.of_eq (by cases f <;> first | rfl | with_unfolding_all rfl)) (by show ∀ x ∈ (iS f).names, x.2 ≠ .cell; cases f <;> decide) (fun y hy => ?_) (fun h₁ hns hk₁ => ?_) rfl rfl rfl
  · show (iS f).names.lookup y.1 = some .local
    obtain e | hy := List.mem_cons.mp hy
    · rw [e]; cases f <;> rfl
    · rw [List.mem_singleton.mp hy]; cases f <;> rfl
  · obtain ⟨mb, hb1, hb2⟩ := hBl
    exact xbody (s := s) T hyo hcda hvs hfile hcc hye (X.keeps hk₁) (hG.keeps hk₁) ⟨mb, hb1.keeps hk₁, hb2⟩ (hk₁ _ _ hx) hnx (Nat.ne_of_lt (Heap.lt_size hx)) hns fun h' tk dx t1 z => hyq h' tk dx t1 ⟨fun b o hb e => z.keep b o hb (hk₁ b o e), z.obj, z.dbig, z.dne, z.ns⟩
theorem xmade (T : XT prog K mg nm f B NB newId initId tail C fI) {v : Value} (X : K.In s.heap) (hlim : s.heap.NoLimit) (hG : s.heap.Ns mainGlobals mg) (hBl : ∃ mb, s.heap.Ns builtinsNs mb ∧ ∀ x : Str, x ≠ "__name__" → mb x = bootBuiltins x) (hroom : A.depth + 1 < recursionLimit)
    (hyq : ∀ h' tk e d, OwnMade s.heap h' e C d f v → R (.ok (.ret (.ref e))) { s with heap := h', toks := tk }) : codeAny (model prog w) A (.call (.ref C) ⟨[v], []⟩) R s := by
  obtain ⟨nm', q', N, bs, bm, sn, sub, ab, col, dd, k0, k1, k2, k3, k5, hC, hbm⟩ := T.cls
  obtain ⟨hyp, g, dr, tk, oys⟩ := s
  have k : ∀ b o, hyp.get? b = some o → ((hyp.push (kdv_tup [v])).push (excO C hyp.objs.size)).get? b = some o := fun b o e => Heap.get?_push_of_some _ (Heap.get?_push_of_some _ e)
  have hyget : ((hyp.push (kdv_tup [v])).push (excO C hyp.objs.size)).get? (hyp.objs.size + 1) = some (excO C hyp.objs.size) := by heap_get
  have hnx : K.lookup (hyp.objs.size + 1) = none := by
    cases e : K.lookup (hyp.objs.size + 1) with
    | none => rfl
    | some o =>
      have z : hyp.get? (hyp.objs.size + 1) = some o := X _ _ e
      refine absurd (Nat.lt_of_succ_lt (Heap.lt_size z)) (Nat.lt_irrefl _)
  obtain ⟨mb, hb1, hb2⟩ := hBl
  refine call_x T.base hbm (X _ _ hC) (looks_findIn X T.iC) (fun self => bind_fn X self T.tC) (by show 1 ≤ sizeLine; decide) ?_
  refine xinit (s := ⟨(hyp.push (kdv_tup [v])).push (excO C hyp.objs.size), g, dr, tk, oys⟩) T (X.keeps k) (hlim.keeps k) (hG.keeps k) ⟨mb, hb1.keeps k, hb2⟩ hyget hnx ?_ fun h' tk' dx t1 ⟨k', hx, dn, dne, hns⟩ => ?_
  · show A.depth + 1 < recursionLimit; exact hroom
  · have old : ∀ b o, hyp.get? b = some o → h'.get? b = some o := fun b o e => k' b o (Nat.ne_of_lt (Nat.lt_succ_of_lt (Heap.lt_size e))) (k b o e)
    have z : hyp.objs.size + 1 + 1 ≤ dx := by
      first
        | simpa only [Heap.size_push] using dn
        | exact dn
        | (have qq := dn; rw [Heap.size_push, Heap.size_push] at qq; exact qq)
    exact ⟨rfl, hyq h' tk' (hyp.objs.size + 1) dx ⟨old, Nat.le_succ _, ⟨_, _, hx, rfl, rfl, rfl, rfl⟩, Nat.le_trans (Nat.le_trans (Nat.le_succ _) (Nat.le_succ _)) z, dne, hns⟩⟩
end
end Exm
namespace L2
open PyProof.Rows PySem PySem.Spec
theorem relO_x {v : V} {v' : Value} (r : RelV v v') (g f : Str) : RelO (List.lookup f [(g, v)]) (if f = g then some v' else none) := by
  by_cases hw : f = g
  · subst hw
    rw [if_pos rfl]
    have q : List.lookup f [(f, v)] = some v := by simp [List.lookup]
    rw [q]
    exact r
  · rw [if_neg hw]
    have qw : (f == g) = false := by simpa using hw
    have q2 : List.lookup f [(g, v)] = none := by simp [List.lookup, qw]
    rw [q2]
    trivial
section
variable {X : Cx} {C fI : Addr} {nm : Str} {f : Exm.Fl} {B NB newId initId : String} {tail : List Value}
/-- C(e) -/
def tMkX (C : Addr) (f : Str) (ta : TA) : St → Hp → XK → Prop := fun σ H Q => ta σ H fun vs H1 => ∃ v, vs = [v] ∧ ∀ d, H1 d = none → Q (.ref C) (some d) (upd H1 d (.xd [(f, v)]))
theorem pmk_x {a : Expr} {ta : TA} {p pos : Pos} {k : Nat} (T : Exm.XT X.prog X.K X.mg nm f B NB newId initId tail C fI) (hr : Room k X.A) (hya : PA X [a] ta) (hg : Gl X nm := by rfl) (hdb : (nm == ("__debug__" : Str)) = false := by decide)
    (hye : starEach (a :: []) X.env = (false, eval a X.env) :: starEach [] X.env := by rfl) (hpl : (backTo pos (starEach [] X.env)).any (·.1) = false := by rfl) :
    PMk X (.Call (.Name nm p) [a] [] pos) (tMkX C f.s ta) := by
  intro pyins s σ H Q I h
  refine wpAny_Call_Name_kw (ld_glob I hg T.gC ?_ hdb)
  refine PySem.W.callWith_K (h₀ := X.base) I.ok.mod.kin T.kC (thn (hya.run pos pyins s σ H _ I h) fun us s1 hh => ?_) hye hpl
  obtain ⟨vs, H1, Iy1, r1, v, ev, q1⟩ := hh
  subst ev
  refine ⟨Iy1.kIn, ?_⟩
  cases r1 with
  | cons rv rn =>
    rename_i v' us'
    cases rn
    show wpAny _ _ (call (.ref C) [v']) _ _ _; have hlim := Iy1.nolimit
    have hG := Iy1.mod.glob.keeps Iy1.bk
    obtain ⟨mb, hb1, hb2⟩ := Iy1.mod.blt
    have hB := hb1.keeps Iy1.bk
    obtain ⟨hyp, g, dr, tk, oys⟩ := s1
    refine wpAny_call (Exm.xmade T Iy1.kIn hlim hG ⟨mb, hB, hb2⟩ (by have := hr.dp; omega) fun h' tk' e d M => ?_)
    show MkP X pyins σ Q (.ref e) ⟨h', g, dr, tk', oys⟩
    obtain ⟨oye, fv, hoe, hc, hyd, hdat, h1⟩ := M.obj
    have hns := M.ns
    rcases restrict h' fun b => decide (b ≠ e) with ⟨G', g1, g2⟩
    have gyk : ∀ b, b ≠ e → G'.get? b = h'.get? b := fun b hb => g1 b (decide_eq_true hb)
    have gye : G'.get? e = none := g2 e (by simp)
    have old : ∀ b o, hyp.get? b = some o → G'.get? b = some o := fun b o q => (gyk b (Nat.ne_of_lt (Nat.lt_of_lt_of_le (Heap.lt_size q) M.new))).trans (M.keep b o q)
    have ob : ObjOk X.prog X.w (upd H1 d (.xd [(f.s, v)])) G' d (.xd [(f.s, v)]) :=
      ⟨_, hns.at (fun o q => (gyk d M.dne).trans q), fun g => relO_x rv f.s g⟩
    have J : Inv X pyins σ (upd H1 d (.xd [(f.s, v)])) ⟨G', g, dr, tk', oys⟩ := Iy1.laid (t' := tk') old M.dbig ob
    refine ⟨e, oye, fv, ⟨G', g, dr, tk', oys⟩, _, .ref C, some d, rfl, J, fun b o q => ?_, gye, hoe, ⟨hc, hyd⟩, hdat, h1, ?_, rfl, Iy1.bare, raises_own T.exC T.tyC, q1 d (Iy1.hok.fresh M.dbig)⟩
    · by_cases hb : b = e
      · have q' : G'.get? b = some o := q; rw [hb, gye] at q'; cases q'
      · exact (gyk b hb).symm.trans q
    · rw [upd_ne (Ne.symm M.dne)]
      exact Iy1.hok.fresh M.new
/-- raise C(e) -/
def tRaiseX (C : Addr) (f : Str) (W : WX) (ta : TA) : TS := fun _ σ H => tMkX C f ta σ H fun cls d H' => W cls d σ H'
theorem ps_raiseX {a : Expr} {ta : TA} {W : WX} {p pos pos2 : Pos} {k : Nat} (hc : X.calm = true) (T : Exm.XT X.prog X.K X.mg nm f B NB newId initId tail C fI) (hr : Room k X.A) (tk : Takes X W) (hya : PA X [a] ta) (hg : Gl X nm := by rfl) (hdb : (nm == ("__debug__" : Str)) = false := by decide)
    (hye : starEach (a :: []) X.env = (false, eval a X.env) :: starEach [] X.env := by rfl) (hpl : (backTo pos (starEach [] X.env)).any (·.1) = false := by rfl) :
    PS X (.Raise (some (.Call (.Name nm p) [a] [] pos)) none pos2) (tRaiseX C f.s W ta) := ps_raise hc tk (pmk_x T hr hya hg hdb hye hpl)
/-- e.f, e the exception that the suite holds -/
def tFldX (C : Addr) (f : Str) (a : Addr) (cls : Value) (d : Option Addr) (te : TE) : TE := fun σ H Q => te σ H fun x H1 => x = .ref a ∧ cls = .ref C ∧ ∃ (dd : Addr) (v : V), d = some dd ∧ H1 dd = some (.xd [(f, v)]) ∧ Q v H1
theorem pe_fldX {a : Addr} {oye : Obj} {cls : Value} {d : Option Addr} {pn : List (Addr × Obj)} {e : Expr} {te : TE} {pos : Pos} (T : Exm.XT X.prog X.K X.mg nm f B NB newId initId tail C fI) (hz : Zc cls d oye) (hf : ∃ vs, oye.data = .fields vs) (hye : PE (X.suite a ((a, oye) :: pn)) e te)
    (hb : attributeBase e f.s X.env (eval e X.env) = eval e X.env) :
    PE (X.suite a ((a, oye) :: pn)) (.Attribute e f.s pos) (tFldX C f.s a cls d te) := by
  refine ⟨fun pyins s σ H Q I h => ?_⟩
  refine attr_of hb (thn (hye.run pyins s σ H _ I h) fun u s1 hh => ?_)
  obtain ⟨x, H1, Iy1, ryx, ex, ec, dd, v, ed, ea, q⟩ := hh
  subst ex
  obtain rfl : u = Value.ref a := ryx
  subst ec
  subst ed
  obtain ⟨hya, _⟩ := Iy1.pin (a, oye) (List.mem_append_left _ List.mem_cons_self)
  obtain ⟨vs, hyd⟩ := hf
  have hx : ObjOk X.prog X.w H1 s1.heap dd (.xd [(f.s, v)]) := Iy1.hok dd _ ea
  obtain ⟨mA, hns, hr⟩ := hx
  obtain ⟨od, hyo, hl⟩ := lookIn_ns hns
  have l : List.lookup f.s [(f.s, v)] = some v := by simp [List.lookup]
  obtain ⟨u, hu, ru⟩ := RelO.some_of (v := v) (o := mA f.s) (by rw [← l]; exact hr f.s)
  have J : PySem.W.InstAt s1.heap a oye C (some od) := ⟨hya, hz.1, by unfold PySem.W.notCls; rw [hyd] <;> rfl, by rw [hz.2]; exact hyo⟩
  exact HandSPX.exc_get Iy1.kIn J T.ga T.gg T.exC (PySem.W.findObj_own T.hdC T.noN rfl (by rw [hl, hu])) (handed_of ru) ⟨v, H1, Iy1.tok _, ru, q⟩
end
end L2

end
/-! Ly10: what raises: an own exception with one field. -/
namespace Ly
open PySem L2 Mc
/-- a promise: the own exception at C, its field f holds x -/
def spX (R : List D → Addr → Str → D → Prop) : Sp := fun vs H _ E => ∃ (M : Hp) (ds : List D) (C : Addr) (f : Str) (x : D), Same M H ∧ Dvs M vs ds ∧ R ds C f x ∧ ∀ (M' H' : Hp) (d : Addr) (v : V), Pu M H M' H' → H' d = some (.xd [(f, v)]) → Dv M' v x → E (.ref C) (some d) H'
/-- never answers -/
def EZ (M0 H0 : Hp) (own : Own) (ρ : Ev) (te : TE) : Prop := ∀ (σ : L2.St) (M H : Hp), Sd own ρ σ M H → Pu M0 H0 M H → ∀ Q : VK, te σ H Q
def AZ (M0 H0 : Hp) (own : Own) (ρ : Ev) (ta : TA) : Prop := ∀ (σ : L2.St) (M H : Hp), Sd own ρ σ M H → Pu M0 H0 M H → ∀ Q : List V → Hp → Prop, ta σ H Q
def IZ (M0 H0 : Hp) (own : Own) (ρ : Ev) (ti : TI) : Prop := ∀ (σ : L2.St) (M H : Hp), Sd own ρ σ M H → Pu M0 H0 M H → ∀ R, ti σ H R
theorem C.pu {M0 H0 M H : Hp} {own : Own} {ρ : Ev} {σ : L2.St} (c : C [] M0 H0 own ρ σ M H) : Pu M0 H0 M H := ⟨c.bs.mm, fun b o e => c.bs.hh b o (fun z => nomatch z) e, c.sd.mh, c.bs.nn⟩
section
variable {ι : Type} {Z : ι → Cx} {own : Own} {ρ : Ev} {P : Program} {wd : World} {K : PySem.W.Frag} {mg : Str → Option Value} {base : Heap} {N : List Str} {k : Nat} (fm : Fam Z P wd K mg base N k)
variable {a b c e : Expr} {es : List Expr} {x y z d : D} {ds xs ys : List D} {i j : Int} {pos p p2 pf : Pos} {nm : Str}
variable {st : Stmt} {rest body : List Stmt} {D : Ends} {F : List Addr} {M0 H0 M H : Hp} {σ : L2.St}
/-- the wish of the contexts -/
abbrev Tk (Z : ι → Cx) (W : XK) : Prop := ∀ n, Takes (Z n) fun cls d _ H => W cls d H
/-- what W asks -/
abbrev Wx (W : XK) (M0 H0 : Hp) (C : Addr) (f : Str) (x : Ly.D) : Prop := ∀ (M' H' : Hp) (d : Addr) (v : V), Pu M0 H0 M' H' → H' d = some (.xd [(f, v)]) → Dv M' v x → W (.ref C) (some d) H'
theorem AZ.wz {t : TA} (h : AZ M0 H0 own ρ t) (hp : ∀ n, PA (Z n) es t) : AZ M0 H0 own ρ (wA Z es) := fun σ M H s u Q => ⟨t, hp, h σ M H s u Q⟩
theorem EZ.wz {t : TE} (h : EZ M0 H0 own ρ t) (hp : ∀ n, PE (Z n) e t) : EZ M0 H0 own ρ (wE Z e) := fun σ M H s u Q => ⟨t, hp, h σ M H s u Q⟩
theorem IZ.wz {tg : Expr} {t : TI} (h : IZ M0 H0 own ρ t) (hp : ∀ n, PI (Z n) tg e t) : IZ M0 H0 own ρ (wI Z tg e) := fun σ M H s u R => ⟨t, hp, h σ M H s u R⟩
theorem z_here (h : EZ M0 H0 own ρ (wE Z e)) (hs : ∀ n, starEach (e :: es) (Z n).env = (false, eval e (Z n).env) :: starEach es (Z n).env := by intro _; rfl) : AZ M0 H0 own ρ (wA Z (e :: es)) :=
  AZ.wz (t := tCons (wE Z e) (wA Z es)) (fun σ M H s u Q => h σ M H s u _) fun n => pa_cons (pe_w n) (pa_w n) (hs n)
theorem z_next (h0 : E own ρ (wE Z e) x) (h : AZ M0 H0 own ρ (wA Z es)) (hs : ∀ n, starEach (e :: es) (Z n).env = (false, eval e (Z n).env) :: starEach es (Z n).env := by intro _; rfl) : AZ M0 H0 own ρ (wA Z (e :: es)) :=
  AZ.wz (t := tCons (wE Z e) (wA Z es)) (fun σ M H s u Q => h0 σ M H s _ fun v M1 H1 u1 r1 => h σ M1 H1 (s.pure u1) (u.trans u1) _) fun n => pa_cons (pe_w n) (pa_w n) (hs n)
include fm in
/-- a call that raises -/
theorem z_call {R : List Ly.D → Addr → Str → Ly.D → Prop} {W : XK} {k' : Nat} {ps : List Str} {Cx : Addr} {f : Str} (c : Cal P wd K mg base nm k' ps (spX R)) (tk : Tk Z W) (ha : EA own ρ (wA Z (e :: es)) ds) (hR : R ds Cx f x) (hW : Wx W M0 H0 Cx f x) (hk : k' ≤ k := by decide) (hg : ∀ n, Gl (Z n) nm := by intro _; rfl) (hdb : (nm == ("__debug__" : Str)) = false := by decide)
    (he : ∀ n, starEach (e :: es) (Z n).env = (false, eval e (Z n).env) :: starEach es (Z n).env := by intro _; rfl) (hpl : ∀ n, (backTo pos (starEach es (Z n).env)).any (·.1) = false := by intro _; rfl) : EZ M0 H0 own ρ (wE Z (.Call (.Name nm p) (e :: es) [] pos)) := by
  obtain ⟨f', fd, G, hm, hkp, hb⟩ := c.ex
  refine EZ.wz (t := tCall (spX R) [] W (wA Z (e :: es))) (fun σ M H s u Q => ha σ M H s _ fun vs M1 H1 u1 r => ?_) fun n => ?_
  · rw [List.append_nil]
    exact ⟨M1, ds, Cx, f, x, u1.mh, r, hR, fun M' H' d v u2 hd rv => hW M' H' d v ((u.trans u1).trans u2) hd rv⟩
  · have G' : FnOk (Z n).prog (Z n).w (Z n).K (Z n).mg (Z n).base (L2.CX (Z n).prog (Z n).w) k f' fd ps (spX R) := by
      rw [fm.P n, fm.w n, fm.K n, fm.mg n, fm.base n]; exact G.mono hk
    exact pe_call G' (fm.room n) (hg n) (by rw [fm.mg]; exact hm) (by rw [fm.K]; exact hkp) (by rw [fm.K]; exact hb) .nil (passes_call (tk n) fun _ _ _ _ h => h) (pa_w n) hdb (he n) (hpl n)
include fm in
/-- a call whose arguments raise -/
theorem z_args {sp : Sp} {k' : Nat} {ps : List Str} (c : Cal P wd K mg base nm k' ps sp) (ha : AZ M0 H0 own ρ (wA Z (e :: es))) (hk : k' ≤ k := by decide) (hg : ∀ n, Gl (Z n) nm := by intro _; rfl) (hdb : (nm == ("__debug__" : Str)) = false := by decide)
    (he : ∀ n, starEach (e :: es) (Z n).env = (false, eval e (Z n).env) :: starEach es (Z n).env := by intro _; rfl) (hpl : ∀ n, (backTo pos (starEach es (Z n).env)).any (·.1) = false := by intro _; rfl) : EZ M0 H0 own ρ (wE Z (.Call (.Name nm p) (e :: es) [] pos)) := by
  obtain ⟨f', fd, G, hm, hkp, hb⟩ := c.ex
  refine EZ.wz (t := tCall sp [] E0 (wA Z (e :: es))) (fun σ M H s u Q => ha σ M H s u _) fun n => ?_
  have G' : FnOk (Z n).prog (Z n).w (Z n).K (Z n).mg (Z n).base (L2.CX (Z n).prog (Z n).w) k f' fd ps sp := by
    rw [fm.P n, fm.w n, fm.K n, fm.mg n, fm.base n]; exact G.mono hk
  exact pe_call G' (fm.room n) (hg n) (by rw [fm.mg]; exact hm) (by rw [fm.K]; exact hkp) (by rw [fm.K]; exact hb) .nil passL (pa_w n) hdb (he n) (hpl n)
variable (B : Blt mg)
include fm B in
/-- tuple(..) of what raises -/
theorem z_tuple (ha : AZ M0 H0 own ρ (wA Z [a])) (hg : ∀ n, Gl (Z n) "tuple" := by intro _; rfl) (he : ∀ n, starEach (a :: []) (Z n).env = (false, eval a (Z n).env) :: starEach [] (Z n).env := by intro _; rfl) (hpl : ∀ n, (backTo pos (starEach [] (Z n).env)).any (·.1) = false := by intro _; rfl) : EZ M0 H0 own ρ (wE Z (.Call (.Name "tuple" pf) [a] [] pos)) :=
  EZ.wz (t := tCB (fun xs H Q => ∃ p ys, xs = [V.ref p] ∧ ((SqL K H p ys ∧ ∀ l, H l = none → Q (.ref l) (upd H l (.tup ys))) ∨ (SqT K H p ys ∧ Q (.ref p) H))) (wA Z [a])) (fun σ M H s u Q => ha σ M H s u _) fun n => pe_callTy (fm.K n ▸ call_tuple_of) (hg n) (by rw [fm.mg]; exact B.tuple) (by decide +kernel) (pa_w n) (by decide) (by decide) (he n) (hpl n)
include fm in
/-- what is walked raises: as a list -/
theorem z_iter {tg : Expr} (h : EZ M0 H0 own ρ (wE Z e)) : IZ M0 H0 own ρ (wI Z tg e) := IZ.wz (t := iList K (wE Z e)) (fun σ M H s u R => h σ M H s u _) fun n => fm.K n ▸ pi_list (pe_w n)
include fm in
/-- a comprehension over it -/
theorem z_lc {elt iter tg : Expr} {ifs : List Expr} {scope sc : Scope} (ow : List (Str × Nat)) (ok : BlkOk N sc scope ow) (hsc : ∀ n, (Z n).env.scope = sc) (hi : IZ M0 H0 own ρ (wI Z tg iter)) (hs : ∀ n x, foldedSetIterable iter (Z n).env x = pure x := by intro _ _; rfl) : EZ M0 H0 own ρ (wE Z (.ListComp elt [⟨tg, iter, ifs, 0⟩] scope pos)) :=
  EZ.wz (t := lcT Z ow scope tg iter ifs elt) (fun σ M H s u Q => hi σ M H s u _) fun n => pe_lcT fm ok hsc hs n
/-! statements -/
theorem k_dropZ (c : C [] M0 H0 own ρ σ M H) (h : EZ M0 H0 own ρ (wE Z e)) (hs : ∀ n, swapsWith e none pos.line (Z n).env = pure false := by intro _; rfl) : wS Z (.Expr e pos) D σ H := ⟨_, fun n => ps_expr (pe_w n) (hs n), h σ M H c.sd c.pu _⟩
theorem k_retZ (c : C [] M0 H0 own ρ σ M H) (h : EZ M0 H0 own ρ (wE Z e)) : wS Z (.Return (some e) pos) D σ H := ⟨_, fun n => ps_ret (pe_w n), h σ M H c.sd c.pu _⟩
include fm in
theorem k_setZ (v : Nat) (c : C [] M0 H0 own ρ σ M H) (h : EZ M0 H0 own ρ (wE Z e)) (hN : ∀ n, (Z n).N[v]? = some nm) (hl : ∀ n, Loc (Z n).env.scope nm := by intro _; first | exact Or.inl rfl | exact Or.inr rfl)
    (hf : ∀ n, (Z n).fn nm = true ∨ (Z n).env.scope.names.lookup nm = some .local := by intro _; first | exact .inl rfl | exact .inr rfl) (hs : ∀ n, swapsWith e (some (.Name nm p)) pos.line (Z n).env = pure false := by intro _; rfl) : wS Z (.Assign [.Name nm p] e pos) D σ H :=
  ⟨_, fun n => ps_set (fm.N n ▸ fm.nd) (hN n) (hl n) (pe_w n) (hs n) (hf n), h σ M H c.sd c.pu _⟩
theorem k_asgZ {tg : Expr} (c : C [] M0 H0 own ρ σ M H) (h : EZ M0 H0 own ρ (wE Z e)) (hs : ∀ n, swapsWithSole [tg] e pos.line (Z n).env = pure false := by intro _; rfl) (hw : ∀ n, swappedStores [tg] e (Z n).env = pure none := by intro _; rfl)
    (h1 : ∀ n, (assignEach [tg] (Z n).env).map (·.2) = [assign tg (Z n).env] := by intro _; rfl) : wS Z (.Assign [tg] e pos) D σ H :=
  ⟨_, fun n => ps_asg (pe_w n) (pg_w n) (hs n) (hw n) (h1 n), h σ M H c.sd c.pu _⟩
include fm in
/-- raise C(e) -/
theorem k_raise {W : XK} {f : Exm.Fl} {Bc NB newId initId : String} {tail : List Value} {Cx fI : Addr} (T : Exm.XT P K mg nm f Bc NB newId initId tail Cx fI) (tk : Tk Z W) (u0 : Pu M0 H0 M H) (s : Sd own ρ σ M H) (ha : E own ρ (wE Z a) x) (hW : Wx W M0 H0 Cx f.s x) (hg : ∀ n, Gl (Z n) nm := by intro _; rfl) (hdb : (nm == ("__debug__" : Str)) = false := by decide)
    (he : ∀ n, starEach (a :: []) (Z n).env = (false, eval a (Z n).env) :: starEach [] (Z n).env := by intro _; rfl) (hpl : ∀ n, (backTo pos (starEach [] (Z n).env)).any (·.1) = false := by intro _; rfl) : wS Z (.Raise (some (.Call (.Name nm p) [a] [] pos)) none p2) D σ H := by
  refine ⟨tRaiseX Cx f.s (fun cls d _ H => W cls d H) (wA Z [a]), fun n => ps_raiseX (fm.calm n) (by rw [fm.P n, fm.K n, fm.mg n]; exact T) (fm.room n) (tk n) (pa_w n) (hg n) hdb (he n) (hpl n), ?_⟩
  refine a_cons ha a_nil he σ M H s _ fun vs M1 H1 u1 r => ?_
  cases r with
  | cons r rr =>
    cases rr
    exact ⟨_, rfl, fun d hd => hW M1 _ d _ ((u0.trans u1).trans (Pu.newH u1.mh hd)) upd_same r⟩
end
section
variable {P : Program} {wd : World} {K : PySem.W.Frag} {mg : Str → Option Value} {base : Heap} {N ps : List Str} {k : Nat} {x : Str} {st : Stmt} {f : Addr}
/-- a def that raises, by its body -/
theorem cal_exc {R : List Ly.D → Addr → Str → Ly.D → Prop} {fd : FuncData} (F : Fun K x x st f fd) (S : FnScope N ps (defScope st)) (hm : mg x = some (.ref f)) (hb : Binds K fd ps []) (hlen : ∀ ds C g d, R ds C g d → ds.length = ps.length)
    (body : ∀ (cdv : Value) (A : Around) (outer : List Env) (s : Shared) (H : Hp) (Er : XK), Fam (Zd P wd K mg base N x st f cdv A outer s H Er) P wd K mg base N k → Tk (Zd P wd K mg base N x st f cdv A outer s H Er) Er → ∀ ds C g d, R ds C g d → ∀ (M0 H0 : Hp) (σ : L2.St) (D : Ends), Ly.C [] M0 H0 [] (startD N.length ds) σ M0 H0 →
      Wx Er M0 H0 C g d → wB (Zd P wd K mg base N x st f cdv A outer s H Er) (defBody st) D σ H0) : Cal P wd K mg base x (k + 1) ps (spX R) := by
  refine ⟨f, fd, F.okX S (fun vs H Q Er h => ?_) (fun cdv A outer s H vs Q Er hr h => ?_), hm, F.kp, hb⟩
  · obtain ⟨M, ds, C, g, d, _, r, h, _⟩ := h
    rw [r.length]; exact hlen ds C g d h
  · obtain ⟨M, ds, C, g, d, mh, r, h, q⟩ := h
    refine ⟨_, pb_w (Z := Zd P wd K mg base N x st f cdv A outer s H Er) (), ?_⟩
    exact body cdv A outer s H Er ⟨fun _ => rfl, fun _ => rfl, fun _ => rfl, fun _ => rfl, fun _ => rfl, fun _ => rfl, S.nd, fun _ => rfl, fun _ => hr⟩ (fun _ => takes_of rfl rfl rfl rfl) ds C g d h M H _ _ ⟨⟨mh, EnvD.start r N, .nil⟩, .refl, (fun _ h => nomatch h), (fun _ h => nomatch h)⟩ fun M' H' e v u hd rv => q M' H' e v u hd rv
end
end Ly
/-! Df11: what raises. -/
namespace Hb
open PySem L2 Mc Ly
abbrev XNS (P : Program) (K : PySem.W.Frag) (mg : Str → Option Value) (C f : Addr) : Prop := Exm.XT P K mg "NoState" .state "KeyError" "LookupError" "LookupError.__new__" "KeyError.__init__" Exm.keTail C f
abbrev XNH (P : Program) (K : PySem.W.Frag) (mg : Str → Option Value) (C f : Addr) : Prop := Exm.XT P K mg "NoHouse" .house "KeyError" "LookupError" "LookupError.__new__" "KeyError.__init__" Exm.keTail C f
abbrev XBS (P : Program) (K : PySem.W.Frag) (mg : Str → Option Value) (C f : Addr) : Prop := Exm.XT P K mg "BadSteps" .at_ "ValueError" "ValueError" "ValueError.__new__" "ValueError.__init__" PySem.HandSPX.veTail C f
section
variable {P : Program} {wd : World} {K : PySem.W.Frag} {mg : Str → Option Value} {base : Heap} (B : Blt mg) (G : Gc mg) {Cm Cw Cn Cb Cs Ch Ct fs fh ft : Addr} (T : MK K mg Cm) (W : WK K mg Cw) (BK : BK K mg Cb) (XS : XNS P K mg Cs fs) (XH : XNH P K mg Ch fh) (XB : XBS P K mg Ct ft)
/-- no state of the machine, no house of the web -/
def odd (n : Nat) (y : D) : Prop := (∃ T, TyD y T) ∧ isBelow (n : Int) y = false
abbrev ZNeed (Cm Cs : Addr) : List D → Addr → Str → D → Prop := fun ds C f x => ∃ t n y, ds = [machD Cm t n, y] ∧ odd n y ∧ C = Cs ∧ f = "state" ∧ x = y
include T XS in
theorem ex29 {f : Addr} {fd : FuncData} (F : Df K mg "need_state" s29 f fd) (C21 : CBelow P wd K mg base) : Cal P wd K mg base "need_state" 4 ["machine", "state"] (spX (ZNeed Cm Cs)) := by
  refine cal_exc F.F sc29 F.g (F.F.binds fun _ _ _ _ _ _ us hl => match us, hl with | [_, _], _ => rfl) (fun ds C g d ⟨_, _, _, e, _⟩ => by rw [e]; rfl) ?_
  rintro cdv A outer s H Er fm tk ds C g d ⟨t, n, y, rfl, ⟨⟨Ty, ty⟩, ho⟩, rfl, rfl, rfl⟩ M0 H0 σ D c hW
  refine b_cons (k_if c (t_not (t_val (w_call fm C21 (a_cons (w_nm 1 (fun _ => rfl) rfl) (a_cons (w_fld fm (w_nm 0 (fun _ => rfl) rfl) T.kl.cl T.states rfl) a_nil)) ⟨_, _, _, rfl, ty, rfl⟩))) (fun h M H c => ?_) fun h M H c => ?_)
  · exact b_one (k_raise fm XS tk c.pu c.sd (w_nm 1 (fun _ => rfl) rfl) hW)
  · exfalso
    rw [ho] at h
    cases h
abbrev ZNeedH (Cw Ch : Addr) : List D → Addr → Str → D → Prop := fun ds C f x => ∃ h ts y, ds = [webD Cw h ts, y] ∧ odd h y ∧ C = Ch ∧ f = "house" ∧ x = y
include W XH in
theorem ex41 {f : Addr} {fd : FuncData} (F : Df K mg "need_house" s41 f fd) (C21 : CBelow P wd K mg base) : Cal P wd K mg base "need_house" 4 ["web", "house"] (spX (ZNeedH Cw Ch)) := by
  refine cal_exc F.F sc41 F.g (F.F.binds fun _ _ _ _ _ _ us hl => match us, hl with | [_, _], _ => rfl) (fun ds C g d ⟨_, _, _, e, _⟩ => by rw [e]; rfl) ?_
  rintro cdv A outer s H Er fm tk ds C g d ⟨t, n, y, rfl, ⟨⟨Ty, ty⟩, ho⟩, rfl, rfl, rfl⟩ M0 H0 σ D c hW
  refine b_cons (k_if c (t_not (t_val (w_call fm C21 (a_cons (w_nm 1 (fun _ => rfl) rfl) (a_cons (w_fld fm (w_nm 0 (fun _ => rfl) rfl) W.kl.cl W.houses rfl) a_nil)) ⟨_, _, _, rfl, ty, rfl⟩))) (fun h M H c => ?_) fun h M H c => ?_)
  · exact b_one (k_raise fm XH tk c.pu c.sd (w_nm 1 (fun _ => rfl) rfl) hW)
  · exfalso
    rw [ho] at h
    cases h
/-- steps, then one that is none -/
structure Bent (h : Nat) (ts : List Tie) (k : Nat) (y : D) (ss : List Stp) : Prop where
  ex : ∃ (ys : List D) (b x : D) (a : Nat) (T : String), SqD y (ys ++ [b]) ∧ Sts ys ss ∧ SqD b [.str "do", .int (a : Int), x] ∧ TyD x T ∧ (decide (a < h) && isBelow k x) = false
  len : ss.length < 400
  ok : ∀ s ∈ ss, sok h ts.length k s = true
abbrev ZLook (Cw Ct : Addr) : List D → Addr → Str → D → Prop := fun ds C f x => ∃ (h : Nat) (ts : List Tie) (k : Nat) (y : D) (ss : List Stp), ds = [webD Cw h ts, .int (k : Int), y] ∧ Bent h ts k y ss ∧ C = Ct ∧ f = "at" ∧ x = .int (ss.length : Nat)
include B G XB in
theorem ex48 {f : Addr} {fd : FuncData} (F : Df K mg "looked_steps" s48 f fd) (C23 : CIs P wd K mg base "is_sequence" 1 isSeqD) (C47 : Cal P wd K mg base "is_step" 4 ["web", "deeds", "value"] (spD (RStep Cw))) : Cal P wd K mg base "looked_steps" 5 ["web", "deeds", "value"] (spX (ZLook Cw Ct)) := by
  refine cal_exc F.F sc48 F.g (F.F.binds fun _ _ _ _ _ _ us hl => match us, hl with | [_, _, _], _ => rfl) (fun ds C g d ⟨_, _, _, _, _, e, _⟩ => by rw [e]; rfl) ?_
  rintro cdv A outer s H Er fm tk ds C g d ⟨h, ts, k, y, ss, rfl, ⟨⟨ys, b, bx, a, bT, sq, sts, sb, tb, hbad⟩, hl, hok⟩, rfl, rfl, rfl⟩ M0 H0 σ D c hW
  obtain ⟨Ty, ty, he⟩ := seq_of sq
  have hlen := sts.1
  have hlen2 : (ys ++ [b]).length = ss.length + 1 := by rw [List.length_append, hlen]; rfl
  refine b_cons (k_if c (t_pw (v_or (t_not (t_val (w_call fm C23 (a_cons (w_nm 2 (fun _ => rfl) rfl) a_nil) ⟨_, _, rfl, ty, rfl⟩))) fun h1 => (v_or1 (t_cmp (w_len fm B (w_nm 2 (fun _ => rfl) rfl) sq) (w_g fm G.MOST_STEPS) cm_gt)))) (fun h M H c => ?_) fun h M H c => ?_)
  · exfalso
    rw [he, decide_eq_false (show ¬ (400 : Int) < (ys ++ [b]).length by omega)] at h
    cases h
  refine b_nil ?_
  refine b_cons (k_forB fm (fun i (_ : Unit) => i ≤ ss.length) (fun _ => []) (fun _ => [some (webD Cw _ ts), some (.int (k : Int)), some y, none, none]) () (f2 3 4) c (i_en fm B (w_nm 2 (fun _ => rfl) rfl) sq) (Nat.zero_le _) rfl (fun _ _ _ σ M H c => c) (fun i d h => by
    obtain ⟨x, hx, rfl⟩ := enD_get h
    exact (g_tup fm (g_cons fm 3 (fun _ => rfl) (g_cons fm 4 (fun _ => rfl) g_nil)))) (fun M1 H1 lf i d x σ M H hi hP c D1 e1 e2 kn => ?_) (fun x σ M H hP c => ?_) (fun _ => passes_of rfl))
  · obtain ⟨z, hz, rfl⟩ := enD_get hi
    by_cases hlt : i < ss.length
    · rw [List.getElem?_append_left (by omega)] at hz
      obtain ⟨s, hs, sq'⟩ := sts.get hz
      refine b_one (k_if c (t_not (t_val (w_call fm C47 (a_cons (w_nm 0 (fun _ => rfl) rfl) (a_cons (w_nm 1 (fun _ => rfl) rfl) (a_cons (w_nm 4 (fun _ => rfl) rfl) a_nil))) (step_R sq')))) (fun h M H c => ?_) fun h M H c => ?_)
      · rw [hok s (List.mem_of_getElem? hs)] at h
        cases h
      · exact b_nil (kn () _ _ _ hlt ((c.forget 3).forget 4))
    · have hi2 := lt_of_get hz
      have ei : i = ss.length := by omega
      subst ei
      have ez : z = b := by
        rw [List.getElem?_append_right (by omega), hlen, Nat.sub_self] at hz
        simpa using hz.symm
      subst ez
      refine b_one (k_if c (t_not (t_val (w_call fm C47 (a_cons (w_nm 0 (fun _ => rfl) rfl) (a_cons (w_nm 1 (fun _ => rfl) rfl) (a_cons (w_nm 4 (fun _ => rfl) rfl) a_nil))) ⟨_, ts, k, z, rfl, .inl ⟨a, bx, bT, sb, tb, rfl⟩⟩))) (fun h M H c => ?_) fun h M H c => ?_)
      · exact b_one (k_raise fm XB tk (lf _ _ _ _ _ c).pu c.sd (w_nm 3 (fun _ => rfl) rfl) hW)
      · rw [hbad] at h
        cases h
  · exfalso
    have hP : (enD (ys ++ [b])).length ≤ ss.length := hP
    rw [enD_len] at hP
    omega
abbrev ZWs (Cw Ct : Addr) : List D → Addr → Str → D → Prop := fun ds C f x => ∃ (h : Nat) (ts : List Tie) (y : D) (ss : List Stp), ds = [webD Cw h ts, y] ∧ Bent h ts 8 y ss ∧ C = Ct ∧ f = "at" ∧ x = .int (ss.length : Nat)
include G in
theorem ex54 {f : Addr} {fd : FuncData} (F : Df K mg "web_steps" s54 f fd) (C48 : Cal P wd K mg base "looked_steps" 5 ["web", "deeds", "value"] (spX (ZLook Cw Ct))) : Cal P wd K mg base "web_steps" 6 ["web", "value"] (spX (ZWs Cw Ct)) := by
  refine cal_exc F.F sc54 F.g (F.F.binds fun _ _ _ _ _ _ us hl => match us, hl with | [_, _], _ => rfl) (fun ds C g d ⟨_, _, _, _, e, _⟩ => by rw [e]; rfl) ?_
  rintro cdv A outer s H Er fm tk ds C g d ⟨h, ts, y, ss, rfl, bt, rfl, rfl, rfl⟩ M0 H0 σ D c hW
  exact b_one (k_retZ c (z_call fm C48 tk (a_cons (w_nm 0 (fun _ => rfl) rfl) (a_cons (w_g fm G.MOST_DEEDS) (a_cons (w_nm 1 (fun _ => rfl) rfl) a_nil))) ⟨h, ts, 8, y, ss, rfl, bt, rfl, rfl, rfl⟩ hW))
include B in
theorem ex55 {f : Addr} {fd : FuncData} (F : Df K mg "act_deeds" s55 f fd) (C54 : Cal P wd K mg base "web_steps" 6 ["web", "value"] (spX (ZWs Cw Ct))) : Cal P wd K mg base "act_deeds" 7 ["web", "steps"] (spX (ZWs Cw Ct)) := by
  refine cal_exc F.F sc55 F.g (F.F.binds fun _ _ _ _ _ _ us hl => match us, hl with | [_, _], _ => rfl) (fun ds C g d ⟨_, _, _, _, e, _⟩ => by rw [e]; rfl) ?_
  rintro cdv A outer s H Er fm tk ds C g d ⟨h, ts, y, ss, rfl, bt, rfl, rfl, rfl⟩ M0 H0 σ D c hW
  exact b_one (k_retZ c (z_tuple fm B (z_here (z_lc fm [("one", 2)] (blkOk_by (sc := defScope s55) (by decide +kernel)) (fun _ => rfl) (z_iter fm (z_call fm C54 tk (a_cons (w_nm 0 (fun _ => rfl) rfl) (a_cons (w_nm 1 (fun _ => rfl) rfl) a_nil)) ⟨h, ts, y, ss, rfl, bt, rfl, rfl, rfl⟩ hW))))))
theorem ex58 {f : Addr} {fd : FuncData} (F : Df K mg "counts_after" s58 f fd) (C54 : Cal P wd K mg base "web_steps" 6 ["web", "value"] (spX (ZWs Cw Ct))) (C57 : Cal P wd K mg base "book_after" 3 ["web", "told"] (spD (RBook Cb Cw))) : Cal P wd K mg base "counts_after" 7 ["web", "steps"] (spX (ZWs Cw Ct)) := by
  refine cal_exc F.F sc58 F.g (F.F.binds fun _ _ _ _ _ _ us hl => match us, hl with | [_, _], _ => rfl) (fun ds C g d ⟨_, _, _, _, e, _⟩ => by rw [e]; rfl) ?_
  rintro cdv A outer s H Er fm tk ds C g d ⟨h, ts, y, ss, rfl, bt, rfl, rfl, rfl⟩ M0 H0 σ D c hW
  exact b_cons (k_setZ fm 2 c (z_args fm C57 (z_next (w_nm 0 (fun _ => rfl) rfl) (z_here (z_call fm C54 tk (a_cons (w_nm 0 (fun _ => rfl) rfl) (a_cons (w_nm 1 (fun _ => rfl) rfl) a_nil)) ⟨h, ts, y, ss, rfl, bt, rfl, rfl, rfl⟩ hW)))) (fun _ => rfl))
theorem ex60 {f : Addr} {fd : FuncData} (F : Df K mg "heard_after" s60 f fd) (C58 : Cal P wd K mg base "counts_after" 7 ["web", "steps"] (spX (ZWs Cw Ct))) : Cal P wd K mg base "heard_after" 8 ["web", "steps"] (spX (ZWs Cw Ct)) := by
  refine cal_exc F.F sc60 F.g (F.F.binds fun _ _ _ _ _ _ us hl => match us, hl with | [_, _], _ => rfl) (fun ds C g d ⟨_, _, _, _, e, _⟩ => by rw [e]; rfl) ?_
  rintro cdv A outer s H Er fm tk ds C g d ⟨h, ts, y, ss, rfl, bt, rfl, rfl, rfl⟩ M0 H0 σ D c hW
  exact b_cons (k_asgZ c (z_call fm C58 tk (a_cons (w_nm 0 (fun _ => rfl) rfl) (a_cons (w_nm 1 (fun _ => rfl) rfl) a_nil)) ⟨h, ts, y, ss, rfl, bt, rfl, rfl, rfl⟩ hW))
abbrev ZPlain (Cm Cw Cs Ct Ch : Addr) : List D → Addr → Str → D → Prop := fun ds C f x => ∃ (t : List (List Nat)) (n h : Nat) (ts : List Tie) (u y z : D), ds = [machD Cm t n, webD Cw h ts, u, y, z] ∧
  ((odd n u ∧ C = Cs ∧ f = "state" ∧ x = u) ∨ ∃ (first : Nat) (ss : List Stp), u = .int (first : Int) ∧ first < n ∧ ((Bent h ts t.length y ss ∧ C = Ct ∧ f = "at" ∧ x = .int (ss.length : Nat)) ∨
    ((∃ ys, SqD y ys ∧ Sts ys ss) ∧ ss.length ≤ 400 ∧ (∀ s ∈ ss, sok h ts.length t.length s = true) ∧ odd h z ∧ C = Ch ∧ f = "house" ∧ x = z)))
include T W in
theorem ex63 {f : Addr} {fd : FuncData} (F : Df K mg "plain_state" s63 f fd) (C29 : Cal P wd K mg base "need_state" 4 ["machine", "state"] (spD (RNeed Cm))) (Z29 : Cal P wd K mg base "need_state" 4 ["machine", "state"] (spX (ZNeed Cm Cs))) (C48 : Cal P wd K mg base "looked_steps" 5 ["web", "deeds", "value"] (spD (RLook Cw))) (Z48 : Cal P wd K mg base "looked_steps" 5 ["web", "deeds", "value"] (spX (ZLook Cw Ct))) (Z41 : Cal P wd K mg base "need_house" 4 ["web", "house"] (spX (ZNeedH Cw Ch))) :
    Cal P wd K mg base "plain_state" 6 ["machine", "web", "first", "steps", "house"] (spX (ZPlain Cm Cw Cs Ct Ch)) := by
  refine cal_exc F.F sc63 F.g (F.F.binds fun _ _ _ _ _ _ us hl => match us, hl with | [_, _, _, _, _], _ => rfl) (fun ds C g d ⟨_, _, _, _, _, _, _, e, _⟩ => by rw [e]; rfl) ?_
  rintro cdv A outer s H Er fm tk ds C g d ⟨t, n, h, ts, u, y, z, rfl, hy⟩ M0 H0 σ D c hW
  rcases hy with ⟨ho, rfl, rfl, rfl⟩ | ⟨first, ss, rfl, of, hy⟩
  · exact b_cons (k_dropZ c (z_call fm Z29 tk (a_cons (w_nm 0 (fun _ => rfl) rfl) (a_cons (w_nm 2 (fun _ => rfl) rfl) a_nil)) ⟨t, n, _, rfl, ho, rfl, rfl, rfl⟩ hW))
  refine b_cons (k_drop c (w_call fm C29 (a_cons (w_nm 0 (fun _ => rfl) rfl) (a_cons (w_nm 2 (fun _ => rfl) rfl) a_nil)) ⟨t, n, first, rfl, of, rfl⟩).x ?_)
  rintro _ _ M H ⟨rfl, rfl⟩ c
  rcases hy with ⟨bt, rfl, rfl, rfl⟩ | ⟨⟨ys, sq, sts⟩, hl, hok, ho, rfl, rfl, rfl⟩
  · exact b_cons (k_dropZ c (z_call fm Z48 tk (a_cons (w_nm 1 (fun _ => rfl) rfl) (a_cons (w_fld fm (w_nm 0 (fun _ => rfl) rfl) T.kl.cl T.deeds rfl) (a_cons (w_nm 3 (fun _ => rfl) rfl) a_nil))) ⟨h, ts, t.length, y, ss, rfl, bt, rfl, rfl, rfl⟩ hW))
  refine b_cons (k_drop c (w_call fm C48 (a_cons (w_nm 1 (fun _ => rfl) rfl) (a_cons (w_fld fm (w_nm 0 (fun _ => rfl) rfl) T.kl.cl T.deeds rfl) (a_cons (w_nm 3 (fun _ => rfl) rfl) a_nil))) ⟨h, ts, t.length, y, ys, ss, rfl, sq, sts, hl, hok, rfl⟩).x ?_)
  rintro _ _ M H ⟨rfl, rfl⟩ c
  exact b_cons (k_dropZ c (z_call fm Z41 tk (a_cons (w_nm 1 (fun _ => rfl) rfl) (a_cons (w_nm 4 (fun _ => rfl) rfl) a_nil)) ⟨h, ts, _, rfl, ho, rfl, rfl, rfl⟩ hW))
end
end Hb
/-! Ly11: pops; lists of new lists displayed; int() of what changes cells. -/
namespace Ly
open PySem L2 Mc
section
variable {ι : Type} {Z : ι → Cx} {own : Own} {ρ : Ev} {P : Program} {wd : World} {K : PySem.W.Frag} {mg : Str → Option Value} {base : Heap} {N : List Str} {k : Nat} (fm : Fam Z P wd K mg base N k)
variable {a b c e o i : Expr} {es : List Expr} {x y z d : D} {ds xs ys : List D} {pos p p2 pf apos cpos : Pos} {nm : Str} {ad : Addr} {kk : Nat}
variable {st : Stmt} {rest body : List Stmt} {D : Ends} {F : List Addr} {M0 H0 M H : Hp} {σ : L2.St} {Pq : Ly.D → Own → Prop} {Pa : List Ly.D → Own → Prop}
variable (B : Blt mg)
theorem EA.xa (h : EA own ρ (wA Z es) ds) : XA own ρ (wA Z es) (fun x o => x = ds ∧ o = own) := h.x
/-- arguments: one that changes cells -/
theorem xa_one (he : X own ρ (wE Z e) Pq) (hs : ∀ n, starEach (e :: []) (Z n).env = (false, eval e (Z n).env) :: starEach [] (Z n).env := by intro _; rfl) : XA own ρ (wA Z [e]) (fun ds o => ∃ x, ds = [x] ∧ Pq x o) := fun F M0 H0 σ M H c Q q =>
  xa_cn (es := []) (Pr := fun x r o => r = [] ∧ Pq x o) he (fun x o pq F M0 H0 σ M H c Q q => xa_nl F M0 H0 σ M H c Q fun vs ds o' M' H' ⟨e1, e2⟩ c' s' r' => q vs ds o' M' H' ⟨e1, e2 ▸ pq⟩ c' s' r') hs F M0 H0 σ M H c Q fun vs ds o M' H' ⟨x, r, o1, e1, _, e2, pq⟩ c' s' r' => q vs ds o M' H' ⟨x, by rw [e1, e2], pq⟩ c' s' r'
/-- a plain one ahead -/
theorem xa_e (he : E own ρ (wE Z e) d) (ha : XA own ρ (wA Z es) Pa) (hs : ∀ n, starEach (e :: es) (Z n).env = (false, eval e (Z n).env) :: starEach es (Z n).env := by intro _; rfl) : XA own ρ (wA Z (e :: es)) (fun ds o => ∃ r, ds = d :: r ∧ Pa r o) := fun F M0 H0 σ M H c Q q =>
  xa_cn (es := es) (Pr := fun _ r o => Pa r o) he.x (fun x o ⟨_, e2⟩ => e2 ▸ ha) hs F M0 H0 σ M H c Q fun vs ds o M' H' ⟨x, r, o1, e1, ⟨e3, _⟩, pq⟩ c' s' r' => q vs ds o M' H' ⟨r, by rw [e1, e3], pq⟩ c' s' r'
/-- one that changes cells, plain ones behind -/
theorem xa_x (he : X own ρ (wE Z e) Pq) (ha : ∀ x o, Pq x o → EA o ρ (wA Z es) ds) (hs : ∀ n, starEach (e :: es) (Z n).env = (false, eval e (Z n).env) :: starEach es (Z n).env := by intro _; rfl) : XA own ρ (wA Z (e :: es)) (fun r o => ∃ x, r = x :: ds ∧ Pq x o) := fun F M0 H0 σ M H c Q q =>
  xa_cn (es := es) (Pr := fun x r o => r = ds ∧ Pq x o) he (fun x o pq F M0 H0 σ M H c Q q => (ha x o pq).x F M0 H0 σ M H c Q fun vs ds o' M' H' ⟨e1, e2⟩ c' s' r' => q vs ds o' M' H' ⟨e1, e2 ▸ pq⟩ c' s' r') hs F M0 H0 σ M H c Q fun vs ds o M' H' ⟨x, r, o1, e1, _, e2, pq⟩ c' s' r' => q vs ds o M' H' ⟨x, by rw [e1, e2], pq⟩ c' s' r'
/-- [e, ..] -/
theorem x_lstX (h : XA own ρ (wA Z es) Pa) (hl : ∀ ds o, Pa ds o → ds.length ≤ 100000) : X own ρ (wE Z (.List es pos)) (fun d o => ∃ a ds o1, d = .ref a ∧ Pa ds o1 ∧ o = (a, .l ds) :: o1) :=
  X.wz (t := tLst (wA Z es)) (fun F M0 H0 σ M H c Q q => h F M0 H0 σ M H c _ fun vs ds o M1 H1 pa c1 s1 r => ⟨by rw [r.length]; exact Nat.le_trans (hl ds o pa) (by decide), fun p hp => q (.ref p) (.ref p) _ M1 _ ⟨p, ds, o, rfl, pa, rfl⟩ (c1.new (Pu.newH c1.sd.mh hp) hp (same_back c1.sd.mh hp) upd_same ⟨vs, rfl, r⟩) s1 (.raw _)⟩) fun n => pe_lst (pa_w n)
include fm in
/-- xs.pop(), xs a cell -/
theorem x_pop (ho : E own ρ (wE Z o) (.ref ad)) (hk : own[kk]? = some (ad, .l ds)) (hz : ds[ds.length - 1]? = some z) (hbase : ∀ n, attributeBase o "pop" (Z n).env (eval o (Z n).env) = eval o (Z n).env := by intro _; rfl) (hline : (apos.endLine == cpos.line) = true := by rfl) :
    X own ρ (wE Z (.Call (.Attribute o "pop" apos) [] [] cpos)) (fun d o => d = z ∧ o = own.set kk (ad, .l ds.dropLast)) := by
  refine X.wz (t := tBM0 K "list" (fun x vs H Q => rPop x vs H Q) (wE Z o)) (fun F M0 H0 σ M H c Q q => ho σ M H c.sd _ fun v M1 H1 u1 r1 => ?_) fun n => fm.K n ▸ pe_bm0 PySem.F.plainAttrs_list PySem.F.slot_list_pop PySem.F.type_list_pop mt_pop (pe_w n) (hbase n) hline
  have c1 := c.pure u1
  obtain ⟨_, ob, hob, vs, rfl, rv⟩ := c1.sd.ow.get hk
  obtain ⟨y, hy, ry⟩ := rv.get hz
  refine ⟨by rw [r1.raw_eq]; exact .inl ⟨rfl, vs, .of hob⟩, ad, vs, y, r1.raw_eq, rfl, hob, by rw [rv.length]; exact hy, ?_⟩
  exact q y z _ M1 _ ⟨rfl, rfl⟩ (c1.put hk ⟨vs.dropLast, rfl, rv.dropLast⟩) u1.mm ry
include fm in
/-- xs.pop(e), xs a cell -/
theorem x_popAt (ho : E own ρ (wE Z o) (.ref ad)) (hk : own[kk]? = some (ad, .l xs)) (he : X own ρ (wE Z e) Pq) (hl : xs.length ≤ 100000) (h : ∀ (d : Ly.D) (w : Own), Pq d w → w[kk]? = some (ad, OC.l xs) ∧ ∃ j : Nat, d = .int (j : Int) ∧ j < xs.length)
    (hbase : ∀ n, attributeBase o "pop" (Z n).env (eval o (Z n).env) = eval o (Z n).env := by intro _; rfl)
    (hfew : ∀ n, ((backTo cpos (starEach (e :: []) (Z n).env)).all (fun x => !x.1) && (backToKw cpos (keywordEach [] (Z n).env)).all (fun x => x.1.isSome)
      && decide ((e :: []).length + ([] : List Keyword).length + (if ([] : List Keyword).isEmpty then 0 else 1) < 30)) = true := by intro _; rfl)
    (hline : (apos.endLine == cpos.line) = true := by rfl) (hs : ∀ n, starEach (e :: []) (Z n).env = (false, eval e (Z n).env) :: starEach [] (Z n).env := by intro _; rfl) (hplain : ∀ n, (backTo cpos (starEach [] (Z n).env)).any (·.1) = false := by intro _; rfl) :
    X own ρ (wE Z (.Call (.Attribute o "pop" apos) [e] [] cpos)) (fun d' o' => ∃ (j : Nat) (w : Own), Pq (.int (j : Int)) w ∧ xs[j]? = some d' ∧ o' = w.set kk (ad, OC.l (xs.eraseIdx j))) := by
  refine X.wz (t := tBM K "list" (fun x vs H Q => rPopAt x vs H Q) (wE Z o) (tCons (wE Z e) tNil)) (fun F M0 H0 σ M H c Q q => ho σ M H c.sd _ fun v M1 H1 u1 r1 => ?_) fun n => fm.K n ▸ pe_bm PySem.F.plainAttrs_list PySem.F.slot_list_pop PySem.F.type_list_pop mt_popAt (pe_w n) (pa_cons (pe_w n) pa_nil (hs n)) (hbase n) (hfew n) hline (hs n) (hplain n)
  have c1 := c.pure u1
  obtain ⟨_, ob, hob, us, rfl, ru⟩ := c1.sd.ow.get hk
  refine ⟨by rw [r1.raw_eq]; exact .inl ⟨rfl, us, .of hob⟩, he F M0 H0 σ M1 H1 c1 _ fun w d o M2 H2 pq c2 s2 r2 => ?_⟩
  obtain ⟨hk, j, rfl, hj⟩ := h d o pq
  have hz : xs[j]? = some xs[j] := List.getElem?_eq_getElem hj
  obtain ⟨_, ob, hob, vs, rfl, rv⟩ := c2.sd.ow.get hk
  obtain ⟨y, hy, ry⟩ := rv.get hz
  refine ⟨ad, vs, j, j, y, r1.raw_eq, by rw [r2.raw_eq], hob, by omega, by omega, ?_, hy, ?_⟩
  · unfold seqIndex?
    rw [rv.length]
    first
      | (rw [if_pos (by omega)]; simp; omega)
      | (simp; omega)
  · exact q y _ _ M2 _ ⟨j, _, pq, hz, rfl⟩ (c2.put hk ⟨vs.eraseIdx j, rfl, rv.eraseIdx j⟩) (u1.mm.trans s2) ry
include fm B in
/-- int(e), e changes cells -/
theorem x_int1 (he : X own ρ (wE Z a) Pq) (h : ∀ d o, Pq d o → ∃ i, d = .int i) (hg : ∀ n, Gl (Z n) "int" := by intro _; rfl) (hs : ∀ n, starEach (a :: []) (Z n).env = (false, eval a (Z n).env) :: starEach [] (Z n).env := by intro _; rfl) (hpl : ∀ n, (backTo pos (starEach [] (Z n).env)).any (·.1) = false := by intro _; rfl) :
    X own ρ (wE Z (.Call (.Name "int" pf) [a] [] pos)) Pq := by
  refine X.wz (t := tCB (fun xs H Q => (∃ i : Int, xs = [V.int i] ∧ Q (.int i) H) ∨ (∃ b : Bool, xs = [V.bl b] ∧ Q (.int (if b then 1 else 0)) H)) (wA Z [a])) (fun F M0 H0 σ M H c Q q => ?_) fun n => pe_callTy call_int1 (hg n) (by rw [fm.mg]; exact B.int) (by decide +kernel) (pa_w n) (by decide) (by decide) (hs n) (hpl n)
  refine xa_one he hs F M0 H0 σ M H c _ fun vs ds o M1 H1 pa c1 s1 r => ?_
  obtain ⟨x, rfl, pq⟩ := pa
  obtain ⟨i, rfl⟩ := h x o pq
  obtain ⟨v, rfl, rv⟩ := r.one
  exact .inl ⟨i, by rw [rv.raw_eq], q _ _ _ M1 H1 pq c1 s1 (.raw _)⟩
end
end Ly
/-! Df12: the deal: what is dealt, what any draws. -/
namespace Hb
open PySem L2 Mc Ly
def iD (l : List Int) : List D := l.map D.int
theorem iD_len {l : List Int} : (iD l).length = l.length := by unfold iD; rw [List.length_map]
theorem iD_get {l : List Int} {i : Nat} {x : D} (h : (iD l)[i]? = some x) : ∃ n, l[i]? = some n ∧ x = .int n := by
  unfold iD at h
  rw [List.getElem?_map, Option.map_eq_some_iff] at h
  obtain ⟨n, h1, h2⟩ := h
  exact ⟨n, h1, h2.symm⟩
theorem iD_at {l : List Int} {i : Nat} {n : Int} (h : l[i]? = some n) : (iD l)[i]? = some (.int n) := by unfold iD; rw [List.getElem?_map, h]; rfl
/-- the cells of a deal -/
structure Dl where
  a : Addr
  l : Addr
  b : Int
  cs : List Int
def Dl.own (g : Dl) : Own := [(g.a, .l [.ref g.l, .int g.b]), (g.l, .l (iD g.cs))]
structure DlOk (g : Dl) : Prop where
  b0 : 0 ≤ g.b
  b1 : g.b < 2147483647
  len : g.cs.length ≤ 48
  pos : ∀ x ∈ g.cs, 0 ≤ x
theorem keep_iD {l : List Int} {p : D → Bool} : keep (iD l) p (fun d => d) = iD (l.filter fun i => p (.int i)) := by
  unfold keep iD
  rw [List.filter_map, List.map_id']
  rfl
section
variable {P : Program} {wd : World} {K : PySem.W.Frag} {mg : Str → Option Value} {base : Heap} (B : Blt mg) (G : Gc mg)
abbrev s65 : Stmt := top 65
theorem sc65 : FnScope ["_law_script", "_law_cells", "_law_cell", "_law_blend"] ["_law_script"] (defScope s65) := ⟨rfl, rfl, rfl, by decide +kernel, rfl, by decide +kernel, by decide +kernel⟩
abbrev PreDl (ns : List Int) (ds : List D) (o : Own) : Prop := ds = [.lst (iD ns)] ∧ o = []
abbrev PostDl (ns : List Int) (d : D) (o : Own) : Prop := ∃ g : Dl, DlOk g ∧ d = .ref g.a ∧ o = g.own
def absD (d : D) : D := match d with
  | .raw (.int i) => .int (if i < 0 then -i else i)
  | x => x
def bigD (d : D) : Bool := match d with
  | .raw (.int i) => decide ((10 : Int) ^ (18 : Int).toNat ≤ i)
  | _ => false
/-- en_lc, what is walked told of one place alone -/
theorem en_lc_at {own : Own} {ρ : Ev} {te : TE} {wi : TI} {g : TG} {tt : TT} {vs : List Nat} {ds : List D} {σ : L2.St} {H : Hp} (p : D → Bool) (e : D → D) (f : D → Ev → Ev) (hi : ∀ M, Sd own ρ σ M H → ∀ R : It → Hp → Prop, (∀ J M' H', Pu M H M' H' → Wk J ds M' → R J H') → wi σ H R) (hl : ds.length ≤ 100000)
    (hg : ∀ (i : Nat) (d : D), ds[i]? = some d → EW g vs d (f d)) (ht : ∀ (i : Nat) (d : D), ds[i]? = some d → ET own (f d (wipeD ρ vs)) tt (p d)) (he : ∀ (i : Nat) (d : D), ds[i]? = some d → p d = true → E own (f d (wipeD ρ vs)) te (e d)) :
    ∀ M, Sd own ρ σ M H → ∀ Q : VK, (∀ p' us M' H', Pu M H M' H' → H p' = none → M' p' = none → H' p' = some (.lst us) → Dvs M' us (keep ds p e) → Q (.ref p') H') → tLc wi g tt te vs σ H Q := fun M s Q q =>
  (en_lc p e f (wi := fun σ' H' R => σ' = σ ∧ H' = H → wi σ' H' R) (fun σ' M' H' s' R q' ⟨e1, e2⟩ => by subst e1 e2; exact hi M' s' R q') hl hg ht he σ M H s Q q) ⟨rfl, rfl⟩
theorem set_lcT_at {ι : Type} {Z : ι → Cx} {own : Own} {ρ : Ev} {ds : List D} {σ : L2.St} {H : Hp} {elt iter tg : Expr} {ifs : List Expr} {scope : Scope} (i : Nat) (ow : List (Str × Nat)) (p : D → Bool) (e : D → D) (f : D → Ev → Ev) (hi : ∀ M, Sd own ρ σ M H → ∀ R : It → Hp → Prop, (∀ J M' H', Pu M H M' H' → Wk J ds M' → R J H') → wI Z tg iter σ H R) (hl : ds.length ≤ 100000)
    (hg : ∀ (i : Nat) (d : D), ds[i]? = some d → EW (wG (Zb Z scope) tg) (ow.map (·.2)) d (f d)) (ht : ∀ (i : Nat) (d : D), ds[i]? = some d → ET own (f d (wipeD ρ (ow.map (·.2)))) (wTs (Zb Z scope) ifs) (p d)) (he : ∀ (i : Nat) (d : D), ds[i]? = some d → p d = true → E own (f d (wipeD ρ (ow.map (·.2)))) (wE (Zb Z scope) elt) (e d))
    {M : Hp} (s : Sd own ρ σ M H) {D0 : Ends} (k : ∀ p' us M' H', Pu M H M' H' → H p' = none → M' p' = none → H' p' = some (.lst us) → Dvs M' us (keep ds p e) → D0.nx (σ.set i (some (.ref p'))) H') : tAsg (lcT Z ow scope tg iter ifs elt) (gName i) D0 σ H :=
  en_lc_at p e f hi hl hg ht he M s (fun v H1 => D0.nx (σ.set i (some v)) H1) k
/-- what a slice of a list that is read gives to walk, told of one place -/
theorem sl_at {ι : Type} {Z : ι → Cx} {N : List Str} {k : Nat} {own : Own} {ρ : Ev} (fm : Fam Z P wd K mg base N k) {a tg : Expr} {lo hi : Option Expr} {l h : Option Int} {pos p2 : Pos} {x : Addr} {vs : List V} {ds : List D} (ha : E own ρ (wE Z a) (.raw (.ref x))) (hl : EO own ρ (wO Z lo) l) (hh : EO own ρ (wO Z hi) h)
    {σ : L2.St} {M H : Hp} (s : Sd own ρ σ M H) (hs : SqL K H x vs) (rd : ∀ M, Dvs M (cutV vs l h) ds) {R : It → Hp → Prop} (k0 : ∀ J M' H', Pu M H M' H' → Wk J ds M' → R J H') : wI Z tg (.Subscript a (.Slice lo hi none p2) pos) σ H R :=
  ⟨iList K (wE Z _), fun n => fm.K n ▸ pi_list (pe_w n), ⟨tSl (rSlL K) (wE Z a) (wO Z lo) (wO Z hi), fun n => fm.K n ▸ pe_slice sl_list (pe_w n) (po_w n) (po_w n), ha σ M H s _ fun v M1 H1 u1 r1 => hl σ M1 H1 (s.pure u1) _ fun M2 H2 u2 => hh σ M2 H2 ((s.pure u1).pure u2) _ fun M3 H3 u3 => by
    have u := (u1.trans u2).trans u3
    refine ⟨x, vs, r1.raw_eq, u.hh.seq hs, fun p hp => ?_⟩
    have u4 := Pu.newM (o := .lst (cutV vs l h)) u.mh hp
    exact ⟨p, rfl, ⟨_, .of upd_same⟩, k0 _ _ _ (u.trans u4) (wk_list upd_same (rd _))⟩⟩⟩
/-- the script is handed over as it lies -/
abbrev spScr (K : PySem.W.Frag) : Sp := fun vs H Q _ => ∃ (a : Addr) (ns : List Int) (M : Hp), vs = [.ref a] ∧ Same M H ∧ SqL K H a (ns.map V.int) ∧ ∀ v d own' M' H', PostDl ns d own' → Po M H [] M' H' own' → Dv M' v d → Q v H'
abbrev N65 : List Str := ["_law_script", "_law_cells", "_law_cell", "_law_blend"]
include B in
theorem ok65 {f : Addr} {fd : FuncData} (F : Df K mg "_law_dealt" s65 f fd) : Cal P wd K mg base "_law_dealt" 1 ["_law_script"] (spScr K) := by
  refine ⟨f, fd, F.F.okX sc65 (fun vs H Q Er ⟨a, ns, M, e, _⟩ => by rw [e]; rfl) (fun cdv A outer s HH vs Q Er hr h => ?_), F.g, F.F.kp, F.F.binds fun _ _ _ _ _ _ us hl => match us, hl with | [_], _ => rfl⟩
  obtain ⟨a, ns, MM, rfl, mh, hs, q0⟩ := h
  have fm : Fam (Zm P wd K mg base N65 "_law_dealt" s65 f cdv A outer s HH Er) P wd K mg base N65 0 := ⟨fun _ => rfl, fun _ => rfl, fun _ => rfl, fun _ => rfl, fun _ => rfl, fun _ => rfl, sc65.nd, fun _ => rfl, fun _ => hr⟩
  refine ⟨_, pb_w (Z := Zm P wd K mg base N65 "_law_dealt" s65 f cdv A outer s HH Er) (), ?_⟩
  have c : C [] MM HH [] (startD N65.length [.raw (.ref a)]) (L2.start N65 [.ref a]) MM HH := ⟨⟨mh, EnvD.start (.cons (.raw _) .nil) _, .nil⟩, .refl, (fun _ h => nomatch h), fun _ h => nomatch h⟩
  have q : ∀ v d own' ρ σ' M' H', PostDl ns d own' → C [] MM HH own' ρ σ' M' H' → Dv M' v d → Q v H' := fun v d own' ρ σ' M' H' hp c r => q0 v d own' M' H' hp (C.po (own := []) c) r
  have hl48 : (cutV (ns.map V.int) none (some 48)).length ≤ 48 := by
    unfold cutV
    rw [HT.sIx_none, show (some (48 : Int)) = some ((48 : Nat) : Int) from rfl, HT.sIx_nat]
    simp
    omega
  have hcut : ∃ cs : List Int, cutV (ns.map V.int) none (some 48) = cs.map V.int := by
    unfold cutV
    rw [← List.map_drop, ← List.map_take]
    exact ⟨_, rfl⟩
  obtain ⟨cs, ecs⟩ := hcut
  rw [ecs, List.length_map] at hl48
  have rcs : ∀ M : Hp, Dvs M (cs.map V.int) (iD cs) := fun M => by
    have := Dvs.raws (M := M) (cs.map V.int)
    rw [List.map_map] at this
    exact this
  refine b_cons ⟨_, fun n => ps_setLcT (ow := [("_law_cell", 2)]) (i := 1) fm (blkOk_by (sc := defScope s65) (by decide +kernel)) (fun _ => rfl) (fun _ _ => rfl) (fun _ => rfl) (fun _ => rfl) (fun _ => sw_true rfl rfl rfl (by decide +kernel)) n, ?_⟩
  refine set_lcT_at (ds := iD cs) 1 _ (fun _ => true) absD (f1 2) (fun M0 s0 R k0 => ?_) (by rw [iD_len]; omega) (fun i d h => (cw_name (Fam.blk fm) 2 (fun _ => rfl) (by decide))) (fun i d h => ts_nil) (fun i d h hq => ?_) c.sd (fun p' us M' H' u hn1 hn2 ho r => ?_)
  · exact sl_at fm (w_nm 0 (fun _ => rfl) rfl) o_none (o_some w_int) s0 hs (fun M => by rw [ecs]; exact rcs M) k0
  · obtain ⟨x, hx, rfl⟩ := iD_get h
    exact w_abs (Fam.blk fm) B (w_int1 (Fam.blk fm) B (w_nm 2 (fun _ => rfl) rfl))
  have ek : keep (iD cs) (fun _ => true) absD = iD (cs.map fun i => if i < 0 then -i else i) := by
    rw [keep_all]; unfold iD; rw [List.map_map, List.map_map]; rfl
  have c1 : C [] MM HH [] (startD N65.length [.raw (.ref a)]) (L2.start N65 [.ref a]) _ H' := c.pure (u.frz mh hn1 ho hn2)
  have c := c1.set (v := .ref p') (d := .lst (keep (iD cs) (fun _ => true) absD)) (.lst upd_same (r.mono (same_new hn2))) 1
  rw [ek] at c
  clear c1 r
  generalize hcs : (cs.map fun i => if i < 0 then -i else i) = ks at c
  have hks : ks.length ≤ 48 := by rw [← hcs, List.length_map]; exact hl48
  have hpos : ∀ x ∈ ks, 0 ≤ x := by
    rw [← hcs]
    intro x hx
    obtain ⟨y, _, rfl⟩ := List.mem_map.mp hx
    split <;> omega
  refine b_cons (k_set fm 3 c w_int (fun _ => rfl) fun σ M H c => ?_)
  refine b_cons (k_forB fm (G := Int) (fun _ b => 0 ≤ b ∧ b < 2147483647) (fun _ => []) (fun b => [some (.raw (.ref a)), some (.lst (iD ks)), none, some (.int b)]) 16001 (f1 2) c (i_sq fm (w_nm 1 (fun _ => rfl) rfl) qL) ⟨by decide, by decide⟩ rfl (fun _ _ _ σ M H c => c) (fun i d h => (g_name fm 2 (fun _ => rfl))) (fun M1 H1 lf i d b σ M H hi hP c D1 e1 e2 kn => ?_) (fun b σ M H hP c => ?_) (fun _ => passes_of rfl))
  · obtain ⟨x, hx, rfl⟩ := iD_get hi
    obtain ⟨p1, p2⟩ := hP
    refine b_one (k_set fm 3 c (w_mod (w_int1 fm B (w_addI fm (w_addI fm (w_mulI fm (w_nm 3 (fun _ => rfl) rfl) w_int (.inl ⟨by omega, by omega⟩)) (w_mod (w_nm 2 (fun _ => rfl) rfl) w_int (by omega))) w_int)) w_int (by omega)) (fun _ => rfl) fun σ M H c => ?_)
    exact kn _ _ _ _ ⟨Int.emod_nonneg _ (by decide), Int.emod_lt_of_pos _ (by decide)⟩ (c.forget 2)
  · obtain ⟨p1, p2⟩ := hP
    refine b_one (k_retX c (x_lstX (xa_x (EN.xn (n_rev (EN.e (n_lc fm [("_law_cell", 2)] (blkOk_by (sc := defScope s65) (by decide +kernel)) (fun _ => rfl) bigD (fun d => d) (f1 2) (i_sq fm (w_nm 1 (fun _ => rfl) rfl) qL) (by rw [iD_len]; omega) (fun i d h => (cw_name (Fam.blk fm) 2 (fun _ => rfl) (by decide))) (fun i d h => ?_) (fun i d h hq => (w_nm 2 (fun _ => rfl) rfl)))) fm)) (fun x o _ => a_cons (w_nm 3 (fun _ => rfl) rfl) a_nil)) (fun ds o ⟨x, e, _⟩ => by rw [e]; show 2 ≤ 100000; decide)) ?_)
    · obtain ⟨x, hx, rfl⟩ := iD_get h
      exact ts_one (t_cmp (w_nm 2 (fun _ => rfl) rfl) (w_pow w_int w_int ⟨by decide, by decide, by decide⟩) cm_ge)
    · rintro v d o M H ⟨a, ds, o1, rfl, ⟨x, rfl, l, rfl, rfl⟩, rfl⟩ c r
      rw [keep_iD] at c
      have er : (iD (ks.filter fun i => bigD (.int i))).reverse = iD (ks.filter fun i => bigD (.int i)).reverse := by unfold iD; rw [List.map_reverse]
      rw [er] at c
      refine q v _ _ _ _ M H ⟨⟨a, l, b, (ks.filter fun i => bigD (.int i)).reverse⟩, ⟨p1, p2, ?_, ?_⟩, rfl, rfl⟩ c r
      · show (ks.filter _).reverse.length ≤ 48
        rw [List.length_reverse]
        exact Nat.le_trans (List.length_filter_le _ _) hks
      · intro x hx
        exact hpos x (List.mem_filter.mp (List.mem_reverse.mp hx)).1
/-! ### any -/
theorem py_iD : ∀ l : List Int, Pys (iD l) (l.map PyData.int)
  | [] => .nil
  | i :: l => .cons (.int i) (py_iD l)
theorem eqv_nil (l : List Int) : PyData.eqv (.list (l.map PyData.int)) (.list []) = decide (l = []) := by
  cases l with
  | nil => rfl
  | cons x l => rfl
abbrev dlE (g : Dl) : D := .lst [.lst (iD g.cs), .int g.b]
theorem Dl.view {g : Dl} {ρ : Ev} (h : ρ[0]? = some (some (.ref g.a))) : VwE g.own ρ (ρ.set 0 (some (dlE g))) := .set (.same ρ) h (.l (k := 0) rfl (.cons (.l (k := 1) rfl (.same _)) (.same _))) h
theorem iD_last {l : List Int} (h : l ≠ []) : (iD l)[(iD l).length - 1]? = some (.int (l.getLast h)) := by
  rw [iD_len]
  refine iD_at ?_
  rw [List.getLast_eq_getElem]
  exact List.getElem?_eq_getElem _
theorem iD_neg1 {l : List Int} (h : l ≠ []) : atI (iD l) (-1) = some (.int (l.getLast h)) := by
  have hp : 0 < l.length := List.length_pos_iff.mpr h
  have e := iD_last h
  unfold atI ixN
  rw [if_neg (by decide), if_pos (by rw [iD_len]; omega)]
  rw [iD_len] at e ⊢
  have e2 : ((-1 : Int) + (l.length : Nat)).toNat = l.length - 1 := by omega
  simp only [e2]
  exact e
theorem iD_drop {l : List Int} : (iD l).dropLast = iD l.dropLast := by unfold iD; rw [List.map_dropLast]
abbrev PreAny (g : Dl × Nat) (ds : List D) (o : Own) : Prop := ds = [.ref g.1.a, .int (g.2 : Int)] ∧ o = g.1.own ∧ DlOk g.1 ∧ 1 ≤ g.2 ∧ g.2 < 1073741824
abbrev PostAny (g : Dl × Nat) (d : D) (o : Own) : Prop := ∃ (v : Nat) (g' : Dl), v < g.2 ∧ d = .int (v : Int) ∧ DlOk g' ∧ g'.a = g.1.a ∧ g'.l = g.1.l ∧ o = g'.own
theorem nat_mod {x : Int} {m : Nat} (hm : 1 ≤ m) : ∃ v : Nat, v < m ∧ x % (m : Int) = (v : Int) := by
  have h1 := Int.emod_nonneg x (show (m : Int) ≠ 0 by omega)
  have h2 := Int.emod_lt_of_pos x (show (0 : Int) < m by omega)
  exact ⟨(x % (m : Int)).toNat, by omega, by omega⟩
abbrev s66 : Stmt := top 66
theorem sc66 : FnScope ["_law_deal", "_law_bound", "_law_rest"] ["_law_deal", "_law_bound"] (defScope s66) := ⟨rfl, rfl, rfl, by decide +kernel, rfl, by decide +kernel, by decide +kernel⟩
include B in
theorem ok66 {f : Addr} {fd : FuncData} (F : Df K mg "_law_any" s66 f fd) : Cal P wd K mg base "_law_any" 1 ["_law_deal", "_law_bound"] (spN PreAny PostAny) := by
  refine ⟨f, fd, fn_new F.F sc66 (fun g ds o ⟨e, _⟩ => by rw [e]; rfl) ?_, F.g, F.F.kp, F.F.binds fun _ _ _ _ _ _ us hl => match us, hl with | [_, _], _ => rfl⟩
  rintro cdv A outer s H Er fm ⟨⟨a, l, b, cs⟩, m⟩ ds own ⟨rfl, rfl, ok, m1, m2⟩ M0 H0 σ D c q hn
  obtain ⟨b0, b1, hl, hpos⟩ := ok
  simp only at b0 b1 hl hpos m1 m2 c
  refine b_cons (k_while (G := List Int) (fun cs => cs.length ≤ 48 ∧ ∀ x ∈ cs, 0 ≤ x) (fun cs => cs.length) (fun cs => Dl.own ⟨a, l, b, cs⟩) (fun _ => [some (.ref a), some (.int (m : Int)), none]) cs (fun cs => !decide (cs = []) && decide (cs.getLast? = some 0)) c ⟨hl, hpos⟩ rfl (fun c => c) (fun cs hP => ?_) (fun cs σ M H hP hb c D1 e1 kn => ?_) (fun cs σ M H hP hb c => ?_) (fun _ => passes_of rfl))
  · refine et_see (ρ' := [some (dlE ⟨a, l, b, cs⟩), some (.int (m : Int)), none]) (Dl.view rfl) ?_
    refine et_eq (t_pw (v_and (t_cmp (w_ix fm (w_nm 0 (fun _ => rfl) rfl) w_int qL rfl) (w_lst a_nil) (cm_neP fm (.lst (py_iD cs)) (.lst .nil) (PySem.W.ke_shaped_ints cs) (by decide +kernel))) fun h1 => (v_and1 (g := decide (cs.getLast? = some 0)) ?_))) ?_
    · rw [eqv_nil] at h1
      have hne : cs ≠ [] := by simpa using h1
      refine et_eq (t_cmp (w_ix fm (w_ix fm (w_nm 0 (fun _ => rfl) rfl) w_int qL rfl) (w_neg w_int) qL (iD_neg1 hne)) w_int cm_eqS) ?_
      rw [List.getLast?_eq_some_getLast hne]
      refine decide_eq_decide.mpr ?_
      constructor
      · intro z; rw [V.int.inj z]
      · intro z; rw [Option.some.inj z]
    · rw [eqv_nil]
  · have hb : (!decide (cs = []) && decide (cs.getLast? = some 0)) = true := hb
    have hne : cs ≠ [] := by
      rintro rfl
      simp at hb
    obtain ⟨p1, p2⟩ := hP
    refine b_one (k_drop c (x_pop (kk := 1) fm (w_ixO (kk := 0) fm (w_nm 0 (fun _ => rfl) rfl) w_int rfl rfl) rfl (iD_last hne)) ?_)
    rintro _ _ M H ⟨rfl, rfl⟩ c
    have e : (Dl.own ⟨a, l, b, cs⟩).set 1 (l, .l (iD cs).dropLast) = Dl.own ⟨a, l, b, cs.dropLast⟩ := by rw [iD_drop]; rfl
    have c := c.perm (List.Perm.of_eq e)
    refine kn cs.dropLast _ _ _ ⟨by rw [List.length_dropLast]; omega, fun x hx => p2 x (List.dropLast_subset _ hx)⟩ ?_ c
    rw [List.length_dropLast]
    have := List.length_pos_iff.mpr hne
    omega
  · obtain ⟨p1, p2⟩ := hP
    refine b_cons (k_if c (g := !decide (cs = [])) (et_see (ρ' := [some (dlE ⟨a, l, b, cs⟩), some (.int (m : Int)), none]) (Dl.view rfl) (et_eq (t_cmp (w_ix fm (w_nm 0 (fun _ => rfl) rfl) w_int qL rfl) (w_lst a_nil) (cm_neP fm (.lst (py_iD cs)) (.lst .nil) (PySem.W.ke_shaped_ints cs) (by decide +kernel))) (by rw [eqv_nil]))) (fun h M H c => ?_) fun h M H c => ?_)
    · have hne : cs ≠ [] := by simpa using h
      refine b_cons (k_setX fm 2 c (x_int1 fm B (x_pop (kk := 1) fm (w_ixO (kk := 0) fm (w_nm 0 (fun _ => rfl) rfl) w_int rfl rfl) rfl (iD_last hne)) (fun d o ⟨e, _⟩ => ⟨_, e⟩)) (fun _ => rfl) ?_)
      rintro _ _ σ M H ⟨rfl, rfl⟩ c
      have e : (Dl.own ⟨a, l, b, cs⟩).set 1 (l, .l (iD cs).dropLast) = Dl.own ⟨a, l, b, cs.dropLast⟩ := by rw [iD_drop]; rfl
      have c := c.perm (List.Perm.of_eq e)
      have hlast : 0 ≤ cs.getLast hne := p2 _ (List.getLast_mem hne)
      refine b_cons (k_app fm c (w_ixO (kk := 0) fm (w_nm 0 (fun _ => rfl) rfl) w_int rfl rfl) (kk := 1) rfl (w_div (w_nm 2 (fun _ => rfl) rfl) (w_nm 1 (fun _ => rfl) rfl) ⟨by omega, by omega⟩).x ?_)
      rintro _ _ ⟨rfl, rfl⟩
      refine ⟨1, iD cs.dropLast, rfl, by rw [iD_len, List.length_dropLast]; omega, fun M H c => ?_⟩
      obtain ⟨v, hv, ev⟩ := nat_mod (x := cs.getLast hne) m1
      refine b_one (k_ret c (E.eq (w_mod (w_int1 fm B (w_nm 2 (fun _ => rfl) rfl)) (w_nm 1 (fun _ => rfl) rfl) (by omega)) (congrArg Ly.D.int ev)) fun u M H c r => q u _ _ _ σ M H ⟨v, ⟨a, l, b, cs.dropLast ++ [cs.getLast hne / (m : Int)]⟩, hv, rfl, ⟨b0, b1, ?_, ?_⟩, rfl, rfl, ?_⟩ c r)
      · show (cs.dropLast ++ [_]).length ≤ 48
        rw [List.length_append, List.length_dropLast]
        have := List.length_pos_iff.mpr hne
        show cs.length - 1 + 1 ≤ 48
        omega
      · intro x hx
        obtain hx | hx := List.mem_append.mp hx
        · exact p2 x (List.dropLast_subset _ hx)
        · rw [List.mem_singleton.mp hx]
          exact Int.ediv_nonneg hlast (by omega)
      · show [_, (l, OC.l (iD cs.dropLast ++ [Ly.D.int (cs.getLast hne / (m : Int))]))] = _
        unfold Dl.own iD
        rw [List.map_append]
        rfl
    · refine b_nil ?_
      refine b_cons (k_itemX fm (x := (1 : Int)) (j := 1) (ad := a) c (w_mod (w_int1 fm B (w_addI fm (w_mulI fm (w_ixO (kk := 0) (i := 1) fm (w_nm 0 (fun _ => rfl) rfl) w_int rfl rfl) w_int (.inl ⟨by show -(2 ^ 64) < b; omega, by show b < 2 ^ 64; omega⟩)) w_int)) w_int (by omega)).x ?_ ?_ ?_)
      · rintro d o ⟨rfl, rfl⟩; exact w_nm 0 (fun _ => rfl) rfl
      · rintro d o ⟨rfl, rfl⟩; exact w_int
      rintro d o ⟨rfl, rfl⟩
      refine ⟨0, [.ref l, .int b], rfl, rfl, fun M H c => ?_⟩
      have hb0 := Int.emod_nonneg (b * 48271 + 61) (show (2147483647 : Int) ≠ 0 by decide)
      have hb1 := Int.emod_lt_of_pos (b * 48271 + 61) (show (0 : Int) < 2147483647 by decide)
      obtain ⟨v, hv, ev⟩ := nat_mod (x := (b * 48271 + 61) % 2147483647 / 64) m1
      exact b_one (k_ret c (E.eq (w_mod (w_int1 fm B (w_div (w_ixO (kk := 0) (i := 1) fm (w_nm 0 (fun _ => rfl) rfl) w_int rfl rfl) w_int ⟨by omega, by omega⟩)) (w_nm 1 (fun _ => rfl) rfl) (by omega)) (congrArg Ly.D.int ev)) fun u M H c r => q u _ _ _ σ M H ⟨v, ⟨a, l, (b * 48271 + 61) % 2147483647, cs⟩, hv, rfl, ⟨hb0, hb1, p1, p2⟩, rfl, rfl, rfl⟩ c r)
end
end Hb
/-! Ly12: what changes cells within a kept wish: I of the cells before and behind, P of what comes. -/
namespace Ly
open PySem L2 Mc
def V_ (I : Own → Prop) (ρ : Ev) (te : TE) (P : D → Prop) : Prop := ∀ own, I own → X own ρ te (fun d o => P d ∧ I o)
def VT (I : Own → Prop) (ρ : Ev) (tt : TT) (P : Bool → Prop) : Prop := ∀ own, I own → XT own ρ tt (fun b o => P b ∧ I o)
def VA (I : Own → Prop) (ρ : Ev) (ta : TA) (P : List D → Prop) : Prop := ∀ own, I own → XA own ρ ta (fun ds o => P ds ∧ I o)
/-- whole numbers -/
abbrev VI (I : Own → Prop) (ρ : Ev) (te : TE) (P : Int → Prop) : Prop := V_ I ρ te (fun d => ∃ i, d = .int i ∧ P i)
section
variable {ι : Type} {Z : ι → Cx} {own : Own} {ρ : Ev} {P : Program} {wd : World} {K : PySem.W.Frag} {mg : Str → Option Value} {base : Heap} {N : List Str} {k : Nat} (fm : Fam Z P wd K mg base N k)
variable {a b c e o i : Expr} {es : List Expr} {x y z d : D} {ds xs ys : List D} {pos p p2 pf apos cpos : Pos} {nm : Str} {ad : Addr} {kk : Nat} {I : Own → Prop}
variable {Pa Pb Pc : D → Prop} {Qa Qb : Int → Prop} {Ta Tb : Bool → Prop} {Ra : List D → Prop}
variable (B : Blt mg)
theorem V_.of (h : ∀ own, I own → E own ρ (wE Z e) d) : V_ I ρ (wE Z e) (fun x => x = d) := fun own hi F M0 H0 σ M H c Q q => (h own hi).x F M0 H0 σ M H c Q fun v d' o M' H' ⟨e1, e2⟩ c' s r => q v d' o M' H' ⟨e1, e2 ▸ hi⟩ c' s r
theorem V_.imp {t : TE} (h : V_ I ρ t Pa) (k : ∀ d, Pa d → Pb d) : V_ I ρ t Pb := fun own hi F M0 H0 σ M H c Q q => h own hi F M0 H0 σ M H c Q fun v d o M' H' ⟨e1, e2⟩ c' s r => q v d o M' H' ⟨k d e1, e2⟩ c' s r
theorem VI.of {n : Int} (h : ∀ own, I own → E own ρ (wE Z e) (.int n)) : VI I ρ (wE Z e) (fun i => i = n) := (V_.of h).imp fun d e => ⟨n, e, rfl⟩
theorem VI.to {t : TE} (h : VI I ρ t Qa) (k : ∀ i, Qa i → Qb i) : VI I ρ t Qb := V_.imp h fun d ⟨i, e, q⟩ => ⟨i, e, k i q⟩
theorem VI.ofV {t : TE} (h : V_ I ρ t Pa) (k : ∀ d, Pa d → ∃ i, d = .int i ∧ Qa i) : VI I ρ t Qa := V_.imp h k
/-- an operation of whole numbers -/
theorem v_op {op : Operator} {r : R2} {g : Int → Int → Int} (hop : ∀ n, OpR (Z n) (binaryOp op) r) (ha : VI I ρ (wE Z a) Qa) (hb : VI I ρ (wE Z b) Qb) (hr : ∀ i j, Qa i → Qb j → ∀ (H : Hp) (Q : VK), Q (.int (g i j)) H → r (.int i) (.int j) H Q) :
    VI I ρ (wE Z (.BinOp a op b pos)) (fun k => ∃ i j, Qa i ∧ Qb j ∧ k = g i j) := fun own hi => X.wz (t := tOp r (wE Z a) (wE Z b)) (fun F M0 H0 σ M H c Q q => ha own hi F M0 H0 σ M H c _ fun v d o M1 H1 ⟨⟨i, e1, q1⟩, i1⟩ c1 s1 r1 => hb o i1 F M0 H0 σ M1 H1 c1 _ fun w d' o' M2 H2 ⟨⟨j, e2, q2⟩, i2⟩ c2 s2 r2 => by
      subst e1 e2
      rw [r1.raw_eq, r2.raw_eq]
      exact hr i j q1 q2 H2 Q (q _ _ o' M2 H2 ⟨⟨_, rfl, i, j, q1, q2, rfl⟩, i2⟩ c2 (s1.trans s2) (.raw _))) fun n => pe_op (hop n) (pe_w n) (pe_w n)
theorem v_add (ha : VI I ρ (wE Z a) Qa) (hb : VI I ρ (wE Z b) Qb) : VI I ρ (wE Z (.BinOp a .Add b pos)) (fun k => ∃ i j, Qa i ∧ Qb j ∧ k = i + j) := v_op (g := fun i j => i + j) (fun _ => op_add) ha hb fun i j _ _ H Q q => ⟨i, j, rfl, rfl, q⟩
theorem v_sub (ha : VI I ρ (wE Z a) Qa) (hb : VI I ρ (wE Z b) Qb) : VI I ρ (wE Z (.BinOp a .Sub b pos)) (fun k => ∃ i j, Qa i ∧ Qb j ∧ k = i - j) := v_op (g := fun i j => i - j) (fun _ => op_sub) ha hb fun i j _ _ H Q q => ⟨i, j, rfl, rfl, q⟩
theorem v_mod (ha : VI I ρ (wE Z a) Qa) (hb : VI I ρ (wE Z b) Qb) (h : ∀ j, Qb j → 0 < j) : VI I ρ (wE Z (.BinOp a .Mod b pos)) (fun k => ∃ i j, Qa i ∧ Qb j ∧ k = i % j) := v_op (g := fun i j => i % j) (fun _ => op_mod) ha hb fun i j _ q2 H Q q => ⟨i, j, rfl, rfl, h j q2, q⟩
include fm B in
theorem v_int1 (ha : VI I ρ (wE Z a) Qa) (hg : ∀ n, Gl (Z n) "int" := by intro _; rfl) (hs : ∀ n, starEach (a :: []) (Z n).env = (false, eval a (Z n).env) :: starEach [] (Z n).env := by intro _; rfl) (hpl : ∀ n, (backTo pos (starEach [] (Z n).env)).any (·.1) = false := by intro _; rfl) :
    VI I ρ (wE Z (.Call (.Name "int" pf) [a] [] pos)) Qa := fun own hi => x_int1 fm B (ha own hi) (fun d o ⟨⟨i, e, _⟩, _⟩ => ⟨i, e⟩) hg hs hpl
/-- a comparison of whole numbers -/
theorem vt_cmp {op : CmpOp} {g : Int → Int → Bool} (ha : VI I ρ (wE Z a) Qa) (hb : VI I ρ (wE Z b) Qb) (h : ∃ r : R2, (∀ n, OpR (Z n) (compareOp op) r) ∧ ∀ i j (H : Hp) (Q : VK), Q (.bl (g i j)) H → r (.int i) (.int j) H Q) (hm : behindInMarks op b = false := by first | exact nomark _ | with_unfolding_all rfl) :
    V_ I ρ (wE Z (.Compare a [op] [b] pos)) (fun d => ∃ i j, Qa i ∧ Qb j ∧ d = .bl (g i j)) ∧ VT I ρ (wT Z (.Compare a [op] [b] pos)) (fun t => ∃ i j, Qa i ∧ Qb j ∧ t = g i j) := by
  obtain ⟨r, h1, h2⟩ := h
  have key : V_ I ρ (tOp r (wE Z a) (wE Z b)) (fun d => ∃ i j, Qa i ∧ Qb j ∧ d = .bl (g i j)) := fun own hi F M0 H0 σ M H c Q q => ha own hi F M0 H0 σ M H c _ fun v d o M1 H1 ⟨⟨i, e1, q1⟩, i1⟩ c1 s1 r1 => hb o i1 F M0 H0 σ M1 H1 c1 _ fun w d' o' M2 H2 ⟨⟨j, e2, q2⟩, i2⟩ c2 s2 r2 => by
    subst e1 e2
    rw [r1.raw_eq, r2.raw_eq]
    exact h2 i j H2 Q (q _ _ o' M2 H2 ⟨⟨i, j, q1, q2, rfl⟩, i2⟩ c2 (s1.trans s2) (.raw _))
  refine ⟨fun own hi => X.wz (key own hi) fun n => pe_cmpR (h1 n) (pe_w n) (pe_w n) hm, fun own hi => XT.wz (t := tTest (tOp r (wE Z a) (wE Z b))) (xt_test (X.imp (key own hi) fun d o ⟨⟨i, j, q1, q2, e⟩, i2⟩ => ⟨g i j, e, ⟨i, j, q1, q2, rfl⟩, i2⟩)) fun n => pt_cmpR (h1 n) (pe_w n) (pe_w n) hm⟩
theorem cI_eq : ∃ r : R2, (∀ n, OpR (Z n) (compareOp .Eq) r) ∧ ∀ i j (H : Hp) (Q : VK), Q (.bl (decide (i = j))) H → r (.int i) (.int j) H Q := ⟨_, fun _ => op_eq, fun i j H Q q => ⟨rfl, by
  have e : decide (V.int i = V.int j) = decide (i = j) := decide_eq_decide.mpr ⟨fun z => V.int.inj z, fun z => by rw [z]⟩
  rw [e]; exact q⟩⟩
theorem cI_gt : ∃ r : R2, (∀ n, OpR (Z n) (compareOp .Gt) r) ∧ ∀ i j (H : Hp) (Q : VK), Q (.bl (decide (j < i))) H → r (.int i) (.int j) H Q := ⟨_, fun _ => op_gt, fun i j H Q q => ⟨i, j, rfl, rfl, q⟩⟩
theorem v_if (h : VT I ρ (wT Z c) Ta) (h1 : Ta true → V_ I ρ (wE Z a) Pa) (h2 : Ta false → V_ I ρ (wE Z b) Pa) : V_ I ρ (wE Z (.IfExp c a b pos)) Pa := fun own hi => X.wz (t := tIf (wT Z c) (wE Z a) (wE Z b)) (x_if (h own hi) (fun o ⟨t, i1⟩ => h1 t o i1) (fun o ⟨t, i1⟩ => h2 t o i1)) fun n => pe_ifExp (pt_w n) (pe_w n) (pe_w n)
theorem vt_of {g : Bool} (h : ∀ own, I own → ET own ρ (wT Z c) g) : VT I ρ (wT Z c) (fun t => t = g) := fun own hi F M0 H0 σ M H cc Q q => h own hi σ M H cc.sd _ fun M1 H1 u1 => q g own M1 H1 ⟨rfl, hi⟩ (cc.pure u1) u1.mm
/-- t or u, as a test -/
theorem vt_or (h1 : VT I ρ (wT Z a) Ta) (h2 : VT I ρ (wT Z b) Tb) : VT I ρ (wT Z (.BoolOp .Or [a, b] pos)) (fun _ => True) := fun own hi =>
  XT.wz (t := tOr (wT Z a) (wT Z b)) (xt_or (Pb := fun _ _ => True) (h1 own hi) (fun o ⟨_, i1⟩ F M0 H0 σ M H c Q q => h2 o i1 F M0 H0 σ M H c Q fun b' o' M' H' ⟨_, i2⟩ c' s => q b' o' M' H' ⟨trivial, i2⟩ c' s) (fun o ⟨_, i1⟩ => ⟨trivial, i1⟩)) fun n => (pw_or (pt_w n) (pw_or1 (pt_w n))).pt
theorem va_nil : VA I ρ (wA Z []) (fun ds => ds = []) := fun own hi F M0 H0 σ M H c Q q => xa_nl F M0 H0 σ M H c Q fun vs ds o M' H' ⟨e1, e2⟩ c' s r => q vs ds o M' H' ⟨e1, e2 ▸ hi⟩ c' s r
theorem va_cons (h : V_ I ρ (wE Z e) Pa) (hr : VA I ρ (wA Z es) Ra) (hs : ∀ n, starEach (e :: es) (Z n).env = (false, eval e (Z n).env) :: starEach es (Z n).env := by intro _; rfl) : VA I ρ (wA Z (e :: es)) (fun ds => ∃ x r, ds = x :: r ∧ Pa x ∧ Ra r) := fun own hi F M0 H0 σ M H c Q q =>
  xa_cn (Pr := fun x r o => Ra r ∧ I o) (h own hi) (fun x o ⟨_, i1⟩ => hr o i1) hs F M0 H0 σ M H c Q fun vs ds o M' H' ⟨x, r, o1, e1, ⟨p1, _⟩, p2, i2⟩ c' s r' => q vs ds o M' H' ⟨⟨x, r, e1, p1, p2⟩, i2⟩ c' s r'
theorem v_tup {n : Nat} (h : VA I ρ (wA Z es) Ra) (hl : ∀ ds, Ra ds → ds.length ≤ 100000) : V_ I ρ (wE Z (.Tuple es n pos)) (fun d => ∃ ds, d = .tup ds ∧ Ra ds) := fun own hi => X.wz (t := tTup (wA Z es)) (X.imp (x_tup (h own hi) fun ds o ⟨p, _⟩ => hl ds p) fun d o ⟨ds, e, p, i1⟩ => ⟨⟨ds, e, p⟩, i1⟩) fun n => pe_tup (pa_w n)
theorem v_lst (h : VA I ρ (wA Z es) Ra) (hl : ∀ ds, Ra ds → ds.length ≤ 100000) : V_ I ρ (wE Z (.List es pos)) (fun d => ∃ ds, d = .lst ds ∧ Ra ds) := fun own hi => X.wz (t := tLst (wA Z es)) (X.imp (x_lst (h own hi) fun ds o ⟨p, _⟩ => hl ds p) fun d o ⟨ds, e, p, i1⟩ => ⟨⟨ds, e, p⟩, i1⟩) fun n => pe_lst (pa_w n)
include fm in
/-- xs[i], xs a list that is let go -/
theorem v_ix (ha : ∀ own, I own → E own ρ (wE Z a) (.lst ds)) (hb : VI I ρ (wE Z b) Qb) (h : ∀ j, Qb j → ∃ z, atI ds j = some z ∧ Pa z) (hs : PlainIx b := by intro _ _; rfl) : V_ I ρ (wE Z (.Subscript a b pos)) Pa := fun own hi =>
  X.wz (t := tOp (rIxL K) (wE Z a) (wE Z b)) (fun F M0 H0 σ M H c Q q => ha own hi σ M H c.sd _ fun v M1 H1 u1 r1 => hb own hi F M0 H0 σ M1 H1 (c.pure u1) _ fun w d o M2 H2 ⟨⟨j, e, qj⟩, i2⟩ c2 s2 r2 => by
    subst e
    obtain ⟨z, hz, pz⟩ := h j qj
    obtain ⟨t, vs, rfl, ht, rs⟩ := (r1.mono s2).lst_inv
    obtain ⟨w', h1, h2⟩ := atI_vs rs hz
    exact ⟨t, vs, j, w', rfl, r2.raw_eq, .of (c2.sd.mh _ _ ht), h1, q _ _ o M2 H2 ⟨pz, i2⟩ c2 (u1.mm.trans s2) h2⟩) fun n => pe_ix (fm.K n ▸ ix_list) (pe_w n) (pe_w n) hs
end
end Ly
/-! Ly13: comprehensions whose elements are drawn. -/
namespace Ly
open PySem L2 Mc
section
variable {own : Own} {ρ : Ev} {I : Own → Prop}
theorem x_lcV {wi : TI} {g : TG} {tt : TT} {te : TE} {vs : List Nat} {ds : List Ly.D} (Pe : Ly.D → Ly.D → Prop) (f : Ly.D → Ev → Ev) (hI : I own) (hi : EI own ρ wi ds) (hl : ds.length ≤ 100000)
    (hg : ∀ (i : Nat) (d : Ly.D), ds[i]? = some d → EW g vs d (f d)) (ht : ∀ (o : Own) (i : Nat) (d : Ly.D), ds[i]? = some d → ET o (f d (wipeD ρ vs)) tt true) (he : ∀ (i : Nat) (d : Ly.D), ds[i]? = some d → V_ I (f d (wipeD ρ vs)) te (Pe d)) :
    X own ρ (tLc wi g tt te vs) (fun d o => (∃ es, d = .lst es ∧ es.length = ds.length ∧ ∀ (j : Nat) (x y : Ly.D), ds[j]? = some x → es[j]? = some y → Pe x y) ∧ I o) := fun F M0 H0 σ M H c Q q =>
  hi σ M H c.sd _ fun J M1 H1 u w' D hD => by
    have c1 := c.pure u
    have hDF : D ∉ F := fun hm => by
      obtain ⟨x, hx⟩ := c1.inF D hm
      obtain ⟨_, o, ho, _⟩ := c1.sd.ow.at_ _ hx
      rw [hD] at ho; cases ho
    have wk : Walk J ds.length (fun H' => ∃ M', Same M1 M' ∧ Same M' H') (fun i H' x H'' => ∀ M', Same M1 M' → Same M' H' → ∀ d, ds[i]? = some d → ∃ M'', Pu M' H' M'' H'' ∧ Dv M'' x d) :=
      ⟨fun i H' hi ⟨M', s1, s2⟩ => w'.goes i M' H' hi s1 s2, fun H' ⟨M', s1, s2⟩ => w'.stops M' H' s1 s2, fun i H' x H'' _ _ y M' s1 s2 d e => w'.yields i x d M' H' H'' e s1 s2 y⟩
    have c0 : C F M0 H0 (own ++ [(D, .l [])]) ρ σ M1 (upd H1 D (.lst [])) := (c1.new (Pu.newH u.mh hD) hD (same_back u.mh hD) upd_same (cl := .l []) ⟨[], rfl, .nil⟩).perm (List.perm_append_comm (l₁ := [(D, OC.l [])]) (l₂ := own))
    refine lc_it wk (fun i H' => ∃ M' o es, I o ∧ C F M0 H0 (o ++ [(D, .l es)]) ρ σ M' H' ∧ Same M1 M' ∧ es.length = i ∧ ∀ (j : Nat) (x y : Ly.D), ds[j]? = some x → es[j]? = some y → Pe x y) ⟨M1, own, [], hI, c0, Same.refl _, rfl, fun j x y _ e => by simp at e⟩
      (fun i H' _ ⟨M', o, es, _, c', s, _⟩ => ⟨M', s, c'.sd.mh⟩) (fun i x H' H'' hi ⟨M', o, es, hIo, c', s', l', hP⟩ y => ?_) (fun H' ⟨M', o, es, hIo, c', s', l', hP⟩ => ?_)
    · have ed : ds[i]? = some ds[i] := by simp [hi]
      obtain ⟨M2, u2, r2⟩ := y M' s' c'.sd.mh _ ed
      have c2 := c'.pure u2
      have s2 : Sd o (wipeD ρ vs) (wipe σ vs) M2 H'' := ⟨u2.mh, c2.sd.env.wipe vs, c2.sd.ow.left⟩
      refine hg i _ ed o (wipeD ρ vs) (wipe σ vs) M2 H'' x s2 r2 _ fun σ2 en hw => ⟨hw.trans (by rw [wipe_wipe vs vs fun _ h => h]), ?_⟩
      have s3 : Sd o (f ds[i] (wipeD ρ vs)) σ2 M2 H'' := ⟨s2.mh, en, s2.ow⟩
      refine ht o i _ ed σ2 M2 H'' s3 _ fun M3 H3 u3 => ?_
      rw [if_pos rfl]
      have c3 := c2.pure u3
      have s4 := s3.pure u3
      have cI : C (o.map (·.1)) M3 H3 o (f ds[i] (wipeD ρ vs)) σ2 M3 H3 := ⟨s4, .refl, (fun p hp => .inl (List.mem_map_of_mem hp)), (fun a ha => by
        obtain ⟨p, hp, rfl⟩ := List.mem_map.mp ha
        exact ⟨p.2, hp⟩)⟩
      refine he i _ ed o hIo _ M3 H3 σ2 M3 H3 cI _ fun v e o' M4 H4 ⟨pe, hIo'⟩ c4 s5 r4 => ?_
      have c5 : C F M0 H0 (o' ++ [(D, .l es)]) ρ σ M4 H4 := c3.frame c4.po
      have hk : (o' ++ [(D, OC.l es)])[o'.length]? = some (D, .l es) := by rw [List.getElem?_append_right (Nat.le_refl _), Nat.sub_self]; rfl
      obtain ⟨_, ob, hob, us, rfl, ru⟩ := c5.sd.ow.get hk
      have hus : us.length = i := by rw [ru.length, l']
      refine ⟨us, hob, by rw [hus, sizeLine_eq]; omega, M4, o', es ++ [e], hIo', ?_, s'.trans ((u2.mm.trans u3.mm).trans s5), by rw [List.length_append, l']; rfl, fun j x y e1 e2 => ?_⟩
      · have c6 := c5.put hk (cl' := .l (es ++ [e])) (o' := .lst (us ++ [v])) ⟨_, rfl, ru.append (.cons r4 .nil)⟩
        rw [List.set_append_right _ _ (Nat.le_refl _), Nat.sub_self] at c6
        exact c6
      · rcases Nat.lt_trichotomy j es.length with h | h | h
        · rw [List.getElem?_append_left h] at e2
          exact hP j x y e1 e2
        · subst h
          rw [List.getElem?_append_right (Nat.le_refl _), Nat.sub_self] at e2
          have e2 : e = y := by simpa using e2
          rw [l', ed] at e1
          cases e1
          exact e2 ▸ pe
        · rw [List.getElem?_eq_none (by rw [List.length_append]; show es.length + 1 ≤ j; omega)] at e2
          cases e2
    · have c6 := c'.perm (o2 := (D, .l es) :: o) List.perm_append_comm
      obtain ⟨M5, c7, s7, r7⟩ := C.frz c6 hDF rfl
      exact q (.ref D) (.lst es) o M5 H' ⟨⟨es, rfl, l', hP⟩, hIo⟩ c7 (u.mm.trans (s'.trans s7)) r7
end
section
variable {ι : Type} {Z : ι → Cx} {own : Own} {ρ : Ev} {P : Program} {wd : World} {K : PySem.W.Frag} {mg : Str → Option Value} {base : Heap} {N : List Str} {k : Nat} (fm : Fam Z P wd K mg base N k)
variable {ds : List D} {pos : Pos} {I : Own → Prop} {tg : Expr}
include fm in
theorem v_lc {elt iter : Expr} {scope sc : Scope} (ow : List (Str × Nat)) (ok : BlkOk N sc scope ow) (hsc : ∀ n, (Z n).env.scope = sc) (Pe : Ly.D → Ly.D → Prop) (f : D → Ev → Ev) (hi : ∀ own, I own → EI own ρ (wI Z tg iter) ds) (hl : ds.length ≤ 100000)
    (hg : ∀ (i : Nat) (d : D), ds[i]? = some d → EW (wG (Zb Z scope) tg) (ow.map (·.2)) d (f d)) (he : ∀ (i : Nat) (d : D), ds[i]? = some d → V_ I (f d (wipeD ρ (ow.map (·.2)))) (wE (Zb Z scope) elt) (Pe d))
    (hs : ∀ n x, foldedSetIterable iter (Z n).env x = pure x := by intro _ _; rfl) : V_ I ρ (wE Z (.ListComp elt [⟨tg, iter, [], 0⟩] scope pos)) (fun d => ∃ es, d = .lst es ∧ es.length = ds.length ∧ ∀ (j : Nat) (x y : Ly.D), ds[j]? = some x → es[j]? = some y → Pe x y) := fun own hI =>
  X.wz (x_lcV Pe f hI (hi own hI) hl hg (fun _ _ _ _ => ts_nil) he) fun n => pe_lcT fm ok hsc hs n
end
end Ly
/-! Ly14: a, b = x, y of local names: no tuple is made. -/
namespace Ly
open PySem L2 Mc
section
variable {ι : Type} {Z : ι → Cx} {own : Own} {ρ : Ev} {P : Program} {wd : World} {K : PySem.W.Frag} {mg : Str → Option Value} {base : Heap} {N : List Str} {k : Nat} (fm : Fam Z P wd K mg base N k)
variable {a b c : Expr} {pos px py pz pt pt2 : Pos} {kt k2 : Nat} {nx ny nz : Str} {D : Ends} {F : List Addr} {M0 H0 M H : Hp} {σ : L2.St} {Pa : List Ly.D → Own → Prop}
include fm in
theorem k_par (i j : Nat) (c : C F M0 H0 own ρ σ M H) (h : XA own ρ (wA Z [a, b]) Pa) (hi : ∀ n, (Z n).N[i]? = some nx) (hj : ∀ n, (Z n).N[j]? = some ny) (hP : ∀ ds o, Pa ds o → ∃ x y, ds = [x, y] ∧ ∀ σ' M' H', C F M0 H0 o ((ρ.set i (some x)).set j (some y)) σ' M' H' → D.nx σ' H') (hij : i ≠ j := by decide)
    (hx : ∀ n, (Z n).env.scope.names.lookup nx = some .local := by intro _; rfl) (hy : ∀ n, (Z n).env.scope.names.lookup ny = some .local := by intro _; rfl) (hw : ∀ n, swappedStores [.Tuple [.Name nx px, .Name ny py] kt pt] (.Tuple [a, b] k2 pt2) (Z n).env = pure (some [nx, ny]) := by intro _; rfl) :
    wS Z (.Assign [.Tuple [.Name nx px, .Name ny py] kt pt] (.Tuple [a, b] k2 pt2) pos) D σ H :=
  ⟨tPar i j (wA Z [a, b]), fun n => ps_par (fm.calm n) (fm.N n ▸ fm.nd) (hi n) (hj n) hij (hx n) (hy n) (pa_w n) (hw n), h F M0 H0 σ M H c _ fun vs ds o M1 H1 pa c1 s1 r => by
    obtain ⟨x, y, rfl, kn⟩ := hP ds o pa
    cases r with
    | cons r1 r => cases r with
      | cons r2 r =>
        cases r
        exact ⟨_, _, rfl, kn _ M1 H1 (c1.env ((c1.sd.env.set r1 i).set r2 j))⟩⟩
include fm in
theorem k_par3 (i j l : Nat) {cc : Expr} (c : C F M0 H0 own ρ σ M H) (h : XA own ρ (wA Z [a, b, cc]) Pa) (hi : ∀ n, (Z n).N[i]? = some nx) (hj : ∀ n, (Z n).N[j]? = some ny) (hk : ∀ n, (Z n).N[l]? = some nz) (hP : ∀ ds o, Pa ds o → ∃ x y z, ds = [x, y, z] ∧ ∀ σ' M' H', C F M0 H0 o (((ρ.set i (some x)).set j (some y)).set l (some z)) σ' M' H' → D.nx σ' H') (hij : i ≠ j := by decide) (hil : i ≠ l := by decide) (hjl : j ≠ l := by decide)
    (hx : ∀ n, (Z n).env.scope.names.lookup nx = some .local := by intro _; rfl) (hy : ∀ n, (Z n).env.scope.names.lookup ny = some .local := by intro _; rfl) (hz : ∀ n, (Z n).env.scope.names.lookup nz = some .local := by intro _; rfl) (hw : ∀ n, swappedStores [.Tuple [.Name nx px, .Name ny py, .Name nz pz] kt pt] (.Tuple [a, b, cc] k2 pt2) (Z n).env = pure (some [nx, ny, nz]) := by intro _; rfl) :
    wS Z (.Assign [.Tuple [.Name nx px, .Name ny py, .Name nz pz] kt pt] (.Tuple [a, b, cc] k2 pt2) pos) D σ H :=
  ⟨tPar3 i j l (wA Z [a, b, cc]), fun n => ps_par3 (fm.calm n) (fm.N n ▸ fm.nd) (hi n) (hj n) (hk n) hij hil hjl (hx n) (hy n) (hz n) (pa_w n) (hw n), h F M0 H0 σ M H c _ fun vs ds o M1 H1 pa c1 s1 r => by
    obtain ⟨x, y, z, rfl, kn⟩ := hP ds o pa
    cases r with
    | cons r1 r => cases r with
      | cons r2 r => cases r with
        | cons r3 r =>
          cases r
          exact ⟨_, _, _, rfl, kn _ M1 H1 (c1.env (((c1.sd.env.set r1 i).set r2 j).set r3 l))⟩⟩
end
end Ly
/-! Df13: draws; one of some; steps drawn. -/
namespace Hb
open PySem L2 Mc Ly
theorem V_.run {I : Own → Prop} {ρ : Ev} {te : TE} {Pa : D → Prop} {own : Own} (h : V_ I ρ te Pa) (hi : I own) : X own ρ te (fun d o => Pa d ∧ I o) := h own hi
theorem VT.run {I : Own → Prop} {ρ : Ev} {te : TT} {Pa : Bool → Prop} {own : Own} (h : VT I ρ te Pa) (hi : I own) : XT own ρ te (fun d o => Pa d ∧ I o) := h own hi
theorem X.ofPerm {ρ : Ev} {te : TE} {Pq : D → Own → Prop} {own own' : Own} (h : X own ρ te Pq) (p : own'.Perm own) : X own' ρ te Pq := fun F M0 H0 σ M H c Q q => h F M0 H0 σ M H (c.perm p) Q q
section
variable {ι : Type} {Z : ι → Cx} {ρ : Ev} {I : Own → Prop} {a b : Expr} {pos : Pos} {Ta Tb : Bool → Prop}
theorem vt_or2 (h1 : VT I ρ (wT Z a) Ta) (h2 : VT I ρ (wT Z b) Tb) : VT I ρ (wT Z (.BoolOp .Or [a, b] pos)) (fun t => t = false → Ta false ∧ Tb false) := fun own hi =>
  XT.wz (t := tOr (wT Z a) (wT Z b)) (xt_or (Pb := fun _ _ => True) (h1 own hi) (fun o ⟨t1, i1⟩ F M0 H0 σ M H c Q q => h2 o i1 F M0 H0 σ M H c Q fun b' o' M' H' ⟨t2, i2⟩ c' s => q b' o' M' H' ⟨fun e => ⟨t1, e ▸ t2⟩, i2⟩ c' s) (fun o ⟨_, i1⟩ => ⟨fun e => (by cases e), i1⟩)) fun n => (pw_or (pt_w n) (pw_or1 (pt_w n))).pt
end
theorem py_pL : ∀ ts : List Tie, Pys (pL ts) (ts.map fun p => PyData.list [.int (p.1 : Int), .int (p.2 : Int)])
  | [] => .nil
  | p :: ts => .cons (.lst (.cons (.int _) (.cons (.int _) .nil))) (py_pL ts)
theorem shaped_pL (ts : List Tie) : SeqAt.shaped (.list (ts.map fun p => PyData.list [.int (p.1 : Int), .int (p.2 : Int)])) = true := by
  have h1 : PyData.canLayAll0 (ts.map fun p => PyData.list [.int (p.1 : Int), .int (p.2 : Int)]) = true := by
    induction ts with
    | nil => rfl
    | cons p ts ih => simp [PyData.canLayAll0, PyData.canLay0, ih]
  have h2 : PyData.depthAll (ts.map fun p => PyData.list [.int (p.1 : Int), .int (p.2 : Int)]) ≤ 1 := by
    clear h1
    induction ts with
    | nil => exact Nat.zero_le _
    | cons p ts ih => simp [PyData.depthAll, PyData.depth]; omega
  unfold SeqAt.shaped
  simp only [PyData.canLay0, PyData.depth, h1, Bool.true_and, decide_eq_true_eq]
  exact decide_eq_true (Nat.le_trans (Nat.add_le_add_right h2 1) (by decide : 1 + 1 ≤ 64))
theorem eqv_pL (ts : List Tie) : PyData.eqv (.list (ts.map fun p => PyData.list [.int (p.1 : Int), .int (p.2 : Int)])) (.list []) = decide (ts = []) := by
  cases ts with
  | nil => rfl
  | cons x l => rfl
/-- a deal, and what stands beside it -/
def ID (g0 : Dl) (rest : Own) : Own → Prop := fun o => ∃ g : Dl, DlOk g ∧ g.a = g0.a ∧ g.l = g0.l ∧ o = g.own ++ rest
theorem ID.of {g : Dl} {rest : Own} (h : DlOk g) : ID g rest (g.own ++ rest) := ⟨g, h, rfl, rfl, rfl⟩
section
variable {ι : Type} {Z : ι → Cx} {own : Own} {ρ : Ev} {P : Program} {wd : World} {K : PySem.W.Frag} {mg : Str → Option Value} {base : Heap} {N : List Str} {k : Nat} (fm : Fam Z P wd K mg base N k)
variable {e1 e2 : Expr} {pos p : Pos} {g0 : Dl} {rest : Own} {m : Nat} {xs : List D}
abbrev CAny (P : Program) (wd : World) (K : PySem.W.Frag) (mg : Str → Option Value) (base : Heap) : Prop := Cal P wd K mg base "_law_any" 1 ["_law_deal", "_law_bound"] (spN PreAny PostAny)
abbrev PreOf (g : Dl × List D) (ds : List D) (o : Own) : Prop := ds = [.ref g.1.a, .lst g.2] ∧ o = g.1.own ∧ DlOk g.1 ∧ 1 ≤ g.2.length ∧ g.2.length ≤ 1000
abbrev PostOf (g : Dl × List D) (d : D) (o : Own) : Prop := d ∈ g.2 ∧ ∃ g' : Dl, DlOk g' ∧ g'.a = g.1.a ∧ g'.l = g.1.l ∧ o = g'.own
abbrev COf (P : Program) (wd : World) (K : PySem.W.Frag) (mg : Str → Option Value) (base : Heap) : Prop := Cal P wd K mg base "_law_of" 2 ["_law_deal", "_law_some"] (spN PreOf PostOf)
include fm in
theorem v_any (C66 : CAny P wd K mg base) (h1 : ∀ own, ID g0 rest own → E own ρ (wE Z e1) (.ref g0.a)) (h2 : ∀ own, ID g0 rest own → E own ρ (wE Z e2) (.int (m : Int))) (m1 : 1 ≤ m) (m2 : m < 1073741824) (hk : 1 ≤ k := by decide) (hg : ∀ n, Gl (Z n) "_law_any" := by intro _; rfl)
    (he : ∀ n, starEach (e1 :: [e2]) (Z n).env = (false, eval e1 (Z n).env) :: starEach [e2] (Z n).env := by intro _; rfl) (he2 : ∀ n, starEach (e2 :: []) (Z n).env = (false, eval e2 (Z n).env) :: starEach [] (Z n).env := by intro _; rfl) (hpl : ∀ n, (backTo pos (starEach [e2] (Z n).env)).any (·.1) = false := by intro _; rfl) :
    VI (ID g0 rest) ρ (wE Z (.Call (.Name "_law_any" p) [e1, e2] [] pos)) (fun i => ∃ v : Nat, v < m ∧ i = (v : Int)) := fun own hi =>
  x_callN fm C66 (EA.xa (a_cons (h1 own hi) (a_cons (h2 own hi) a_nil he2) he)) (fun ds o ⟨e, e'⟩ => by
    subst e e'
    obtain ⟨g, ok, ea0, el0, rfl⟩ := hi
    exact ⟨(g, m), g.own, rest, .refl _, ⟨by rw [ea0], rfl, ok, m1, m2⟩, fun d o' ⟨v, g', hv, e, ok', ea, el, eo⟩ => ⟨⟨_, e, v, hv, rfl⟩, g', ok', ea.trans ea0, el.trans el0, by rw [eo]⟩⟩) hk hg (by decide) he hpl
include fm in
theorem v_of (C67 : COf P wd K mg base) (h1 : ∀ own, ID g0 rest own → E own ρ (wE Z e1) (.ref g0.a)) {Pl : List D → Prop} {Pa : D → Prop} (h2 : V_ (ID g0 rest) ρ (wE Z e2) (fun d => ∃ xs, d = .lst xs ∧ Pl xs)) (hP : ∀ xs, Pl xs → 1 ≤ xs.length ∧ xs.length ≤ 1000 ∧ ∀ x ∈ xs, Pa x) (hk : 2 ≤ k := by decide) (hg : ∀ n, Gl (Z n) "_law_of" := by intro _; rfl)
    (he : ∀ n, starEach (e1 :: [e2]) (Z n).env = (false, eval e1 (Z n).env) :: starEach [e2] (Z n).env := by intro _; rfl) (he2 : ∀ n, starEach (e2 :: []) (Z n).env = (false, eval e2 (Z n).env) :: starEach [] (Z n).env := by intro _; rfl) (hpl : ∀ n, (backTo pos (starEach [e2] (Z n).env)).any (·.1) = false := by intro _; rfl) :
    V_ (ID g0 rest) ρ (wE Z (.Call (.Name "_law_of" p) [e1, e2] [] pos)) Pa := fun own hi =>
  x_callN fm C67 (xa_e (h1 own hi) (xa_one (h2 own hi) he2) he) (fun ds o ⟨r, e, x, e', ⟨xs, ex, pl⟩, hi'⟩ => by
    subst e e' ex
    obtain ⟨g, ok, ea0, el0, rfl⟩ := hi'
    obtain ⟨l1, l2, hx⟩ := hP xs pl
    exact ⟨(g, xs), g.own, rest, .refl _, ⟨by rw [ea0], rfl, ok, l1, l2⟩, fun d o' ⟨hd, g', ok', ea, el, eo⟩ => ⟨hx d hd, g', ok', ea.trans ea0, el.trans el0, by rw [eo]⟩⟩) hk hg (by decide) he hpl
end
section
variable {P : Program} {wd : World} {K : PySem.W.Frag} {mg : Str → Option Value} {base : Heap} (B : Blt mg) (G : Gc mg)
abbrev s67 : Stmt := top 67
theorem sc67 : FnScope ["_law_deal", "_law_some"] ["_law_deal", "_law_some"] (defScope s67) := ⟨rfl, rfl, rfl, by decide +kernel, rfl, by decide +kernel, by decide +kernel⟩
include B in
theorem ok67 {f : Addr} {fd : FuncData} (F : Df K mg "_law_of" s67 f fd) (C66 : CAny P wd K mg base) : COf P wd K mg base := by
  refine ⟨f, fd, fn_new F.F sc67 (fun g ds o ⟨e, _⟩ => by rw [e]; rfl) ?_, F.g, F.F.kp, F.F.binds fun _ _ _ _ _ _ us hl => match us, hl with | [_, _], _ => rfl⟩
  rintro cdv A outer s H Er fm ⟨g, xs⟩ ds own ⟨rfl, rfl, ok, l1, l2⟩ M0 H0 σ D c q hn
  simp only at l1 l2 ok c
  have c : C _ M0 H0 (g.own ++ []) _ σ M0 H0 := c.perm (List.Perm.of_eq (List.append_nil _).symm)
  refine b_one (k_retX c (V_.run (v_ix fm (ds := xs) (Pa := fun z => z ∈ xs) (fun own hi => w_nm 1 (fun _ => rfl) rfl) (v_any fm C66 (m := xs.length) (fun own hi => w_nm 0 (fun _ => rfl) rfl) (fun own hi => w_len fm B (w_nm 1 (fun _ => rfl) rfl) qL) l1 (by omega)) (fun j ⟨v, hv, e⟩ => ⟨xs[v], by rw [e]; exact atI_of v (List.getElem?_eq_getElem hv), List.getElem_mem hv⟩)) (ID.of ok)) ?_)
  rintro v d o M H ⟨hd, g', ok', ea, el, rfl⟩ c r
  exact q v d _ _ σ M H ⟨hd, g', ok', ea, el, List.append_nil _⟩ c r
abbrev s71 : Stmt := top 71
theorem sc71 : FnScope ["_law_deal", "_law_many", "_law_ties", "_law_deeds", "_law_length", "_law_found", "_law_at", "_law_turn"] ["_law_deal", "_law_many", "_law_ties", "_law_deeds", "_law_length"] (defScope s71) := ⟨rfl, rfl, rfl, by decide +kernel, rfl, by decide +kernel, by decide +kernel⟩
structure SI where
  g : Dl
  h : Nat
  ts : List Tie
  k : Nat
  len : Nat
abbrev PreSt (x : SI) (ds : List D) (o : Own) : Prop := ds = [.ref x.g.a, .int (x.h : Int), .lst (pL x.ts), .int (x.k : Int), .int (x.len : Int)] ∧ o = x.g.own ∧ DlOk x.g ∧ 1 ≤ x.h ∧ x.h ≤ 12 ∧ x.ts.length ≤ 20 ∧ 1 ≤ x.k ∧ x.k ≤ 8 ∧ x.len ≤ 400
abbrev PostSt (x : SI) (d : D) (o : Own) : Prop := ∃ (ss : List Stp) (g' : Dl), d = .lst (ss.map stT) ∧ ss.length = x.len ∧ (∀ s ∈ ss, sok x.h x.ts.length x.k s = true) ∧ DlOk g' ∧ g'.a = x.g.a ∧ g'.l = x.g.l ∧ o = g'.own
include B G in
theorem ok71 {f : Addr} {fd : FuncData} (F : Df K mg "_law_steps" s71 f fd) (C66 : CAny P wd K mg base) : Cal P wd K mg base "_law_steps" 2 ["_law_deal", "_law_many", "_law_ties", "_law_deeds", "_law_length"] (spN PreSt PostSt) := by
  refine ⟨f, fd, fn_new F.F sc71 (fun g ds o ⟨e, _⟩ => by rw [e]; rfl) ?_, F.g, F.F.kp, F.F.binds fun _ _ _ _ _ _ us hl => match us, hl with | [_, _, _, _, _], _ => rfl⟩
  rintro cdv A outer s H Er fm ⟨g, h, ts, k, len⟩ ds own ⟨rfl, rfl, ok, h1, h12, t20, k1, k8, l4⟩ M0 H0 σ D c q hn
  simp only at h1 h12 t20 k1 k8 l4 ok c
  have c : C _ M0 H0 (g.own ++ []) _ σ M0 H0 := c.perm (List.Perm.of_eq (List.append_nil _).symm)
  -- _law_found, _law_at = ([], _law_any(_law_deal, 20))
  refine b_cons (k_par fm 5 6 c (xa_cn (Pr := fun x r o => ∃ (l : Addr) (v : Nat), x = .ref l ∧ r = [.int (v : Int)] ∧ ID g [(l, .l [])] o) (EN.xn (n_lst a_nil)) (fun x o ⟨l, e1, e2⟩ => by
    subst e1 e2
    exact XA.imp (xa_one (X.ofPerm (V_.run (v_any fm C66 (m := 20) (rest := [(l, .l [])]) (fun own hi => w_nm 0 (fun _ => rfl) rfl) (fun own hi => w_int) (by decide) (by decide)) ⟨g, ok, rfl, rfl, rfl⟩) (perm_c fun x => by simp only [List.count_cons, List.count_append, List.count_nil]; omega))) fun r o ⟨x, e, ⟨i, ex, v, hv, ei⟩, hi⟩ => ⟨l, v, rfl, by rw [e, ex, ei], hi⟩)) (fun _ => rfl) (fun _ => rfl) ?_)
  rintro ds o ⟨x, r, o1, rfl, _, l, v, rfl, rfl, g1, ok1, ea, el, rfl⟩
  refine ⟨_, _, rfl, fun σ M H c => ?_⟩
  refine b_cons (k_forB fm (G := Dl × List Stp × Nat) (fun i x => DlOk x.1 ∧ x.1.a = g.a ∧ x.1.l = g.l ∧ x.2.1.length = i ∧ ∀ s ∈ x.2.1, sok h ts.length k s = true) (fun x => x.1.own ++ [(l, .l (x.2.1.map stT))]) (fun x => [some (.ref g.a), some (.int (h : Int)), some (.lst (pL ts)), some (.int (k : Int)), some (.int (len : Int)), some (.ref l), some (.int (x.2.2 : Int)), none]) (g1, [], v) (f1 7) c (i_rg1 fm B (w_nm 4 (fun _ => rfl) rfl)) ⟨ok1, ea, el, rfl, fun _ h => nomatch h⟩ rfl (fun _ _ _ σ M H c => c) (fun i d h => (g_name fm 7 (fun _ => rfl))) (fun M1 H1 lf i d x σ M H hi hP c D1 e1 e2 kn => ?_) (fun x σ M H hP c => ?_) (fun _ => passes_of rfl))
  · obtain ⟨g2, ss, at_⟩ := x
    obtain ⟨ok2, ea2, el2, hl, hok⟩ := hP
    simp only at ok2 ea2 el2 hl hok c
    have hil : i < len := by
      have := lt_of_get hi
      unfold rgD at this
      rw [List.length_map, List.length_range] at this
      omega
    refine b_one (k_ifX c (VT.run (vt_or2 (vt_of (g := decide (ts = [])) fun own hi => et_eq (t_cmp (w_nm 2 (fun _ => rfl) rfl) (w_lst a_nil) (cm_eqP fm (.lst (py_pL ts)) (.lst .nil) (shaped_pL ts) (by decide +kernel))) (eqv_pL ts)) (vt_cmp (v_any fm C66 (m := 3) (rest := [(l, .l (ss.map stT))]) (fun own hi => w_nm 0 (fun _ => rfl) rfl) (fun own hi => w_int) (by decide) (by decide)) (VI.of fun own hi => w_int) cI_eq).2) ⟨g2, ok2, ea2, el2, rfl⟩) ?_ ?_)
    · rintro o M H ⟨_, g3, ok3, ea3, el3, rfl⟩ c
      refine b_one (k_app fm (kk := 2) c (w_nm 5 (fun _ => rfl) rfl) rfl (V_.run (v_tup (va_cons (V_.of fun own hi => w_str) (va_cons (v_any fm C66 (m := h) (rest := [(l, .l (ss.map stT))]) (fun own hi => w_nm 0 (fun _ => rfl) rfl) (fun own hi => w_nm 1 (fun _ => rfl) rfl) h1 (by omega)) (va_cons (v_any fm C66 (m := k) (fun own hi => w_nm 0 (fun _ => rfl) rfl) (fun own hi => w_nm 3 (fun _ => rfl) rfl) k1 (by omega)) va_nil))) (fun ds ⟨x, r, e, _, y, r2, e2, _, z, r3, e3, _, e4⟩ => by rw [e, e2, e3, e4]; show 3 ≤ 100000; decide)) ⟨g3, ok3, ea3, el3, rfl⟩) ?_)
      rintro d o ⟨⟨ds, rfl, x, r, rfl, rfl, y, r2, rfl, ⟨_, rfl, v1, hv1, rfl⟩, z, r3, rfl, ⟨_, rfl, v2, hv2, rfl⟩, rfl⟩, g4, ok4, ea4, el4, rfl⟩
      refine ⟨2, ss.map stT, rfl, by rw [List.length_map]; omega, fun M H c => ?_⟩
      refine kn (g4, ss ++ [.act v1 v2], at_) σ M H ⟨ok4, ea4, el4, by rw [List.length_append, hl]; rfl, fun s hs => ?_⟩ ?_
      · rcases List.mem_append.mp hs with hs | hs
        · exact hok s hs
        · rw [List.mem_singleton.mp hs]
          show (decide (v1 < h) && decide (v2 < k)) = true
          rw [decide_eq_true hv1, decide_eq_true hv2]; rfl
      · have c := c.forget 7
        rw [show ((ss ++ [Stp.act v1 v2]).map stT) = ss.map stT ++ [.tup [.str "do", .int (v1 : Int), .int (v2 : Int)]] by rw [List.map_append]; rfl]
        exact c
    · rintro o M H ⟨hf, g3, ok3, ea3, el3, rfl⟩ c
      have hne : ts ≠ [] := by
        obtain ⟨h1, _⟩ := hf rfl
        intro z
        rw [decide_eq_true z] at h1
        cases h1
      have htl : 0 < ts.length := List.length_pos_iff.mpr hne
      refine b_cons (k_setX fm 6 c (V_.run (v_if (Pa := fun d => ∃ v : Nat, d = .int (v : Int)) (vt_cmp (v_any fm C66 (m := 3) (rest := [(l, .l (ss.map stT))]) (fun own hi => w_nm 0 (fun _ => rfl) rfl) (fun own hi => w_int) (by decide) (by decide)) (VI.of fun own hi => w_int) cI_gt).2 (fun _ => V_.imp (V_.of fun own hi => w_addI fm (w_nm 6 (fun _ => rfl) rfl) w_int) fun d e => ⟨at_ + 1, by rw [e]; rfl⟩) (fun _ => V_.imp (v_any fm C66 (m := 20) (fun own hi => w_nm 0 (fun _ => rfl) rfl) (fun own hi => w_int) (by decide) (by decide)) fun d ⟨i, e, v, _, e2⟩ => ⟨v, by rw [e, e2]⟩)) ⟨g3, ok3, ea3, el3, rfl⟩) (fun _ => rfl) ?_)
      rintro d o σ M H ⟨⟨v2, rfl⟩, g4, ok4, ea4, el4, rfl⟩ c
      obtain ⟨v3, hv3, ev3⟩ := nat_mod (x := (v2 : Int)) (m := ts.length) htl
      refine b_one (k_app fm (kk := 2) c (w_nm 5 (fun _ => rfl) rfl) rfl (E.x (w_tup (a_cons w_str (a_cons (E.eq (y := .int (v3 : Int)) (w_mod (w_int1 fm B (w_nm 6 (fun _ => rfl) rfl)) (w_len fm B (w_nm 2 (fun _ => rfl) rfl) qL) (by rw [pL_len]; omega)) (congrArg Ly.D.int (by rw [pL_len]; exact ev3))) a_nil)) (show 2 ≤ 100000 by decide))) ?_)
      rintro d o ⟨rfl, rfl⟩
      refine ⟨2, ss.map stT, rfl, by rw [List.length_map]; omega, fun M H c => ?_⟩
      refine kn (g4, ss ++ [.meet v3], v2) σ M H ⟨ok4, ea4, el4, by rw [List.length_append, hl]; rfl, fun s hs => ?_⟩ ?_
      · rcases List.mem_append.mp hs with hs | hs
        · exact hok s hs
        · rw [List.mem_singleton.mp hs]
          exact decide_eq_true hv3
      · have c := c.forget 7
        rw [show ((ss ++ [Stp.meet v3]).map stT) = ss.map stT ++ [.tup [.str "meet", .int (v3 : Int)]] by rw [List.map_append]; rfl]
        exact c
  · obtain ⟨g2, ss, at_⟩ := x
    obtain ⟨ok2, ea2, el2, hl, hok⟩ := hP
    simp only at ok2 ea2 el2 hl hok c
    have hl : ss.length = len := by
      rw [hl]; unfold rgD; rw [List.length_map, List.length_range]; omega
    have c1 := c.perm (o2 := (l, .l (ss.map stT)) :: g2.own) List.perm_append_comm
    have hlF : l ∉ (Dl.own g).map (·.1) := by
      have nd := c1.sd.ow.nd
      rw [List.map_cons] at nd; rw [List.nodup_cons] at nd
      have e : (Dl.own g).map (·.1) = g2.own.map (·.1) := by
        show [g.a, g.l] = [g2.a, g2.l]
        rw [ea2, el2]
      rw [e]; exact nd.1
    obtain ⟨M', c2, s2, dv⟩ := C.frz c1 hlF rfl
    have c3 := c2.again (i := 5) (d := .ref l) (d' := .lst (ss.map stT)) rfl fun v r => by rw [r.raw_eq]; exact dv
    exact b_one (k_ret c3 (w_nm 5 (fun _ => rfl) rfl) fun v M H c r => q v _ _ _ σ M H ⟨ss, g2, rfl, hl, hok, ok2, ea2, el2, rfl⟩ c r)
end
end Hb
/-! Ly15: for .. in range(e), e drawn. -/
namespace Ly
open PySem L2 Mc
section
variable {ι : Type} {Z : ι → Cx} {own : Own} {ρ : Ev} {P : Program} {wd : World} {K : PySem.W.Frag} {mg : Str → Option Value} {base : Heap} {N : List Str} {k : Nat} (fm : Fam Z P wd K mg base N k)
variable {e tg : Expr} {body : List Stmt} {pos p pf : Pos} {D : Ends} {F : List Addr} {M0 H0 M H : Hp} {σ : L2.St} {Pq : Ly.D → Own → Prop}
variable (B : Blt mg)
include fm B in
/-- for tg in range(e): what is left to show is a walk of a known length, by s_forB -/
theorem k_forRX (c : C F M0 H0 own ρ σ M H) (he : X own ρ (wE Z e) Pq) (hn : ∀ d o, Pq d o → ∃ n : Int, d = .int n ∧ -1000000 ≤ n ∧ n ≤ 1000000)
    (kn : ∀ (n : Int) (o : Own) (M H : Hp) (wi : TI), Pq (.int n) o → C F M0 H0 o ρ σ M H → EI o ρ wi (rgD 0 n.toNat) → tFor wi (wG Z tg) (wB Z body) D σ H)
    (hp : ∀ n, PassesOwn (model (Z n).prog (Z n).w) (Z n).A (Z n).env (Z n).xe) (hg : ∀ n, Gl (Z n) "range" := by intro _; rfl) (hs : ∀ n, starEach (e :: []) (Z n).env = (false, eval e (Z n).env) :: starEach [] (Z n).env := by intro _; rfl) (na : ∀ n, starEach [e] (Z n).env = [(false, eval e (Z n).env)] := by intro _; rfl)
    (hf : ∀ n x, foldedSetIterable (.Call (.Name "range" pf) [e] [] p) (Z n).env x = pure x := by intro _ _; rfl) : wS Z (.For tg (.Call (.Name "range" pf) [e] [] p) body [] pos) D σ H := by
  refine ⟨tFor (iRng1 (wA Z [e])) (wG Z tg) (wB Z body), fun n => ps_for (hp n) (fm.calm n) (pi_range1 (hg n) (by rw [fm.mg]; exact B.range) (pa_w n) (na n)) (pg_w n) (pb_w n) (hf n), ?_⟩
  show wA Z [e] σ H _
  refine xa_cn (es := []) (Pr := fun x r o => r = [] ∧ Pq x o) he (fun x o pq F M0 H0 σ M H c Q q => xa_nl F M0 H0 σ M H c Q fun vs ds o' M' H' ⟨e1, e2⟩ c' s' r' => q vs ds o' M' H' ⟨e1, e2 ▸ pq⟩ c' s' r') hs F M0 H0 σ M H c _ fun vs ds o M1 H1 pa c1 s1 r => ?_
  obtain ⟨x, r', o1, rfl, _, rfl, pq⟩ := pa
  obtain ⟨n, rfl, n1, n2⟩ := hn x o pq
  have ev : vs = [.int n] := Dvs.raws_eq (us := [.int n]) r
  have := kn n o M1 H1 (iRng1 (fun _ H Q => Q [.int n] H)) pq c1 (ei_range1 (fun σ M H s Q q => q [.int n] M H (.refl s.mh) (.cons (.raw _) .nil)) (by omega) (by omega))
  rw [ev]
  exact this
end
end Ly
/-! Ly16: a list and a drawn list joined. -/
namespace Ly
open PySem L2 Mc
section
variable {ι : Type} {Z : ι → Cx} {own : Own} {ρ : Ev} {P : Program} {wd : World} {K : PySem.W.Frag} {mg : Str → Option Value} {base : Heap} {N : List Str} {k : Nat} (fm : Fam Z P wd K mg base N k)
variable {a b : Expr} {pos : Pos} {I : Own → Prop} {xs : List D} {Pl : List D → Prop}
theorem v_cat (ha : ∀ own, I own → E own ρ (wE Z a) (.lst xs)) (hb : V_ I ρ (wE Z b) (fun d => ∃ ys, d = .lst ys ∧ Pl ys)) (h : ∀ ys, Pl ys → xs.length + ys.length ≤ 100000) : V_ I ρ (wE Z (.BinOp a .Add b pos)) (fun d => ∃ ys, d = .lst (xs ++ ys) ∧ Pl ys) := fun own hi =>
  X.wz (t := tOp rCat (wE Z a) (wE Z b)) (fun F M0 H0 σ M H c Q q => ha own hi σ M H c.sd _ fun v M1 H1 u1 r1 => hb own hi F M0 H0 σ M1 H1 (c.pure u1) _ fun w d o M2 H2 ⟨⟨ys, e, pl⟩, i2⟩ c2 s2 r2 => by
    subst e
    obtain ⟨t, vs, rfl, ht, rs⟩ := (r1.mono s2).lst_inv
    obtain ⟨t', us, rfl, ht', rt⟩ := r2.lst_inv
    refine ⟨t, t', vs, us, rfl, rfl, c2.sd.mh _ _ ht, c2.sd.mh _ _ ht', by rw [rs.length, rt.length]; exact Nat.le_trans (h ys pl) big, fun p hp => ?_⟩
    have u := Pu.newM (o := .lst (vs ++ us)) c2.sd.mh hp
    exact q (.ref p) (.lst (xs ++ ys)) o _ _ ⟨⟨ys, rfl, pl⟩, i2⟩ (c2.pure u) ((u1.mm.trans s2).trans u.mm) (.lst upd_same ((rs.append rt).mono u.mm))) fun n => pe_op op_cat (pe_w n) (pe_w n)
end
end Ly
/-! Df14: webs drawn. -/
namespace Hb
open PySem L2 Mc Ly
section
variable {P : Program} {wd : World} {K : PySem.W.Frag} {mg : Str → Option Value} {base : Heap} (B : Blt mg) (G : Gc mg)
abbrev s70 : Stmt := top 70
theorem sc70 : FnScope ["_law_deal", "_law_most", "_law_many", "_law_ties", "_law_full", "_law_house", "_law_pair", "_law_turn", "_law_here"] ["_law_deal", "_law_most"] (defScope s70) := ⟨rfl, rfl, rfl, by decide +kernel, rfl, by decide +kernel, by decide +kernel⟩
abbrev PreWb (x : Dl × Nat) (ds : List D) (o : Own) : Prop := ds = [.ref x.1.a, .int (x.2 : Int)] ∧ o = x.1.own ∧ DlOk x.1 ∧ 1 ≤ x.2 ∧ x.2 ≤ 12
abbrev PostWb (x : Dl × Nat) (d : D) (o : Own) : Prop := ∃ (h : Nat) (ts : List Tie) (g' : Dl), d = .tup [.int (h : Int), .lst (pL ts)] ∧ WOk h ts ∧ DlOk g' ∧ g'.a = x.1.a ∧ g'.l = x.1.l ∧ o = g'.own
/-- the list beside a deal let go -/
theorem let_go {g g' : Dl} {l : Addr} {zs : List D} {M0 H0 M H : Hp} {ρ : Ev} {σ : L2.St} (c : C ((Dl.own g).map (·.1)) M0 H0 (g'.own ++ [(l, .l zs)]) ρ σ M H) (ea : g'.a = g.a) (el : g'.l = g.l) : ∃ M', C ((Dl.own g).map (·.1)) M0 H0 g'.own ρ σ M' H ∧ Dv M' (.ref l) (.lst zs) := by
  have c1 := c.perm (o2 := (l, .l zs) :: g'.own) List.perm_append_comm
  have hlF : l ∉ (Dl.own g).map (·.1) := by
    have nd := c1.sd.ow.nd
    rw [List.map_cons] at nd; rw [List.nodup_cons] at nd
    have e : (Dl.own g).map (·.1) = g'.own.map (·.1) := by
      show [g.a, g.l] = [g'.a, g'.l]
      rw [ea, el]
    rw [e]; exact nd.1
  obtain ⟨M', c2, _, dv⟩ := C.frz c1 hlF rfl
  exact ⟨M', c2, dv⟩
/-- ties within a web of h houses -/
def TOk (h : Nat) (ts : List Tie) : Prop := ∀ p ∈ ts, p.1 < h ∧ p.2 < h ∧ p.1 ≠ p.2
theorem TOk.snoc {h : Nat} {ts : List Tie} {p : Tie} (t : TOk h ts) (h1 : p.1 < h) (h2 : p.2 < h) (h3 : p.1 ≠ p.2) : TOk h (ts ++ [p]) := fun q hq => by
  obtain hq | hq := List.mem_append.mp hq
  · exact t q hq
  · rw [List.mem_singleton.mp hq]; exact ⟨h1, h2, h3⟩
theorem pL_snoc {ts : List Tie} {p : Tie} : pL (ts ++ [p]) = pL ts ++ [.lst [.int (p.1 : Int), .int (p.2 : Int)]] := by unfold pL; rw [List.map_append]; rfl
include B in
theorem ok70 {f : Addr} {fd : FuncData} (F : Df K mg "_law_web" s70 f fd) (C66 : CAny P wd K mg base) (C67 : COf P wd K mg base) : Cal P wd K mg base "_law_web" 3 ["_law_deal", "_law_most"] (spN PreWb PostWb) := by
  refine ⟨f, fd, fn_new F.F sc70 (fun g ds o ⟨e, _⟩ => by rw [e]; rfl) ?_, F.g, F.F.kp, F.F.binds fun _ _ _ _ _ _ us hl => match us, hl with | [_, _], _ => rfl⟩
  rintro cdv A outer s H Er fm ⟨g, most⟩ ds own ⟨rfl, rfl, ok, m1, m12⟩ M0 H0 σ D c q hn
  simp only at m1 m12 ok c
  have c : C _ M0 H0 (g.own ++ []) _ σ M0 H0 := c.perm (List.Perm.of_eq (List.append_nil _).symm)
  -- _law_many, _law_ties = (1 + _law_any(_law_deal, _law_most), [])
  refine b_cons (k_par fm 2 3 c (xa_cn (Pr := fun x r o => ∃ (v : Nat) (l : Addr) (g' : Dl), v < most ∧ x = .int ((1 + v : Nat) : Int) ∧ r = [.ref l] ∧ DlOk g' ∧ g'.a = g.a ∧ g'.l = g.l ∧ o = (l, .l []) :: (g'.own ++ [])) (V_.run (v_add (VI.of fun own hi => w_int) (v_any fm C66 (m := most) (rest := []) (fun own hi => w_nm 0 (fun _ => rfl) rfl) (fun own hi => w_nm 1 (fun _ => rfl) rfl) m1 (by omega))) (ID.of ok)) (fun x o ⟨⟨i, e1, a, b, ea, ⟨v, hv, eb⟩, ei⟩, g', ok', ea', el', eo⟩ => by
    refine XA.imp (xa_one (EN.xn (n_lst a_nil))) ?_
    rintro r o' ⟨y, e3, l, e4, e5⟩
    subst ea eb ei e1 eo e3 e4 e5
    exact ⟨v, l, g', hv, by rw [Int.natCast_add]; rfl, rfl, ok', ea', el', rfl⟩)) (fun _ => rfl) (fun _ => rfl) ?_)
  rintro ds o ⟨x, r, o1, rfl, _, v, l, g1, hv, rfl, rfl, ok1, ea1, el1, rfl⟩
  refine ⟨_, _, rfl, fun σ M H c => ?_⟩
  have c := c.perm (o2 := g1.own ++ [(l, .l (pL []))]) (show (((l, OC.l []) :: (g1.own ++ [])).Perm (g1.own ++ [(l, OC.l [])])) from perm_c fun x => by simp only [List.count_cons, List.count_append, List.count_nil]; omega)
  generalize hm : 1 + v = m at c
  have hm1 : 1 ≤ m := by omega
  have hm12 : m ≤ 12 := by omega
  -- _law_full = _law_any(_law_deal, 3) > 0
  refine b_cons (k_setX fm 4 c (V_.run (vt_cmp (v_any fm C66 (m := 3) (rest := [(l, .l (pL []))]) (fun own hi => w_nm 0 (fun _ => rfl) rfl) (fun own hi => w_int) (by decide) (by decide)) (VI.of fun own hi => w_int) cI_gt).1 ⟨g1, ok1, ea1, el1, rfl⟩) (fun _ => rfl) ?_)
  rintro d o σ M H ⟨⟨i, j, _, _, rfl⟩, g2, ok2, ea2, el2, rfl⟩ c
  generalize decide (j < i) = full at c
  -- the tree's ties
  refine b_cons (k_forB fm (G := Dl × List Tie) (fun i x => DlOk x.1 ∧ x.1.a = g.a ∧ x.1.l = g.l ∧ x.2.length ≤ i ∧ TOk m x.2) (fun x => x.1.own ++ [(l, .l (pL x.2))]) (fun _ => [some (.ref g.a), some (.int (most : Int)), some (.int (m : Int)), some (.ref l), some (.bl full), none, none, none, none]) (g2, []) (f1 5) c (i_rg2 fm B w_int (w_nm 2 (fun _ => rfl) rfl)) ⟨ok2, ea2, el2, Nat.zero_le _, fun _ h => nomatch h⟩ rfl (fun _ _ _ σ M H c => c) (fun i d h => (g_name fm 5 (fun _ => rfl))) (fun M1 H1 lf i d x σ M H hi hP c D1 e1 e2 kn => ?_) (fun x σ M H hP c => ?_) (fun _ => passes_of rfl))
  · obtain ⟨g3, ts⟩ := x
    obtain ⟨ok3, ea3, el3, hl, ht⟩ := hP
    simp only at ok3 ea3 el3 hl ht c
    obtain ⟨hi1, rfl⟩ := rgD_get hi
    have hi2 : i < m - 1 := by omega
    have eh : (1 + (i : Int)) = ((1 + i : Nat) : Int) := by omega
    rw [eh] at c
    generalize hw : 1 + i = w at c
    refine b_one (k_ifX c (VT.run (vt_or (vt_of (g := full) fun own hi => t_val (w_nm 4 (fun _ => rfl) rfl)) (vt_cmp (v_any fm C66 (m := 2) (rest := [(l, .l (pL ts))]) (fun own hi => w_nm 0 (fun _ => rfl) rfl) (fun own hi => w_int) (by decide) (by decide)) (VI.of fun own hi => w_int) cI_eq).2) ⟨g3, ok3, ea3, el3, rfl⟩) ?_ ?_)
    · rintro o M H ⟨_, g4, ok4, ea4, el4, rfl⟩ c
      refine b_cons (k_setX fm 6 c (V_.run (V_.imp (Pb := fun d => ∃ v : Nat, v < w ∧ d = .lst [.int (v : Int), .int (w : Int)]) (v_lst (va_cons (v_of fm C67 (rest := [(l, .l (pL ts))]) (Pa := fun d => ∃ v : Nat, v < w ∧ d = .int (v : Int)) (fun own hi => w_nm 0 (fun _ => rfl) rfl) (v_lst (va_cons (V_.of fun own hi => w_sub (w_nm 5 (fun _ => rfl) rfl) w_int) (va_cons (v_any fm C66 (m := w) (fun own hi => w_nm 0 (fun _ => rfl) rfl) (fun own hi => w_nm 5 (fun _ => rfl) rfl) (by omega) (by omega)) va_nil)) (fun ds ⟨x, r, e, _, y, r2, e2, _, e3⟩ => by rw [e, e2, e3]; show 2 ≤ 100000; decide)) ?_) (va_cons (V_.of fun own hi => w_nm 5 (fun _ => rfl) rfl) va_nil)) (fun ds ⟨x, r, e, _, y, r2, e2, _, e3⟩ => by rw [e, e2, e3]; show 2 ≤ 100000; decide)) ?_) ⟨g4, ok4, ea4, el4, rfl⟩) (fun _ => rfl) ?_)
      · rintro xs ⟨x, r, rfl, rfl, y, r2, rfl, ⟨_, rfl, v, hv, rfl⟩, rfl⟩
        refine ⟨by show 1 ≤ 2; decide, by show 2 ≤ 1000; decide, fun z hz => ?_⟩
        obtain rfl | hz := List.mem_cons.mp hz
        · exact ⟨w - 1, by omega, congrArg Ly.D.int (by omega)⟩
        · rw [List.mem_singleton.mp hz]; exact ⟨v, hv, rfl⟩
      · rintro d ⟨ds, rfl, x, r, rfl, ⟨v, hv, rfl⟩, y, r2, rfl, rfl, rfl⟩
        exact ⟨v, hv, rfl⟩
      rintro d o σ M H ⟨⟨v, hv, rfl⟩, g5, ok5, ea5, el5, rfl⟩ c
      refine b_one (k_app fm (kk := 2) c (w_nm 3 (fun _ => rfl) rfl) rfl (V_.run (v_if (Pa := fun d => ∃ p : Tie, d = .lst [.int (p.1 : Int), .int (p.2 : Int)] ∧ p.1 < m ∧ p.2 < m ∧ p.1 ≠ p.2) (vt_cmp (v_any fm C66 (m := 2) (rest := [(l, .l (pL ts))]) (fun own hi => w_nm 0 (fun _ => rfl) rfl) (fun own hi => w_int) (by decide) (by decide)) (VI.of fun own hi => w_int) cI_eq).2 (fun _ => V_.imp (V_.of fun own hi => w_nm 6 (fun _ => rfl) rfl) fun d e => ⟨(v, w), e, by show v < m; omega, by show w < m; omega, by show v ≠ w; omega⟩) (fun _ => V_.imp (V_.of fun own hi => w_rev fm (w_nm 6 (fun _ => rfl) rfl)) fun d e => ⟨(w, v), e, by show w < m; omega, by show v < m; omega, by show w ≠ v; omega⟩)) ⟨g5, ok5, ea5, el5, rfl⟩) ?_)
      rintro d o ⟨⟨p, rfl, p1, p2, p3⟩, g6, ok6, ea6, el6, rfl⟩
      refine ⟨2, pL ts, rfl, by rw [pL_len]; omega, fun M H c => ?_⟩
      refine kn (g6, ts ++ [p]) σ M H ⟨ok6, ea6, el6, by rw [List.length_append]; show ts.length + 1 ≤ _; omega, ht.snoc p1 p2 p3⟩ ?_
      have c := (c.forget 5).forget 6
      rw [pL_snoc]
      exact c
    · rintro o M H ⟨_, g4, ok4, ea4, el4, rfl⟩ c
      exact b_nil (kn (g4, ts) σ M H ⟨ok4, ea4, el4, by show ts.length ≤ i + 1; omega, ht⟩ (c.forget 5))
  obtain ⟨g3, ts⟩ := x
  obtain ⟨ok3, ea3, el3, hl, ht⟩ := hP
  simp only at ok3 ea3 el3 hl ht c
  have hl : ts.length ≤ 11 := by rw [rgD_len] at hl; omega
  -- if _law_many > 1: for ..: further ties
  refine b_cons (k_if c (t_cmp (w_nm 2 (fun _ => rfl) rfl) w_int cm_gt) (fun h M H c => ?_) fun h M H c => ?_)
  · have hm2 : 2 ≤ m := by
      have := of_decide_eq_true h
      omega
    refine b_one (k_forRX fm B c (V_.run (v_of fm C67 (rest := [(l, .l (pL ts))]) (Pa := fun d => ∃ n : Nat, n ≤ 3 ∧ d = .int (n : Int)) (fun own hi => w_nm 0 (fun _ => rfl) rfl) (Pl := fun xs => xs = [.int 0, .int 0, .int 1, .int 1, .int 2, .int 3]) (V_.imp (V_.of fun own hi => w_lst (a_cons w_int (a_cons w_int (a_cons w_int (a_cons w_int (a_cons w_int (a_cons w_int a_nil)))))) (show 6 ≤ 100000 by decide)) fun d e => ⟨_, e, rfl⟩) (fun xs e => by
      subst e
      refine ⟨by show 1 ≤ 6; decide, by show 6 ≤ 1000; decide, fun z hz => ?_⟩
      simp only [List.mem_cons, List.not_mem_nil, or_false] at hz
      rcases hz with rfl | rfl | rfl | rfl | rfl | rfl
      · exact ⟨0, by decide, rfl⟩
      · exact ⟨0, by decide, rfl⟩
      · exact ⟨1, by decide, rfl⟩
      · exact ⟨1, by decide, rfl⟩
      · exact ⟨2, by decide, rfl⟩
      · exact ⟨3, by decide, rfl⟩)) ⟨g3, ok3, ea3, el3, rfl⟩) (fun d o ⟨⟨n, hn, e⟩, _⟩ => ⟨n, e, by omega, by omega⟩) ?_ (fun _ => passes_of rfl))
    rintro n o M H wi ⟨⟨n', hn', en⟩, g4, ok4, ea4, el4, rfl⟩ c hi
    have en : n = (n' : Int) := V.int.inj (by injection en)
    subst en
    refine s_forB (G := Dl × List Tie) (fun i x => DlOk x.1 ∧ x.1.a = g.a ∧ x.1.l = g.l ∧ x.2.length ≤ ts.length + i ∧ TOk m x.2) (fun x => x.1.own ++ [(l, .l (pL x.2))]) (fun _ => [some (.ref g.a), some (.int (most : Int)), some (.int (m : Int)), some (.ref l), some (.bl full), none, none, none, none]) (g4, ts) c hi ⟨ok4, ea4, el4, Nat.le_refl _, ht⟩ rfl (fun _ _ _ σ M H c => c) (f1 7) (fun i d h => (g_name fm 7 (fun _ => rfl))) (fun M1 H1 lf i d x σ M H hi hP c D1 e1 e2 kn => ?_) (fun x σ M H hP c => ?_)
    · obtain ⟨g5, us⟩ := x
      obtain ⟨ok5, ea5, el5, hl5, ht5⟩ := hP
      simp only at ok5 ea5 el5 hl5 ht5 c
      obtain ⟨hi1, rfl⟩ := rgD_get hi
      refine b_cons (k_setX fm 8 c (V_.run (v_any fm C66 (m := m) (rest := [(l, .l (pL us))]) (fun own hi => w_nm 0 (fun _ => rfl) rfl) (fun own hi => w_nm 2 (fun _ => rfl) rfl) (by omega) (by omega)) ⟨g5, ok5, ea5, el5, rfl⟩) (fun _ => rfl) ?_)
      rintro d o σ M H ⟨⟨_, rfl, w, hw, rfl⟩, g6, ok6, ea6, el6, rfl⟩ c
      refine b_one (k_app fm (kk := 2) c (w_nm 3 (fun _ => rfl) rfl) rfl (V_.run (V_.imp (Pb := fun d => ∃ p : Tie, d = .lst [.int (p.1 : Int), .int (p.2 : Int)] ∧ p.1 < m ∧ p.2 < m ∧ p.1 ≠ p.2) (v_lst (va_cons (V_.of fun own hi => w_nm 8 (fun _ => rfl) rfl) (va_cons (v_mod (v_int1 fm B (v_add (VI.of fun own hi => w_addI fm (w_nm 8 (fun _ => rfl) rfl) w_int) (v_any fm C66 (m := m - 1) (rest := [(l, .l (pL us))]) (fun own hi => w_nm 0 (fun _ => rfl) rfl) (fun own hi => E.eq (w_sub (w_nm 2 (fun _ => rfl) rfl) w_int) (congrArg Ly.D.int (by omega))) (by omega) (by omega)))) (VI.of fun own hi => w_nm 2 (fun _ => rfl) rfl) (fun j e => by rw [e]; omega)) va_nil)) (fun ds ⟨x, r, e, _, y, r2, e2, _, e3⟩ => by rw [e, e2, e3]; show 2 ≤ 100000; decide)) ?_) ⟨g6, ok6, ea6, el6, rfl⟩) ?_)
      · rintro d ⟨ds, rfl, x, r, rfl, rfl, y, r2, rfl, ⟨_, rfl, a, b, ⟨a1, a2, rfl, ⟨u, hu, rfl⟩, rfl⟩, rfl, rfl⟩, rfl⟩
        have e : ((w : Int) + 1 + (u : Int)) % (m : Int) = (((w + 1 + u) % m : Nat) : Int) := by
          rw [Int.natCast_emod]; rfl
        rw [e]
        refine ⟨(w, (w + 1 + u) % m), rfl, hw, Nat.mod_lt _ (by omega), ?_⟩
        show w ≠ (w + 1 + u) % m
        intro z
        by_cases hlt : w + 1 + u < m
        · rw [Nat.mod_eq_of_lt hlt] at z; omega
        · have e2 : (w + 1 + u) % m = w + 1 + u - m := by
            rw [Nat.mod_eq_sub_mod (by omega), Nat.mod_eq_of_lt (by omega)]
          omega
      rintro d o ⟨⟨p, rfl, p1, p2, p3⟩, g7, ok7, ea7, el7, rfl⟩
      refine ⟨2, pL us, rfl, by rw [pL_len]; omega, fun M H c => ?_⟩
      refine kn (g7, us ++ [p]) σ M H ⟨ok7, ea7, el7, by rw [List.length_append]; show us.length + 1 ≤ _; omega, ht5.snoc p1 p2 p3⟩ ?_
      have c := (c.forget 7).forget 8
      rw [pL_snoc]
      exact c
    · obtain ⟨g5, us⟩ := x
      obtain ⟨ok5, ea5, el5, hl5, ht5⟩ := hP
      simp only at ok5 ea5 el5 hl5 ht5 c
      rw [rgD_len] at hl5
      obtain ⟨M', c2, dv⟩ := let_go c ea5 el5
      have c3 := c2.again (i := 3) (d := .ref l) (d' := .lst (pL us)) rfl fun v r => by rw [r.raw_eq]; exact dv
      exact b_one (k_ret c3 (w_tup (a_cons (w_nm 2 (fun _ => rfl) rfl) (a_cons (w_nm 3 (fun _ => rfl) rfl) a_nil)) (show 2 ≤ 100000 by decide)) fun v M H c r => q v _ _ _ σ M H ⟨m, us, g5, rfl, ⟨hm1, hm12, by omega, ht5⟩, ok5, ea5, el5, rfl⟩ c r)
  · refine b_nil ?_
    obtain ⟨M', c2, dv⟩ := let_go c ea3 el3
    have c3 := c2.again (i := 3) (d := .ref l) (d' := .lst (pL ts)) rfl fun v r => by rw [r.raw_eq]; exact dv
    exact b_one (k_ret c3 (w_tup (a_cons (w_nm 2 (fun _ => rfl) rfl) (a_cons (w_nm 3 (fun _ => rfl) rfl) a_nil)) (show 2 ≤ 100000 by decide)) fun v M H c r => q v _ _ _ σ M H ⟨m, ts, g3, rfl, ⟨hm1, hm12, by omega, ht⟩, ok3, ea3, el3, rfl⟩ c r)
end
end Hb
/-! Df15: tables turned. -/
namespace Hb
open PySem L2 Mc Ly
def turnRow (r t : List Nat) (n : Nat) : List Nat := (List.range n).foldl (fun row s => row.set (r.getD s 0) (r.getD (t.getD s 0) 0)) (List.replicate n 0)
structure TI where
  g : Dl
  t : List (List Nat)
  n : Nat
abbrev PreTu (x : TI) (ds : List D) (o : Own) : Prop := ds = [.ref x.g.a, .lst (tL x.t), .int (x.n : Int)] ∧ o = x.g.own ∧ DlOk x.g ∧ MOk x.t x.n
abbrev PostTu (x : TI) (d : D) (o : Own) : Prop := ∃ (r : List Nat) (g' : Dl), r.Perm (List.range x.n) ∧ d = .tup [.lst (tL (x.t.map fun row => turnRow r row x.n)), .lst (nD r)] ∧ DlOk g' ∧ g'.a = x.g.a ∧ g'.l = x.g.l ∧ o = g'.own
theorem nD_erase : ∀ {l : List Nat} {j : Nat}, (nD l).eraseIdx j = nD (l.eraseIdx j)
  | [], _ => rfl
  | _ :: _, 0 => rfl
  | a :: l, j + 1 => by
    have ih := nD_erase (l := l) (j := j)
    unfold nD at ih ⊢
    simp [List.eraseIdx, ih]
theorem nD_snoc {l : List Nat} {v : Nat} : nD l ++ [.int (v : Int)] = nD (l ++ [v]) := by unfold nD; rw [List.map_append]; rfl
theorem erase_perm {l : List Nat} : ∀ {j : Nat} {z : Nat}, l[j]? = some z → (z :: l.eraseIdx j).Perm l := by
  induction l with
  | nil => intro j z h; simp at h
  | cons a l ih =>
    intro j z h
    cases j with
    | zero =>
      have h : a = z := by simpa using h
      subst h; exact .refl _
    | succ j => exact (List.Perm.swap a z _).trans ((ih (by simpa using h)).cons a)
section
variable {P : Program} {wd : World} {K : PySem.W.Frag} {mg : Str → Option Value} {base : Heap} (B : Blt mg) (G : Gc mg)
abbrev s68 : Stmt := top 68
theorem sc68 : FnScope ["_law_deal", "_law_tables", "_law_many", "_law_pool", "_law_called", "_law_turn", "_law_found", "_law_table", "_law_row", "_law_state"] ["_law_deal", "_law_tables", "_law_many"] (defScope s68) := ⟨rfl, rfl, rfl, by decide +kernel, rfl, by decide +kernel, by decide +kernel⟩
include B in
theorem ok68 {f : Addr} {fd : FuncData} (F : Df K mg "_law_turned" s68 f fd) (C66 : CAny P wd K mg base) : Cal P wd K mg base "_law_turned" 2 ["_law_deal", "_law_tables", "_law_many"] (spN PreTu PostTu) := by
  refine ⟨f, fd, fn_new F.F sc68 (fun g ds o ⟨e, _⟩ => by rw [e]; rfl) ?_, F.g, F.F.kp, F.F.binds fun _ _ _ _ _ _ us hl => match us, hl with | [_, _, _], _ => rfl⟩
  rintro cdv A outer s H Er fm ⟨g, t, n⟩ ds own ⟨rfl, rfl, ok, om⟩ M0 H0 σ D c q hn
  simp only at ok om c
  have n12 := om.n12
  have t8 := om.d8
  -- _law_pool, _law_called = (list(range(_law_many)), [])
  refine b_cons (k_par fm 3 4 c (xa_cn (Pr := fun x r o => ∃ (p l : Addr), x = .ref p ∧ r = [.ref l] ∧ o = (l, .l []) :: (p, .l (rgD 0 (n : Int).toNat)) :: g.own) (EN.xn (n_listRg fm B (w_nm 2 (fun _ => rfl) rfl) (by omega) (by omega))) (fun x o ⟨p, e1, e2⟩ => by
    subst e1 e2
    refine XA.imp (xa_one (EN.xn (n_lst a_nil))) ?_
    rintro r o' ⟨y, e3, l, e4, e5⟩
    subst e3 e4 e5
    exact ⟨p, l, rfl, rfl, rfl⟩)) (fun _ => rfl) (fun _ => rfl) ?_)
  rintro ds o ⟨x, r, o1, rfl, _, p, l, rfl, rfl, rfl⟩
  refine ⟨_, _, rfl, fun σ M H c => ?_⟩
  have er : rgD 0 (n : Int).toNat = nD (List.range n) := by
    unfold rgD nD
    rw [Int.toNat_natCast]
    exact List.map_congr_left fun i _ => by rw [Int.zero_add]
  rw [er] at c
  have c := c.perm (o2 := g.own ++ [(p, .l (nD (List.range n))), (l, .l (nD []))]) (show (((l, OC.l []) :: (p, OC.l (nD (List.range n))) :: g.own).Perm (g.own ++ [(p, .l (nD (List.range n))), (l, .l [])])) from perm_c fun x => by simp only [List.count_cons, List.count_append, List.count_nil]; omega)
  refine b_cons (k_forB fm (G := Dl × List Nat × List Nat) (fun i x => DlOk x.1 ∧ x.1.a = g.a ∧ x.1.l = g.l ∧ x.2.2.length = i ∧ (x.2.2 ++ x.2.1).Perm (List.range n)) (fun x => x.1.own ++ [(p, .l (nD x.2.1)), (l, .l (nD x.2.2))]) (fun _ => [some (.ref g.a), some (.lst (tL t)), some (.int (n : Int)), some (.ref p), some (.ref l), none, none, none, none, none]) (g, List.range n, []) (f1 5) c (i_rg1 fm B (w_nm 2 (fun _ => rfl) rfl)) ⟨ok, rfl, rfl, rfl, .refl _⟩ rfl (fun _ _ _ σ M H c => c) (fun i d h => (g_name fm 5 (fun _ => rfl))) (fun M1 H1 lf i d x σ M H hi hP c D1 e1 e2 kn => ?_) (fun x σ M H hP c => ?_) (fun _ => passes_of rfl))
  · obtain ⟨g2, pool, called⟩ := x
    obtain ⟨ok2, ea2, el2, hl, hp⟩ := hP
    simp only at ok2 ea2 el2 hl hp c
    obtain ⟨hi1, rfl⟩ := rgD_get hi
    have hlen := hp.length_eq
    rw [List.length_append, List.length_range] at hlen
    have hpl : pool.length = n - i := by omega
    have hpl1 : 1 ≤ pool.length := by omega
    refine b_one (k_app fm (kk := 3) c (w_nm 4 (fun _ => rfl) rfl) rfl (x_popAt (kk := 2) fm (w_nm 3 (fun _ => rfl) rfl) rfl (V_.run (v_any fm C66 (m := pool.length) (rest := [(p, .l (nD pool)), (l, .l (nD called))]) (fun own hi => w_nm 0 (fun _ => rfl) rfl) (fun own hi => by
      obtain ⟨g', _, _, _, rfl⟩ := hi
      exact E.eq (w_lenO (kk := 2) fm B (w_nm 3 (fun _ => rfl) rfl) rfl) (congrArg Ly.D.int (by rw [nD_len]))) hpl1 (by omega)) ⟨g2, ok2, ea2, el2, rfl⟩) (by rw [nD_len]; omega) ?_) ?_)
    · rintro d w ⟨⟨_, rfl, v, hv, rfl⟩, g3, ok3, ea3, el3, rfl⟩
      exact ⟨rfl, v, rfl, by rw [nD_len]; exact hv⟩
    · rintro d o ⟨j, w, ⟨⟨_, ej, v, hv, rfl⟩, g3, ok3, ea3, el3, rfl⟩, hz, rfl⟩
      have ej : j = v := by
        have := V.int.inj (show V.int (j : Int) = V.int (v : Int) by injection ej)
        omega
      subst ej
      obtain ⟨z, hz1, rfl⟩ := nD_get hz
      refine ⟨3, nD called, rfl, by rw [nD_len]; omega, fun M H c => ?_⟩
      have hp' : ((called ++ [z]) ++ pool.eraseIdx j).Perm (List.range n) := by
        rw [List.append_assoc]
        exact ((erase_perm hz1).append_left called).trans hp
      refine kn (g3, pool.eraseIdx j, called ++ [z]) σ M H ⟨ok3, ea3, el3, by rw [List.length_append, hl]; rfl, hp'⟩ ?_
      have c := c.forget 5
      have e1 : (nD pool).eraseIdx j = nD (pool.eraseIdx j) := nD_erase
      have e2 : nD called ++ [.int (z : Int)] = nD (called ++ [z]) := nD_snoc
      show C _ M1 H1 (g3.own ++ [(p, .l (nD (pool.eraseIdx j))), (l, .l (nD (called ++ [z])))]) _ σ M H
      rw [← e1, ← e2]
      exact c
  obtain ⟨g2, pool, r⟩ := x
  obtain ⟨ok2, ea2, el2, hl, hp⟩ := hP
  simp only at ok2 ea2 el2 hl hp c
  rw [rgD_len, Int.toNat_natCast] at hl
  have hpool : pool = [] := by
    have := hp.length_eq
    rw [List.length_append, List.length_range] at this
    refine List.length_eq_zero_iff.mp (by omega)
  subst hpool
  rw [List.append_nil] at hp
  -- _law_found = []
  refine b_cons (k_new fm 6 c (n_lst a_nil) (fun _ => rfl) fun fl σ M H c => ?_)
  have c := c.perm (o2 := g2.own ++ [(p, .l (nD [])), (l, .l (nD r)), (fl, .l (tL []))]) (show (((fl, OC.l []) :: (g2.own ++ [(p, .l (nD [])), (l, .l (nD r))])).Perm (g2.own ++ [(p, .l (nD [])), (l, .l (nD r)), (fl, .l [])])) from perm_c fun x => by simp only [List.count_cons, List.count_append, List.count_nil]; omega)
  have hr : ∀ s, s < n → r.getD s 0 < n := fun s hs => List.mem_range.mp (hp.mem_iff.mp (getD_mem (by omega)))
  refine b_cons (k_forB fm (G := List (List Nat)) (fun i x => x = (t.take i).map fun row => turnRow r row n) (fun x => g2.own ++ [(p, .l (nD [])), (l, .l (nD r)), (fl, .l (tL x))]) (fun _ => [some (.ref g.a), some (.lst (tL t)), some (.int (n : Int)), some (.ref p), some (.ref l), none, some (.ref fl), none, none, none]) [] (f1 7) c (i_sq fm (w_nm 1 (fun _ => rfl) rfl) qL) rfl rfl (fun _ _ _ σ M H c => c) (fun i d h => (g_name fm 7 (fun _ => rfl))) (fun M1 H1 lf i d x σ M H hi hP c D1 e1 e2 kn => ?_) (fun x σ M H hP c => ?_) (fun _ => passes_of rfl))
  · obtain ⟨row, hrow, rfl⟩ := tL_get hi
    obtain ⟨rl, rx⟩ := om.row row (List.mem_of_getElem? hrow)
    subst hP
    generalize hx : (t.take i).map (fun row => turnRow r row n) = x at c
    have hxl : x.length ≤ 8 := by rw [← hx, List.length_map, List.length_take]; omega
    have e1 : (List.replicate (n : Int).toNat [Ly.D.int 0]).flatten = nD (List.replicate n 0) := by rw [Int.toNat_natCast]; exact rep_flat (x := 0)
    refine b_cons (k_new fm 8 c (EN.to (n_rep (w_lst (a_cons w_int a_nil)) (w_nm 2 (fun _ => rfl) rfl) ⟨by omega, by omega, Nat.le_refl 1⟩) e1) (fun _ => rfl) fun rw_ σ M H c => ?_)
    refine b_cons (k_forB fm (G := List Nat) (fun i y => y = (List.range i).foldl (fun y s => y.set (r.getD s 0) (r.getD (row.getD s 0) 0)) (List.replicate n 0) ∧ y.length = n) (fun y => (rw_, .l (nD y)) :: (g2.own ++ [(p, .l (nD [])), (l, .l (nD r)), (fl, .l (tL x))])) (fun _ => [some (.ref g.a), some (.lst (tL t)), some (.int (n : Int)), some (.ref p), some (.ref l), none, some (.ref fl), some (.lst (nD row)), some (.ref rw_), none]) (List.replicate n 0) (f1 9) c (i_rg1 fm B (w_nm 2 (fun _ => rfl) rfl)) ⟨rfl, List.length_replicate⟩ rfl (fun _ _ _ σ M H c => c) (fun i d h => (g_name fm 9 (fun _ => rfl))) (fun M2 H2 lf2 j d y σ M H hj hP c D2 f1' f2' kn2 => ?_) (fun y σ M H hP c => ?_) (fun _ => passes_of rfl))
    · obtain ⟨hy, hyl⟩ := hP
      obtain ⟨hj1, rfl⟩ := rgD_get hj
      have hj1 : j < n := by omega
      rw [show (0 : Int) + (j : Int) = (j : Int) by omega] at c
      have hrow2 : row.getD j 0 < n := rx _ (getD_mem (by omega))
      have h1 := hr j hj1
      have h2 := hr _ hrow2
      refine b_one (k_itemX fm (x := ((r.getD j 0 : Nat) : Int)) (j := r.getD j 0) (ad := rw_) c (E.x (w_ixO (kk := 4) fm (w_nm 4 (fun _ => rfl) rfl) (w_ix fm (w_nm 7 (fun _ => rfl) rfl) (w_nm 9 (fun _ => rfl) rfl) qL (atI_of j (nD_at (by omega)))) rfl (atI_of (row.getD j 0) (nD_at (by omega))))) ?_ ?_ ?_)
      · rintro d o ⟨rfl, rfl⟩; exact w_nm 8 (fun _ => rfl) rfl
      · rintro d o ⟨rfl, rfl⟩; exact w_ixO (kk := 4) fm (w_nm 4 (fun _ => rfl) rfl) (w_nm 9 (fun _ => rfl) rfl) rfl (atI_of j (nD_at (by omega)))
      rintro d o ⟨rfl, rfl⟩
      refine ⟨0, nD y, rfl, ixN_of (by rw [nD_len]; omega), fun M H c => ?_⟩
      rw [nD_setI] at c
      refine kn2 (y.set (r.getD j 0) (r.getD (row.getD j 0) 0)) σ M H ⟨?_, by rw [List.length_set]; exact hyl⟩ (c.forget 9)
      rw [List.range_succ, List.foldl_append, ← hy]
      rfl
    · obtain ⟨hy, hyl⟩ := hP
      rw [rgD_len, Int.toNat_natCast] at hy
      have hF : rw_ ∉ (g2.own ++ [(p, OC.l (nD [])), (l, .l (nD r)), (fl, .l (tL x))]).map (·.1) := by
        have nd := c.sd.ow.nd
        rw [List.map_cons] at nd; rw [List.nodup_cons] at nd
        exact nd.1
      obtain ⟨M', c2, _, dv⟩ := C.frz c hF rfl
      have c3 := c2.again (i := 8) (d := .ref rw_) (d' := .lst (nD y)) rfl fun v r => by rw [r.raw_eq]; exact dv
      refine b_one (k_app fm (kk := 4) c3 (w_nm 6 (fun _ => rfl) rfl) rfl (E.x (w_nm 8 (fun _ => rfl) rfl)) ?_)
      rintro d o ⟨rfl, rfl⟩
      refine ⟨4, tL x, rfl, by unfold tL; rw [List.length_map]; omega, fun M H c => ?_⟩
      have et : tL x ++ [.lst (nD y)] = tL (x ++ [y]) := by unfold tL; rw [List.map_append]; rfl
      rw [et] at c
      refine kn (x ++ [y]) σ M H ?_ ((c.forget 7).forget 8)
      have tk : t.take (i + 1) = t.take i ++ [row] := by rw [List.take_add_one, hrow]; rfl
      rw [tk, List.map_append, hx, hy]
      rfl
  · subst hP
    have etk : (t.take (tL t).length) = t := by unfold tL; rw [List.length_map, List.take_length]
    rw [etk] at c
    have c1 := c.perm (o2 := (p, .l (nD [])) :: (l, .l (nD r)) :: (fl, .l (tL (t.map fun row => turnRow r row n))) :: g2.own) (List.perm_append_comm)
    have hF : p ∉ (Dl.own g).map (·.1) ∧ l ∉ (Dl.own g).map (·.1) ∧ fl ∉ (Dl.own g).map (·.1) := by
      have nd := c1.sd.ow.nd
      have e : (Dl.own g).map (·.1) = g2.own.map (·.1) := by
        show [g.a, g.l] = [g2.a, g2.l]
        rw [ea2, el2]
      rw [e]
      simp only [List.map_cons, List.nodup_cons, List.mem_cons, not_or] at nd
      exact ⟨nd.1.2.2, nd.2.1.2, nd.2.2.1⟩
    have c2 := C.drop c1 hF.1
    obtain ⟨M3, c3, s3, dv3⟩ := C.frz c2 hF.2.1 rfl
    obtain ⟨M4, c4, s4, dv4⟩ := C.frz c3 hF.2.2 rfl
    have c5 := c4.again (i := 4) (d := .ref l) (d' := .lst (nD r)) rfl fun v h => by rw [h.raw_eq]; exact dv3.mono s4
    have c6 := c5.again (i := 6) (d := .ref fl) (d' := .lst (tL (t.map fun row => turnRow r row n))) rfl fun v h => by rw [h.raw_eq]; exact dv4
    exact b_one (k_ret c6 (w_tup (a_cons (w_nm 6 (fun _ => rfl) rfl) (a_cons (w_nm 4 (fun _ => rfl) rfl) a_nil)) (show 2 ≤ 100000 by decide)) fun v M H c h => q v _ _ _ σ M H ⟨r, g2, hp, rfl, ok2, ea2, el2, rfl⟩ c h)
end
end Hb
/-! Mt1: machines whose deeds commute on a closed set; turned tables. -/
namespace Hb
open PySem L2 Mc Ly
/-- a start within a set that deeds do not leave and on which they commute -/
structure CMach (t : List (List Nat)) (n first : Nat) : Prop where
  ok : MOk t n
  lt : first < n
  ex : ∃ S : Nat → Prop, S first ∧ (∀ x, S x → x < n) ∧ (∀ x d, S x → d < t.length → S (step t x d)) ∧ ∀ x d e, S x → d < t.length → e < t.length → step t (step t x d) e = step t (step t x e) d
theorem foldl_len {r row : List Nat} : ∀ (l : List Nat) (y : List Nat), (l.foldl (fun y s => y.set (r.getD s 0) (r.getD (row.getD s 0) 0)) y).length = y.length
  | [], _ => rfl
  | a :: l, y => by
    show (l.foldl _ (y.set _ _)).length = _
    rw [foldl_len l, List.length_set]
theorem turn_len {r row : List Nat} {n : Nat} : (turnRow r row n).length = n := by
  unfold turnRow
  rw [foldl_len, List.length_replicate]
theorem perm_lt {r : List Nat} {n s : Nat} (hp : r.Perm (List.range n)) (hs : s < n) : r.getD s 0 < n := by
  have hl := hp.length_eq
  rw [List.length_range] at hl
  exact List.mem_range.mp (hp.mem_iff.mp (getD_mem (by omega)))
theorem perm_inj {r : List Nat} {n s u : Nat} (hp : r.Perm (List.range n)) (hs : s < n) (hu : u < n) (e : r.getD s 0 = r.getD u 0) : s = u := by
  have hl := hp.length_eq
  rw [List.length_range] at hl
  have nd : r.Nodup := hp.nodup_iff.mpr List.nodup_range
  have e1 : r[s]'(by omega) = r[u]'(by omega) := by
    simpa [List.getD, show s < r.length by omega, show u < r.length by omega] using e
  exact (List.getElem_inj nd).mp e1
theorem turn_upto {r row : List Nat} {n : Nat} (hp : r.Perm (List.range n)) : ∀ k, k ≤ n → ∀ s, s < k → ((List.range k).foldl (fun y s => y.set (r.getD s 0) (r.getD (row.getD s 0) 0)) (List.replicate n 0)).getD (r.getD s 0) 0 = r.getD (row.getD s 0) 0
  | 0, _, s, hs => by omega
  | k + 1, hk, s, hs => by
    rw [List.range_succ]; rw [List.foldl_append]
    show (((List.range k).foldl (fun y s => y.set (r.getD s 0) (r.getD (row.getD s 0) 0)) (List.replicate n 0)).set (r.getD k 0) _).getD _ 0 = _
    have hlen : ((List.range k).foldl (fun y s => y.set (r.getD s 0) (r.getD (row.getD s 0) 0)) (List.replicate n 0)).length = n := by rw [foldl_len, List.length_replicate]
    rw [getD_set (by rw [hlen]; exact perm_lt hp (by omega))]
    by_cases h : r.getD s 0 = r.getD k 0
    · have : s = k := perm_inj hp (by omega) (by omega) h
      subst this
      rw [if_pos rfl]
    · rw [if_neg h]
      have : s ≠ k := fun z => h (by rw [z])
      exact turn_upto hp k (by omega) s (by omega)
theorem turn_at {r row : List Nat} {n s : Nat} (hp : r.Perm (List.range n)) (hs : s < n) : (turnRow r row n).getD (r.getD s 0) 0 = r.getD (row.getD s 0) 0 := turn_upto hp n (Nat.le_refl _) s hs
theorem perm_onto {r : List Nat} {n x : Nat} (hp : r.Perm (List.range n)) (hx : x < n) : ∃ s, s < n ∧ r.getD s 0 = x := by
  have hl := hp.length_eq
  rw [List.length_range] at hl
  obtain ⟨s, hs⟩ := List.getElem?_of_mem (hp.mem_iff.mpr (List.mem_range.mpr hx))
  exact ⟨s, by have := lt_of_get hs; omega, getD_of hs⟩
theorem step_map {t : List (List Nat)} {g : List Nat → List Nat} {x d : Nat} (hd : d < t.length) : step (t.map g) x d = (g (t.getD d [])).getD x 0 := by
  unfold step
  rw [getD_of (x := g (t.getD d [])) (by rw [List.getElem?_map, getD_at (d := []) hd]; rfl)]
/-- turning keeps it -/
theorem CMach.turn {t : List (List Nat)} {n first : Nat} (c : CMach t n first) {r : List Nat} (hp : r.Perm (List.range n)) : CMach (t.map fun row => turnRow r row n) n (r.getD first 0) := by
  obtain ⟨ok, lt, S, s0, s1, s2, s3⟩ := c
  have st : ∀ s d, s < n → d < t.length → step (t.map fun row => turnRow r row n) (r.getD s 0) d = r.getD (step t s d) 0 := fun s d hs hd => by
    rw [step_map hd, turn_at hp hs]; rfl
  refine ⟨⟨by rw [List.length_map]; exact ok.d1, by rw [List.length_map]; exact ok.d8, ok.n1, ok.n12, fun row hr => ?_⟩, perm_lt hp lt, fun y => ∃ x, S x ∧ y = r.getD x 0, ⟨first, s0, rfl⟩, ?_, ?_, ?_⟩
  · obtain ⟨q, hq, rfl⟩ := List.mem_map.mp hr
    refine ⟨turn_len, fun x hx => ?_⟩
    rcases List.getElem?_of_mem hx with ⟨j, hj⟩
    have hjn : j < n := by have := lt_of_get hj; rw [turn_len] at this; exact this
    obtain ⟨s, hs, es⟩ := perm_onto hp hjn
    have e : (turnRow r q n).getD j 0 = x := getD_of hj
    rw [← es, turn_at hp hs] at e
    obtain ⟨l1, l2⟩ := ok.row q hq
    rw [← e]
    exact perm_lt hp (l2 _ (getD_mem (by omega)))
  · rintro y ⟨x, hx, rfl⟩
    exact perm_lt hp (s1 x hx)
  · rintro y d ⟨x, hx, rfl⟩ hd
    rw [List.length_map] at hd
    exact ⟨_, s2 x d hx hd, st x d (s1 x hx) hd⟩
  · rintro y d e ⟨x, hx, rfl⟩ hd he
    rw [List.length_map] at hd he
    have h1 := s2 x d hx hd
    have h2 := s2 x e hx he
    rw [st x d (s1 x hx) hd, st x e (s1 x hx) he, st _ e (s1 _ h1) he, st _ d (s1 _ h2) hd, s3 x d e hx hd he]
end Hb
/-! Mt2: products of two rho's. -/
namespace Hb
open PySem L2 Mc Ly
def rho (n b x : Nat) : Nat := if x + 1 < n then x + 1 else b
theorem rho_lt {n b x : Nat} (hb : b < n) : rho n b x < n := by unfold rho; split <;> omega
theorem itr_rho {n b : Nat} (hb : b < n) {x : Nat} (hx : x < n) (k : Nat) : itr (rho n b) k x < n := itr_lt (fun _ _ => rho_lt hb) hx k
theorem itr_comm {f : Nat → Nat} {s : Nat} (a b : Nat) : itr f a (itr f b s) = itr f b (itr f a s) := by rw [← itr_add, ← itr_add, Nat.add_comm]
/-- how the machine is drawn -/
structure PM where
  one : Nat
  oth : Nat
  b1 : Nat
  b2 : Nat
  n : Nat
structure PMOk (m : PM) : Prop where
  o1 : 1 ≤ m.one
  o4 : m.one ≤ 4
  t1 : 1 ≤ m.oth
  t3 : m.oth ≤ 3
  b1 : m.b1 < m.one
  b2 : m.b2 < m.oth
  n1 : m.one * m.oth ≤ m.n
  n12 : m.n ≤ 12
def prodRow (m : PM) (s1 s2 : Nat) : List Nat := (List.range (m.one * m.oth)).map fun s => itr (rho m.one m.b1) s1 (s / m.oth) * m.oth + itr (rho m.oth m.b2) s2 (s % m.oth)
def Rows (m : PM) (t : List (List Nat)) : Prop := ∀ row ∈ t, ∃ (s1 s2 : Nat) (ex : List Nat), row = prodRow m s1 s2 ++ ex ∧ ex.length = m.n - m.one * m.oth ∧ ∀ x ∈ ex, x < m.n
theorem prod_lt {m : PM} (ok : PMOk m) {a b : Nat} (ha : a < m.one) (hb : b < m.oth) : a * m.oth + b < m.one * m.oth := by
  have : (a + 1) * m.oth ≤ m.one * m.oth := Nat.mul_le_mul_right _ ha
  rw [Nat.succ_mul] at this
  omega
theorem div_lt {m : PM} (ok : PMOk m) {s : Nat} (hs : s < m.one * m.oth) : s / m.oth < m.one := (Nat.div_lt_iff_lt_mul (by have := ok.t1; omega)).mpr hs
theorem mod_lt' {m : PM} (ok : PMOk m) {s : Nat} : s % m.oth < m.oth := Nat.mod_lt _ (by have := ok.t1; omega)
theorem dv {m : PM} (ok : PMOk m) {a b : Nat} (hb : b < m.oth) : (a * m.oth + b) / m.oth = a ∧ (a * m.oth + b) % m.oth = b := by
  have h := ok.t1
  refine ⟨?_, ?_⟩
  · rw [Nat.mul_comm, Nat.mul_add_div (by omega), Nat.div_eq_of_lt hb, Nat.add_zero]
  · rw [Nat.mul_comm, Nat.mul_add_mod, Nat.mod_eq_of_lt hb]
theorem prod_at {m : PM} {s1 s2 s : Nat} {ex : List Nat} (hs : s < m.one * m.oth) : (prodRow m s1 s2 ++ ex).getD s 0 = itr (rho m.one m.b1) s1 (s / m.oth) * m.oth + itr (rho m.oth m.b2) s2 (s % m.oth) := by
  refine getD_of ?_
  rw [List.getElem?_append_left (by unfold prodRow; rw [List.length_map, List.length_range]; exact hs)]
  unfold prodRow
  rw [List.getElem?_map, List.getElem?_range hs]
  rfl
theorem prod_ok {m : PM} (ok : PMOk m) {t : List (List Nat)} {first : Nat} (d1 : 1 ≤ t.length) (d8 : t.length ≤ 8) (rs : Rows m t) (hf : first < m.one * m.oth) : CMach t m.n first := by
  have n1 := ok.n1
  have st : ∀ s d, s < m.one * m.oth → d < t.length → ∃ s1 s2, ∀ s, s < m.one * m.oth → step t s d = itr (rho m.one m.b1) s1 (s / m.oth) * m.oth + itr (rho m.oth m.b2) s2 (s % m.oth) := fun s d hs hd => by
    obtain ⟨s1, s2, ex, e, _, _⟩ := rs _ (getD_mem (d := []) hd)
    exact ⟨s1, s2, fun s hs => by unfold step; rw [e, prod_at hs]⟩
  refine ⟨⟨d1, d8, by omega, ok.n12, fun row hr => ?_⟩, by omega, fun x => x < m.one * m.oth, hf, fun x hx => by omega, fun x d hx hd => ?_, fun x d e hx hd he => ?_⟩
  · obtain ⟨s1, s2, ex, rfl, el, ex2⟩ := rs row hr
    refine ⟨by rw [List.length_append, el]; unfold prodRow; rw [List.length_map, List.length_range]; omega, fun x hx => ?_⟩
    obtain hx | hx := List.mem_append.mp hx
    · unfold prodRow at hx
      obtain ⟨s, hs, rfl⟩ := List.mem_map.mp hx
      have hs := List.mem_range.mp hs
      have := prod_lt ok (itr_rho ok.b1 (div_lt ok hs) s1) (itr_rho ok.b2 (mod_lt' ok (s := s)) s2)
      omega
    · exact ex2 x hx
  · obtain ⟨s1, s2, h⟩ := st x d hx hd
    rw [h x hx]
    exact prod_lt ok (itr_rho ok.b1 (div_lt ok hx) s1) (itr_rho ok.b2 (mod_lt' ok) s2)
  · obtain ⟨s1, s2, h⟩ := st x d hx hd
    obtain ⟨u1, u2, k⟩ := st x e hx he
    have a1 := itr_rho ok.b1 (div_lt ok hx) s1
    have a2 := itr_rho ok.b2 (mod_lt' ok (s := x)) s2
    have c1 := itr_rho ok.b1 (div_lt ok hx) u1
    have c2 := itr_rho ok.b2 (mod_lt' ok (s := x)) u2
    rw [h x hx, k x hx, k _ (prod_lt ok a1 a2), h _ (prod_lt ok c1 c2), (dv ok a2).1, (dv ok a2).2, (dv ok c2).1, (dv ok c2).2, itr_comm s1 u1, itr_comm s2 u2]
end Hb
/-! Df16: machines drawn. -/
namespace Hb
open PySem L2 Mc Ly
section
variable {P : Program} {wd : World} {K : PySem.W.Frag} {mg : Str → Option Value} {base : Heap} (B : Blt mg) (G : Gc mg)
theorem x_tupX {ι : Type} {Z : ι → Cx} {own : Own} {ρ : Ev} {es : List Expr} {k : Nat} {pos : Pos} {Pa : List D → Own → Prop} (h : XA own ρ (wA Z es) Pa) (hl : ∀ ds o, Pa ds o → ds.length ≤ 100000) : X own ρ (wE Z (.Tuple es k pos)) (fun d o => ∃ ds, d = .tup ds ∧ Pa ds o) := X.wz (x_tup h hl) fun n => pe_tup (pa_w n)
abbrev s69 : Stmt := top 69
theorem sc69 : FnScope ["_law_deal", "_law_one", "_law_other", "_law_back", "_law_more", "_law_many", "_law_tables", "_law_deed", "_law_steps_here", "_law_row", "_law_state", "_law_here", "_law_there", "_law_turn", "_law_called"] ["_law_deal"] (defScope s69) := ⟨rfl, rfl, rfl, by decide +kernel, rfl, by decide +kernel, by decide +kernel⟩
abbrev PreMa (x : Dl) (ds : List D) (o : Own) : Prop := ds = [.ref x.a] ∧ o = x.own ∧ DlOk x
abbrev PostMa (x : Dl) (d : D) (o : Own) : Prop := ∃ (t : List (List Nat)) (n first : Nat) (g' : Dl), d = .tup [.lst (tL t), .int (first : Int)] ∧ CMach t n first ∧ t.length ≤ 3 ∧ DlOk g' ∧ g'.a = x.a ∧ g'.l = x.l ∧ o = g'.own
theorem nats_of {n : Nat} : ∀ {es : List D}, (∀ e ∈ es, ∃ v : Nat, v < n ∧ e = .int (v : Int)) → ∃ ex : List Nat, es = nD ex ∧ ∀ x ∈ ex, x < n
  | [], _ => ⟨[], rfl, fun _ h => nomatch h⟩
  | e :: es, h => by
    obtain ⟨v, hv, rfl⟩ := h e List.mem_cons_self
    obtain ⟨ex, rfl, hx⟩ := nats_of (es := es) fun e he => h e (List.mem_cons_of_mem _ he)
    refine ⟨v :: ex, rfl, fun x hxx => ?_⟩
    rcases List.mem_cons.mp hxx with rfl | hxx
    · exact hv
    · exact hx x hxx
theorem prod_lt2 {a b : Nat} (h1 : a ≤ 4) (h2 : b ≤ 3) : a * b ≤ 12 := Nat.mul_le_mul h1 h2
include B in
theorem ok69 {f : Addr} {fd : FuncData} (F : Df K mg "_law_machine" s69 f fd) (C66 : CAny P wd K mg base) (C68 : Cal P wd K mg base "_law_turned" 2 ["_law_deal", "_law_tables", "_law_many"] (spN PreTu PostTu)) : Cal P wd K mg base "_law_machine" 3 ["_law_deal"] (spN PreMa PostMa) := by
  refine ⟨f, fd, fn_new F.F sc69 (fun g ds o ⟨e, _⟩ => by rw [e]; rfl) ?_, F.g, F.F.kp, F.F.binds fun _ _ _ _ _ _ us hl => match us, hl with | [_], _ => rfl⟩
  rintro cdv A outer s H Er fm g ds own ⟨rfl, rfl, ok⟩ M0 H0 σ D c q hn
  have c : C _ M0 H0 (g.own ++ []) _ σ M0 H0 := c.perm (List.Perm.of_eq (List.append_nil _).symm)
  -- _law_one, _law_other = (1 + _law_any(_law_deal, 4), 1 + _law_any(_law_deal, 3))
  refine b_cons (k_par fm 1 2 c ((va_cons (v_add (VI.of fun own hi => w_int) (v_any fm C66 (m := 4) (rest := []) (fun own hi => w_nm 0 (fun _ => rfl) rfl) (fun own hi => w_int) (by decide) (by decide))) (va_cons (v_add (VI.of fun own hi => w_int) (v_any fm C66 (m := 3) (fun own hi => w_nm 0 (fun _ => rfl) rfl) (fun own hi => w_int) (by decide) (by decide))) va_nil)) _ (ID.of ok)) (fun _ => rfl) (fun _ => rfl) ?_)
  rintro ds o ⟨⟨x, r, rfl, ⟨_, rfl, a1, a2, rfl, ⟨v1, hv1, rfl⟩, rfl⟩, y, r2, rfl, ⟨_, rfl, a3, a4, rfl, ⟨v2, hv2, rfl⟩, rfl⟩, rfl⟩, g1, ok1, ea1, el1, rfl⟩
  refine ⟨_, _, rfl, fun σ M H c => ?_⟩
  rw [show (1 : Int) + (v1 : Int) = ((1 + v1 : Nat) : Int) by omega, show (1 : Int) + (v2 : Int) = ((1 + v2 : Nat) : Int) by omega] at c
  generalize ho1 : 1 + v1 = one at c
  generalize ho2 : 1 + v2 = oth at c
  have h12 : one * oth ≤ 12 := prod_lt2 (by omega) (by omega)
  have h1 : 1 ≤ one * oth := Nat.mul_pos (by omega) (by omega)
  -- _law_back = [_law_any(_law_deal, _law_one), _law_any(_law_deal, _law_other)]
  refine b_cons (k_setX fm 3 c (V_.run (v_lst (va_cons (v_any fm C66 (m := one) (rest := []) (fun own hi => w_nm 0 (fun _ => rfl) rfl) (fun own hi => w_nm 1 (fun _ => rfl) rfl) (by omega) (by omega)) (va_cons (v_any fm C66 (m := oth) (fun own hi => w_nm 0 (fun _ => rfl) rfl) (fun own hi => w_nm 2 (fun _ => rfl) rfl) (by omega) (by omega)) va_nil)) (fun ds ⟨x, r, e, _, y, r2, e2, _, e3⟩ => by rw [e, e2, e3]; show 2 ≤ 100000; decide)) ⟨g1, ok1, ea1, el1, rfl⟩) (fun _ => rfl) ?_)
  rintro d o σ M H ⟨⟨ds, rfl, x, r, rfl, ⟨_, rfl, b1, hb1, rfl⟩, y, r2, rfl, ⟨_, rfl, b2, hb2, rfl⟩, rfl⟩, g2, ok2, ea2, el2, rfl⟩ c
  -- _law_more = ..
  refine b_cons (k_setX fm 4 c (V_.run (v_if (Pa := fun d => ∃ v : Nat, v ≤ 12 - one * oth ∧ d = .int (v : Int)) (vt_cmp (v_any fm C66 (m := 3) (rest := []) (fun own hi => w_nm 0 (fun _ => rfl) rfl) (fun own hi => w_int) (by decide) (by decide)) (VI.of fun own hi => w_int) cI_eq).2 (fun _ => V_.imp (v_any fm C66 (m := 13 - one * oth) (fun own hi => w_nm 0 (fun _ => rfl) rfl) (fun own hi => E.eq (w_sub w_int (w_mulI fm (w_nm 1 (fun _ => rfl) rfl) (w_nm 2 (fun _ => rfl) rfl) (.inl ⟨by omega, by omega⟩))) (congrArg Ly.D.int (by rw [← Int.natCast_mul]; omega))) (by omega) (by omega)) fun d ⟨i, e, v, hv, e2⟩ => ⟨v, by omega, by rw [e, e2]⟩) (fun _ => V_.imp (V_.of fun own hi => w_int) fun d e => ⟨0, Nat.zero_le _, e⟩)) ⟨g2, ok2, ea2, el2, rfl⟩) (fun _ => rfl) ?_)
  rintro d o σ M H ⟨⟨more, hmore, rfl⟩, g3, ok3, ea3, el3, rfl⟩ c
  -- _law_many, _law_tables = (_law_one * _law_other + min(_law_more, 2), [])
  refine b_cons (k_asgX (f := f2 5 6) c (x_tupX (xa_e (w_addI fm (w_mulI fm (w_nm 1 (fun _ => rfl) rfl) (w_nm 2 (fun _ => rfl) rfl) (.inl ⟨by omega, by omega⟩)) (w_min2 fm B (w_nm 4 (fun _ => rfl) rfl) w_int)) (xa_one (EN.xn (n_lst a_nil)))) (fun ds o ⟨r, e, x, e2, _⟩ => by rw [e, e2]; show 2 ≤ 100000; decide)) ?_ ?_)
  · rintro d o ⟨ds, rfl, r, rfl, x, rfl, tl, rfl, rfl⟩
    exact g_tup fm (g_cons fm 5 (fun _ => rfl) (g_cons fm 6 (fun _ => rfl) g_nil))
  rintro d o σ M H ⟨ds, rfl, r, rfl, x, rfl, tl, rfl, rfl⟩ c
  obtain ⟨n, hn1, hn2, en⟩ : ∃ n : Nat, one * oth ≤ n ∧ n ≤ 12 ∧ ((one : Int) * (oth : Int) + (if (2 : Int) < (more : Int) then 2 else (more : Int))) = (n : Int) := by
    by_cases hlt : 2 < more
    · exact ⟨one * oth + 2, by omega, by omega, by rw [if_pos (by omega), Int.natCast_add, Int.natCast_mul]; rfl⟩
    · exact ⟨one * oth + more, by omega, by omega, by rw [if_neg (by omega), Int.natCast_add, Int.natCast_mul]⟩
  rw [en] at c
  have hn12 : n ≤ 12 := hn2
  have mk : PMOk ⟨one, oth, b1, b2, n⟩ := ⟨by show 1 ≤ one; omega, by show one ≤ 4; omega, by show 1 ≤ oth; omega, by show oth ≤ 3; omega, hb1, hb2, hn1, hn12⟩
  have c := c.perm (o2 := g3.own ++ [(tl, .l (tL []))]) (show (((tl, OC.l []) :: (g3.own ++ [])).Perm (g3.own ++ [(tl, OC.l [])])) from perm_c fun x => by simp only [List.count_cons, List.count_append, List.count_nil]; omega)
  -- for _law_deed in range(1 + _law_any(_law_deal, 3)):
  refine b_cons (k_forRX fm B c (V_.run (v_add (VI.of fun own hi => w_int) (v_any fm C66 (m := 3) (rest := [(tl, .l (tL []))]) (fun own hi => w_nm 0 (fun _ => rfl) rfl) (fun own hi => w_int) (by decide) (by decide))) ⟨g3, ok3, ea3, el3, rfl⟩) (fun d o ⟨⟨i, e, a, b, ea, ⟨v, hv, eb⟩, ei⟩, _⟩ => ⟨i, e, by omega, by omega⟩) ?_ (fun _ => passes_of rfl))
  rintro q' o M H wi ⟨⟨i, ei', a, b, ea', ⟨v, hv, eb'⟩, ei⟩, g4, ok4, ea4, el4, rfl⟩ c hi
  have eq' : q' = 1 + (v : Int) := by
    have : q' = i := V.int.inj (by injection ei')
    omega
  refine s_forB (G := Dl × List (List Nat)) (fun i x => DlOk x.1 ∧ x.1.a = g.a ∧ x.1.l = g.l ∧ x.2.length = i ∧ Rows ⟨one, oth, b1, b2, n⟩ x.2) (fun x => x.1.own ++ [(tl, .l (tL x.2))]) (fun _ => [some (.ref g.a), some (.int (one : Int)), some (.int (oth : Int)), some (.lst [.int (b1 : Int), .int (b2 : Int)]), some (.int (more : Int)), some (.int (n : Int)), some (.ref tl), none, none, none, none, none, none, none, none]) (g4, []) c hi ⟨ok4, ea4, el4, rfl, fun _ h => nomatch h⟩ rfl (fun _ _ _ σ M H c => c) (f1 7) (fun i d h => (g_name fm 7 (fun _ => rfl))) (fun M1 H1 lf i d x σ M H hi hP c D1 e1 e2 kn => ?_) (fun x σ M H hP c => ?_)
  · obtain ⟨g5, t⟩ := x
    obtain ⟨ok5, ea5, el5, hl, hr⟩ := hP
    simp only at ok5 ea5 el5 hl hr c
    obtain ⟨hi1, rfl⟩ := rgD_get hi
    have ht3 : t.length < 3 := by omega
    -- _law_steps_here, _law_row = ([_law_any(_law_deal, 4), _law_any(_law_deal, 3)], [])
    refine b_cons (k_par fm 8 9 c (xa_cn (Pr := fun x r o => ∃ (s1 s2 : Nat) (rw_ : Addr) (g' : Dl), s1 < 4 ∧ s2 < 3 ∧ x = .lst [.int (s1 : Int), .int (s2 : Int)] ∧ r = [.ref rw_] ∧ DlOk g' ∧ g'.a = g.a ∧ g'.l = g.l ∧ o = (rw_, .l []) :: (g'.own ++ [(tl, .l (tL t))])) (V_.run (v_lst (va_cons (v_any fm C66 (m := 4) (rest := [(tl, .l (tL t))]) (fun own hi => w_nm 0 (fun _ => rfl) rfl) (fun own hi => w_int) (by decide) (by decide)) (va_cons (v_any fm C66 (m := 3) (fun own hi => w_nm 0 (fun _ => rfl) rfl) (fun own hi => w_int) (by decide) (by decide)) va_nil)) (fun ds ⟨x, r, e, _, y, r2, e2, _, e3⟩ => by rw [e, e2, e3]; show 2 ≤ 100000; decide)) ⟨g5, ok5, ea5, el5, rfl⟩) (fun x o ⟨⟨ds, e1, x1, r1, e2, ⟨_, e3, s1, hs1, e4⟩, y, r2, e5, ⟨_, e6, s2, hs2, e7⟩, e8⟩, g', ok', ea', el', eo⟩ => by
      subst e1 e2 e3 e4 e5 e6 e7 e8 eo
      refine XA.imp (xa_one (EN.xn (n_lst a_nil))) ?_
      rintro r o' ⟨y, e3, l, e4, e5⟩
      subst e3 e4 e5
      exact ⟨s1, s2, l, g', hs1, hs2, rfl, rfl, ok', ea', el', rfl⟩)) (fun _ => rfl) (fun _ => rfl) ?_)
    rintro ds o ⟨x, r, o1, rfl, _, s1, s2, rw_, g6, hs1, hs2, rfl, rfl, ok6, ea6, el6, rfl⟩
    refine ⟨_, _, rfl, fun σ M H c => ?_⟩
    refine b_cons (k_forB fm (G := List Nat) (fun i y => y = (List.range i).map fun s => itr (rho one b1) s1 (s / oth) * oth + itr (rho oth b2) s2 (s % oth)) (fun y => (rw_, .l (nD y)) :: (g6.own ++ [(tl, .l (tL t))])) (fun _ => [some (.ref g.a), some (.int (one : Int)), some (.int (oth : Int)), some (.lst [.int (b1 : Int), .int (b2 : Int)]), some (.int (more : Int)), some (.int (n : Int)), some (.ref tl), none, some (.lst [.int (s1 : Int), .int (s2 : Int)]), some (.ref rw_), none, none, none, none, none]) [] (f1 10) c (i_rg1 fm B (w_mulI fm (w_nm 1 (fun _ => rfl) rfl) (w_nm 2 (fun _ => rfl) rfl) (.inl ⟨by omega, by omega⟩)) (by rw [← Int.natCast_mul]; omega) (by rw [← Int.natCast_mul]; omega)) rfl rfl (fun _ _ _ σ M H c => c.forget 7) (fun i d h => (g_name fm 10 (fun _ => rfl))) (fun M2 H2 lf2 j d y σ M H hj hP c D2 f1' f2' kn2 => ?_) (fun y σ M H hP c => ?_) (fun _ => passes_of rfl))
    · subst hP
      obtain ⟨hj1, rfl⟩ := rgD_get hj
      have hj2 : j < one * oth := by
        rw [← Int.natCast_mul, Int.toNat_natCast] at hj1
        exact hj1
      have mk0 : PMOk ⟨one, oth, b1, b2, n⟩ := mk
      have hjd : j / oth < one := div_lt mk0 hj2
      have hjm : j % oth < oth := Nat.mod_lt _ (by omega)
      rw [show (0 : Int) + (j : Int) = (j : Int) by omega] at c
      -- _law_here, _law_there = (_law_state // _law_other, int(_law_state) % _law_other)
      refine b_cons (k_par fm 11 12 c (EA.xa (a_cons (E.eq (y := .int ((j / oth : Nat) : Int)) (w_div (w_nm 10 (fun _ => rfl) rfl) (w_nm 2 (fun _ => rfl) rfl) ⟨by omega, by omega⟩) rfl) (a_cons (E.eq (y := .int ((j % oth : Nat) : Int)) (w_mod (w_int1 fm B (w_nm 10 (fun _ => rfl) rfl)) (w_nm 2 (fun _ => rfl) rfl) (by omega)) rfl) a_nil))) (fun _ => rfl) (fun _ => rfl) ?_)
      rintro ds o ⟨rfl, rfl⟩
      refine ⟨_, _, rfl, fun σ M H c => ?_⟩
      refine b_cons (k_forB fm (G := Nat) (fun i z => z = itr (rho one b1) i (j / oth)) (fun _ => (rw_, .l (nD ((List.range j).map fun s => itr (rho one b1) s1 (s / oth) * oth + itr (rho oth b2) s2 (s % oth)))) :: (g6.own ++ [(tl, .l (tL t))])) (fun z => [some (.ref g.a), some (.int (one : Int)), some (.int (oth : Int)), some (.lst [.int (b1 : Int), .int (b2 : Int)]), some (.int (more : Int)), some (.int (n : Int)), some (.ref tl), none, some (.lst [.int (s1 : Int), .int (s2 : Int)]), some (.ref rw_), some (.int (j : Int)), some (.int (z : Int)), some (.int ((j % oth : Nat) : Int)), none, none]) (j / oth) (f1 13) c (i_rg1 fm B (w_ix fm (w_nm 8 (fun _ => rfl) rfl) w_int qL rfl)) rfl rfl (fun _ _ _ σ M H c => c) (fun i d h => (g_name fm 13 (fun _ => rfl))) (fun M3 H3 lf3 u d z σ M H hu hP c D3 f1'' f2'' kn3 => ?_) (fun z σ M H hP c => ?_) (fun _ => passes_of rfl))
      · have e1 : ((z : Int) + 1) = ((z + 1 : Nat) : Int) := rfl
        refine b_one (k_set fm 11 c (w_if (d := .int ((rho one b1 z : Nat) : Int)) (t_cmp (w_addI fm (w_nm 11 (fun _ => rfl) rfl) w_int) (w_nm 1 (fun _ => rfl) rfl) cm_lt) (fun h => E.eq (w_addI fm (w_nm 11 (fun _ => rfl) rfl) w_int) (congrArg Ly.D.int (by unfold rho; rw [if_pos (by have := of_decide_eq_true h; omega)]; rfl))) fun h => E.eq (w_ix fm (w_nm 3 (fun _ => rfl) rfl) w_int qL rfl) (congrArg Ly.D.int (by unfold rho; rw [if_neg (by have := of_decide_eq_false h; omega)]))) (fun _ => rfl) fun σ M H c => ?_)
        refine kn3 (rho one b1 z) σ M H ?_ (c.forget 13)
        rw [hP]; rfl
      rw [rgD_len, Int.toNat_natCast] at hP
      subst hP
      refine b_cons (k_forB fm (G := Nat) (fun i z => z = itr (rho oth b2) i (j % oth)) (fun _ => (rw_, .l (nD ((List.range j).map fun s => itr (rho one b1) s1 (s / oth) * oth + itr (rho oth b2) s2 (s % oth)))) :: (g6.own ++ [(tl, .l (tL t))])) (fun z => [some (.ref g.a), some (.int (one : Int)), some (.int (oth : Int)), some (.lst [.int (b1 : Int), .int (b2 : Int)]), some (.int (more : Int)), some (.int (n : Int)), some (.ref tl), none, some (.lst [.int (s1 : Int), .int (s2 : Int)]), some (.ref rw_), some (.int (j : Int)), some (.int ((itr (rho one b1) s1 (j / oth) : Nat) : Int)), some (.int (z : Int)), none, none]) (j % oth) (f1 13) c (i_rg1 fm B (w_ix fm (w_nm 8 (fun _ => rfl) rfl) w_int qL rfl)) rfl rfl (fun _ _ _ σ M H c => c) (fun i d h => (g_name fm 13 (fun _ => rfl))) (fun M3 H3 lf3 u d z σ M H hu hP c D3 f1'' f2'' kn3 => ?_) (fun z σ M H hP c => ?_) (fun _ => passes_of rfl))
      · have e1 : ((z : Int) + 1) = ((z + 1 : Nat) : Int) := rfl
        refine b_one (k_set fm 12 c (w_if (d := .int ((rho oth b2 z : Nat) : Int)) (t_cmp (w_addI fm (w_nm 12 (fun _ => rfl) rfl) w_int) (w_nm 2 (fun _ => rfl) rfl) cm_lt) (fun h => E.eq (w_addI fm (w_nm 12 (fun _ => rfl) rfl) w_int) (congrArg Ly.D.int (by unfold rho; rw [if_pos (by have := of_decide_eq_true h; omega)]; rfl))) fun h => E.eq (w_ix fm (w_nm 3 (fun _ => rfl) rfl) w_int qL rfl) (congrArg Ly.D.int (by unfold rho; rw [if_neg (by have := of_decide_eq_false h; omega)]))) (fun _ => rfl) fun σ M H c => ?_)
        refine kn3 (rho oth b2 z) σ M H ?_ (c.forget 13)
        rw [hP]; rfl
      rw [rgD_len, Int.toNat_natCast] at hP
      subst hP
      refine b_one (k_app fm (kk := 0) c (w_nm 9 (fun _ => rfl) rfl) rfl (E.x (E.eq (w_addI fm (w_mulI fm (w_nm 11 (fun _ => rfl) rfl) (w_nm 2 (fun _ => rfl) rfl) (.inr ⟨by omega, by omega⟩)) (w_nm 12 (fun _ => rfl) rfl)) (by rw [← Int.natCast_mul, ← Int.natCast_add]))) ?_)
      rintro d o ⟨rfl, rfl⟩
      refine ⟨0, _, rfl, by rw [nD_len, List.length_map, List.length_range]; omega, fun M H c => ?_⟩
      rw [nD_snoc] at c
      refine kn2 _ σ M H ?_ (((c.forget 10).forget 11).forget 12)
      rw [List.range_succ, List.map_append]
      rfl
    · have el : (rgD 0 ((one : Int) * (oth : Int)).toNat).length = one * oth := by rw [rgD_len, ← Int.natCast_mul, Int.toNat_natCast]
      rw [el] at hP
      have hF : rw_ ∉ (g4.own ++ [(tl, OC.l (tL []))]).map (·.1) := by
        have nd := c.sd.ow.nd
        rw [List.map_cons] at nd; rw [List.nodup_cons] at nd
        have e : (g4.own ++ [(tl, OC.l (tL []))]).map (·.1) = (g6.own ++ [(tl, OC.l (tL t))]).map (·.1) := by
          show [g4.a, g4.l, tl] = [g6.a, g6.l, tl]
          rw [ea4, el4, ea6, el6]
        rw [e]; exact nd.1
      obtain ⟨M', c2, _, dv⟩ := C.frz c hF rfl
      have c3 := c2.again (i := 9) (d := .ref rw_) (d' := .lst (nD y)) rfl fun v r => by rw [r.raw_eq]; exact dv
      refine b_one (k_app fm (kk := 2) c3 (w_nm 6 (fun _ => rfl) rfl) rfl (V_.run (v_cat (Pl := fun ys => ys.length = n - one * oth ∧ ∀ e ∈ ys, ∃ v : Nat, v < n ∧ e = .int (v : Int)) (fun own hi => w_nm 9 (fun _ => rfl) rfl) (V_.imp (v_lc fm [("_law_turn", 13)] (blkOk_by (sc := defScope s69) (by decide +kernel)) (fun _ => rfl) (fun _ y => ∃ v : Nat, v < n ∧ y = .int (v : Int)) (f1 13) (I := ID g [(tl, .l (tL t))]) (fun own hi => i_rg1 fm B (E.eq (y := .int ((n - one * oth : Nat) : Int)) (w_sub (w_nm 5 (fun _ => rfl) rfl) (w_mulI fm (w_nm 1 (fun _ => rfl) rfl) (w_nm 2 (fun _ => rfl) rfl) (.inl ⟨by omega, by omega⟩))) (congrArg Ly.D.int (by rw [← Int.natCast_mul]; omega)))) (by rw [rgD_len]; omega) (fun i d h => (cw_name (Fam.blk fm) 13 (fun _ => rfl) (by decide))) (fun i d h => V_.imp (v_any (Fam.blk fm) C66 (m := n) (fun own hi => w_nm 0 (fun _ => rfl) rfl) (fun own hi => w_nm 5 (fun _ => rfl) rfl) (by omega) (by omega)) fun d ⟨i, e, v, hv, e2⟩ => ⟨v, hv, by rw [e, e2]⟩)) fun d ⟨es, e, hl, hx⟩ => ⟨es, e, by rw [hl, rgD_len, Int.toNat_natCast], fun z hz => by
        obtain ⟨jj, hjj⟩ := List.getElem?_of_mem hz
        have hlt := lt_of_get hjj
        exact hx jj _ z (List.getElem?_eq_getElem (by omega)) hjj⟩) (fun ys ⟨hl, _⟩ => by rw [hl, nD_len, hP, List.length_map, List.length_range]; omega)) ⟨g6, ok6, ea6, el6, rfl⟩) ?_)
      rintro d o ⟨⟨es, rfl, hes, hex⟩, g7, ok7, ea7, el7, rfl⟩
      obtain ⟨ex, rfl, hex2⟩ := nats_of hex
      refine ⟨2, tL t, rfl, by unfold tL; rw [List.length_map]; omega, fun M H c => ?_⟩
      have et : tL t ++ [.lst (nD y ++ nD ex)] = tL (t ++ [y ++ ex]) := by unfold tL nD; rw [List.map_append, List.map_cons, List.map_append]; rfl
      rw [et] at c
      refine kn (g7, t ++ [y ++ ex]) σ M H ⟨ok7, ea7, el7, by rw [List.length_append, hl]; rfl, fun row hrow => ?_⟩ ((c.forget 8).forget 9)
      rcases List.mem_append.mp hrow with hrow | hrow
      · exact hr row hrow
      · rw [List.mem_singleton.mp hrow]
        exact ⟨s1, s2, ex, by rw [hP]; rfl, by rw [← hes, nD_len], hex2⟩
  · obtain ⟨g5, t⟩ := x
    obtain ⟨ok5, ea5, el5, hl, hr⟩ := hP
    simp only at ok5 ea5 el5 hl hr c
    rw [rgD_len, eq'] at hl
    have hl3 : 1 ≤ t.length ∧ t.length ≤ 3 := by omega
    obtain ⟨M', c2, dv⟩ := let_go c ea5 el5
    have c3 := c2.again (i := 6) (d := .ref tl) (d' := .lst (tL t)) rfl fun v r => by rw [r.raw_eq]; exact dv
    have cm : ∀ f, f < one * oth → CMach t n f := fun f hf => prod_ok mk hl3.1 (by omega) hr hf
    refine b_cons (k_asgX (f := f2 6 14) (Pq := fun d o => ∃ (r : List Nat) (g' : Dl), r.Perm (List.range n) ∧ d = .tup [.lst (tL (t.map fun row => turnRow r row n)), .lst (nD r)] ∧ DlOk g' ∧ g'.a = g.a ∧ g'.l = g.l ∧ o = g'.own ++ []) c3 (x_callN fm C68 (EA.xa (a_cons (w_nm 0 (fun _ => rfl) rfl) (a_cons (w_nm 6 (fun _ => rfl) rfl) (a_cons (w_nm 5 (fun _ => rfl) rfl) a_nil)))) ?_) ?_ ?_)
    · rintro ds o ⟨rfl, rfl⟩
      refine ⟨⟨g5, t, n⟩, g5.own, [], List.Perm.of_eq (List.append_nil _).symm, ⟨by rw [ea5], rfl, ok5, (cm 0 (by omega)).ok⟩, ?_⟩
      rintro d o' ⟨r, g', hp, rfl, ok', ea', el', rfl⟩
      exact ⟨r, g', hp, rfl, ok', ea'.trans ea5, el'.trans el5, rfl⟩
    · rintro d o ⟨r, g', hp, rfl, _⟩
      exact g_tup fm (g_cons fm 6 (fun _ => rfl) (g_cons fm 14 (fun _ => rfl) g_nil))
    rintro d o σ M H ⟨r, g6, hp, rfl, ok6, ea6, el6, rfl⟩ c
    have hrl := hp.length_eq
    rw [List.length_range] at hrl
    refine b_one (k_retX c (V_.run (v_tup (va_cons (V_.of fun own hi => w_nm 6 (fun _ => rfl) rfl) (va_cons (v_ix fm (ds := nD r) (Pa := fun d => ∃ f : Nat, f < one * oth ∧ d = .int ((r.getD f 0 : Nat) : Int)) (fun own hi => w_nm 14 (fun _ => rfl) rfl) (v_any fm C66 (m := one * oth) (rest := []) (fun own hi => w_nm 0 (fun _ => rfl) rfl) (fun own hi => E.eq (w_mulI fm (w_nm 1 (fun _ => rfl) rfl) (w_nm 2 (fun _ => rfl) rfl) (.inl ⟨by omega, by omega⟩)) (congrArg Ly.D.int (by rw [← Int.natCast_mul]))) h1 (by omega)) (fun j ⟨f, hf, e⟩ => ⟨_, by rw [e]; exact atI_of f (nD_at (by omega)), f, hf, rfl⟩)) va_nil)) (fun ds ⟨x, r, e, _, y, r2, e2, _, e3⟩ => by rw [e, e2, e3]; show 2 ≤ 100000; decide)) ⟨g6, ok6, ea6, el6, rfl⟩) ?_)
    rintro v d o M H ⟨⟨ds, rfl, x, r', rfl, rfl, y, r2, rfl, ⟨f, hf, rfl⟩, rfl⟩, g7, ok7, ea7, el7, rfl⟩ c hr'
    exact q v _ _ _ σ M H ⟨_, n, r.getD f 0, g7, rfl, (cm f hf).turn hp, by rw [List.length_map]; omega, ok7, ea7, el7, List.append_nil _⟩ c hr'
end
end Hb
/-! Df17: the law's own leading, what is joined. -/
namespace Hb
open PySem L2 Mc Ly
/-! ### joined -/
def jstep (f : List Nat) (p : Tie) : List Nat := if decide (p.1 ∈ f) = decide (p.2 ∈ f) then f else f ++ [p.1, p.2]
def jround (ts : List Tie) (f : List Nat) : List Nat := ts.foldl jstep f
def jn (ts : List Tie) : Nat → List Nat → List Nat
  | 0, f => f
  | k + 1, f => jround ts (jn ts k f)
def joinedL (h : Nat) (ts : List Tie) (v : Nat) : List Nat := jn ts h [v]
theorem jstep_len {f : List Nat} {p : Tie} : (jstep f p).length ≤ f.length + 2 := by
  unfold jstep
  split
  · omega
  · rw [List.length_append]; exact Nat.le_refl _
theorem jfold_len : ∀ (ts : List Tie) (f : List Nat), (ts.foldl jstep f).length ≤ f.length + 2 * ts.length
  | [], f => by simp
  | p :: ts, f => by
    have h1 := jfold_len ts (jstep f p)
    have h2 := jstep_len (f := f) (p := p)
    show (ts.foldl jstep (jstep f p)).length ≤ _
    rw [List.length_cons]
    omega
theorem jn_len {ts : List Tie} {f : List Nat} : ∀ k, (jn ts k f).length ≤ f.length + 2 * ts.length * k
  | 0 => by simp [jn]
  | k + 1 => by
    have h1 := jfold_len ts (jn ts k f)
    have h2 := jn_len (ts := ts) (f := f) k
    show (ts.foldl jstep (jn ts k f)).length ≤ _
    rw [Nat.mul_succ]
    omega
section
variable {P : Program} {wd : World} {K : PySem.W.Frag} {mg : Str → Option Value} {base : Heap} (B : Blt mg) (G : Gc mg)
abbrev s72 : Stmt := top 72
theorem sc72 : FnScope ["_law_tables", "_law_first", "_law_deeds", "_law_counts", "_law_state", "_law_deed", "_law_count", "_law_turn"] ["_law_tables", "_law_first", "_law_deeds", "_law_counts"] (defScope s72) := ⟨rfl, rfl, rfl, by decide +kernel, rfl, by decide +kernel, by decide +kernel⟩
abbrev RLedL : List D → D → Prop := fun ds d => ∃ (t : List (List Nat)) (n s : Nat) (deeds counts : List Nat) (y : D), ds = [.tup (tT t), .int (s : Int), .tup (nD deeds), y] ∧ SqD y (nD counts) ∧ MOk t n ∧ s < n ∧ (∀ x ∈ deeds, x < t.length) ∧ counts.length = deeds.length ∧ (∀ x ∈ counts, x ≤ 1000000) ∧ d = .int ((ledc t s deeds counts : Nat) : Int)
include B in
theorem ok72 {f : Addr} {fd : FuncData} (F : Df K mg "_law_led" s72 f fd) : Cal P wd K mg base "_law_led" 1 ["_law_tables", "_law_first", "_law_deeds", "_law_counts"] (spD RLedL) := by
  refine cal_pure F.F sc72 F.g (F.F.binds fun _ _ _ _ _ _ us hl => match us, hl with | [_, _, _, _], _ => rfl) (fun ds d ⟨_, _, _, _, _, _, e, _⟩ => by rw [e]; rfl) ?_
  rintro cdv A outer s H Er fm ds d ⟨t, n, st, deeds, counts, y, rfl, sq, ok, l1, l2, l4, l5, rfl⟩ M0 H0 σ D c q
  refine b_cons (k_set fm 4 c (w_nm 1 (fun _ => rfl) rfl) (fun _ => rfl) fun σ M H c => ?_)
  refine b_cons (k_forB fm (fun m (x : Nat) => x = ledc t st (deeds.take m) (counts.take m)) (fun _ => []) (fun x => [some (.tup (tT t)), some (.int (st : Int)), some (.tup (nD deeds)), some y, some (.int (x : Int)), none, none, none]) st (f2 5 6) c (i_zip2 fm B (w_nm 2 (fun _ => rfl) rfl) (w_nm 3 (fun _ => rfl) rfl) qT sq) (by simp [ledc]) rfl (fun _ _ _ σ M H c => c) (fun i d h => ?_) (fun M1 H1 lf m d x σ M H hi hP c D1 e1 e2 kn => ?_) (fun x σ M H hP c => ?_) (fun _ => passes_of rfl))
  · unfold zip2D at h
    rw [List.getElem?_map, Option.map_eq_some_iff] at h
    obtain ⟨p, _, rfl⟩ := h
    exact (g_tup fm (g_cons fm 5 (fun _ => rfl) (g_cons fm 6 (fun _ => rfl) g_nil)))
  · unfold zip2D at hi
    rw [List.getElem?_map, Option.map_eq_some_iff] at hi
    obtain ⟨⟨a, b⟩, hp, rfl⟩ := hi
    obtain ⟨g1, g2⟩ := List.getElem?_zip_eq_some.mp hp
    obtain ⟨dd, hd, rfl⟩ := nD_get g1
    obtain ⟨kk, hk, rfl⟩ := nD_get g2
    have hdl := l2 dd (List.mem_of_getElem? hd)
    have hkl := l5 kk (List.mem_of_getElem? hk)
    have hx : x < n := by rw [hP]; exact ledc_lt (s := st) ok _ _ (fun z hz => l2 z (List.mem_of_mem_take hz)) l1
    refine b_one (k_forB fm (fun j (z : Nat) => z = itr (fun x => step t x dd) j x) (fun _ => []) (fun z => [some (.tup (tT t)), some (.int (st : Int)), some (.tup (nD deeds)), some y, some (.int (z : Int)), some (.int (dd : Int)), some (.int (kk : Int)), none]) x (f1 7) c (i_rg1 fm B (w_nm 6 (fun _ => rfl) rfl)) rfl rfl (fun _ _ _ σ M H c => c) (fun i d h => (g_name fm 7 (fun _ => rfl))) (fun M2 H2 lf2 j d z σ M H hj hP2 c D2 f1' f2' kn2 => ?_) (fun z σ M H hP2 c => ?_) (fun _ => passes_of rfl))
    · have hz : z < n := by rw [hP2]; exact itr_lt (fun w hw => ok.step hdl hw) hx j
      refine b_one (k_set fm 4 c (w_ix fm (w_ix fm (w_nm 0 (fun _ => rfl) rfl) (w_nm 5 (fun _ => rfl) rfl) qT (atI_of dd (tT_at hdl))) (w_nm 4 (fun _ => rfl) rfl) qT (atI_of z (nD_at (by rw [(ok.at_ hdl).1]; exact hz)))) (fun _ => rfl) fun σ M H c => ?_)
      refine kn2 (step t z dd) _ _ _ ?_ (c.forget 7)
      rw [hP2]; rfl
    · rw [rgD_len, Int.toNat_natCast] at hP2
      refine kn z _ _ _ ?_ ((c.forget 5).forget 6)
      rw [hP2, hP, take_more hd, take_more hk]
      unfold ledc
      rw [List.zip_append (by rw [List.length_take, List.length_take, l4]), List.foldl_append]
      rfl
  · have e : (zip2D (nD deeds) (nD counts)).length = deeds.length := by unfold zip2D; rw [List.length_map, List.length_zip, nD_len, nD_len, l4, Nat.min_self]
    rw [e, List.take_length, ← l4, List.take_length] at hP
    rw [hP] at c
    exact b_one (k_ret c (w_nm 4 (fun _ => rfl) rfl) fun v M H c r => q v _ _ M H c r)
abbrev s73 : Stmt := top 73
theorem sc73 : FnScope ["_law_houses", "_law_ties", "_law_house", "_law_found", "_law_turn", "_law_here", "_law_there"] ["_law_houses", "_law_ties", "_law_house"] (defScope s73) := ⟨rfl, rfl, rfl, by decide +kernel, rfl, by decide +kernel, by decide +kernel⟩
abbrev RJoined : List D → D → Prop := fun ds d => ∃ (h : Nat) (ts : List Tie) (v : Nat), ds = [.int (h : Int), .lst (pL ts), .int (v : Int)] ∧ h ≤ 12 ∧ ts.length ≤ 20 ∧ d = .lst (nD (joinedL h ts v))
theorem inV_nD {x : Nat} {l : List Nat} : inV (.int (x : Int)) (l.map fun n : Nat => V.int (n : Int)) = decide (x ∈ l) := by
  unfold inV
  rw [List.any_map]
  induction l with
  | nil => rfl
  | cons a l ih =>
    rw [List.any_cons, ih]
    show (((a : Int) == (x : Int)) || decide (x ∈ l)) = decide (x ∈ a :: l)
    by_cases h : a = x
    · subst h; simp
    · have h1 : ((a : Int) == (x : Int)) = false := by
        rw [beq_eq_false_iff_ne]; omega
      rw [h1, Bool.false_or]
      exact decide_eq_decide.mpr ⟨fun z => List.mem_cons_of_mem _ z, fun z => (List.mem_cons.mp z).resolve_left fun w => h w.symm⟩
def f2L (i j : Nat) : D → Ev → Ev
  | .lst [a, b], ρ => (ρ.set i (some a)).set j (some b)
  | _, ρ => ρ
theorem sq_nD {l : List Nat} : SqD (.lst (nD l)) ((l.map fun n : Nat => V.int (n : Int)).map D.raw) := by
  have e : (l.map fun n : Nat => V.int (n : Int)).map D.raw = nD l := by unfold nD; rw [List.map_map]; rfl
  rw [e]; exact .lst _
theorem flat_nD {l : List Nat} : (l.map fun n : Nat => V.int (n : Int)).all flatV = true := by
  rw [List.all_map]
  refine List.all_eq_true.mpr fun _ _ => rfl
include B in
theorem ok73 {f : Addr} {fd : FuncData} (F : Df K mg "_law_joined" s73 f fd) : Cal P wd K mg base "_law_joined" 1 ["_law_houses", "_law_ties", "_law_house"] (spD RJoined) := by
  refine cal_pure F.F sc73 F.g (F.F.binds fun _ _ _ _ _ _ us hl => match us, hl with | [_, _, _], _ => rfl) (fun ds d ⟨_, _, _, e, _⟩ => by rw [e]; rfl) ?_
  rintro cdv A outer s H Er fm ds d ⟨h, ts, v, rfl, h12, t20, rfl⟩ M0 H0 σ D c q
  refine b_cons (k_set fm 3 c (w_lst (a_cons (w_nm 2 (fun _ => rfl) rfl) a_nil) (show 1 ≤ 100000 by decide)) (fun _ => rfl) fun σ M H c => ?_)
  refine b_cons (k_forB fm (fun m (x : List Nat) => x = jn ts m [v]) (fun _ => []) (fun x => [some (.int (h : Int)), some (.lst (pL ts)), some (.int (v : Int)), some (.lst (nD x)), none, none, none]) [v] (f1 4) c (i_rg1 fm B (w_nm 0 (fun _ => rfl) rfl)) rfl rfl (fun _ _ _ σ M H c => c) (fun i d h => (g_name fm 4 (fun _ => rfl))) (fun M1 H1 lf m d x σ M H hi hP c D1 e1 e2 kn => ?_) (fun x σ M H hP c => ?_) (fun _ => passes_of rfl))
  · obtain ⟨hm, rfl⟩ := rgD_get hi
    have hxl : x.length ≤ 1 + 2 * 20 * 12 := by
      rw [hP]
      have h1 := jn_len (ts := ts) (f := [v]) m
      have h2 : 2 * ts.length * m ≤ 2 * 20 * 12 := Nat.mul_le_mul (by omega) (by omega)
      have h3 : [v].length = 1 := rfl
      omega
    refine b_one (k_forB fm (fun j (y : List Nat) => y = (ts.take j).foldl jstep x) (fun _ => []) (fun y => [some (.int (h : Int)), some (.lst (pL ts)), some (.int (v : Int)), some (.lst (nD y)), some (.int (0 + (m : Int))), none, none]) x (f2L 5 6) c (i_sq fm (w_nm 1 (fun _ => rfl) rfl) qL) rfl rfl (fun _ _ _ σ M H c => c) (fun i d h => ?_) (fun M2 H2 lf2 j d y σ M H hj hP2 c D2 f1' f2' kn2 => ?_) (fun y σ M H hP2 c => ?_) (fun _ => passes_of rfl))
    · obtain ⟨p, hp, rfl⟩ := pL_get h
      exact g_unl fm (g_cons fm 5 (fun _ => rfl) (g_cons fm 6 (fun _ => rfl) g_nil))
    · obtain ⟨p, hp, rfl⟩ := pL_get hj
      have hyl : y.length ≤ 100 + 2 * 20 * 13 := by
        rw [hP2]
        have h1 := jfold_len (ts.take j) x
        have h2 : (ts.take j).length ≤ 20 := by rw [List.length_take]; omega
        omega
      have tk : ts.take (j + 1) = ts.take j ++ [p] := by rw [List.take_add_one, hp]; rfl
      refine b_one (k_if c (t_cmp (w_cmp (w_nm 5 (fun _ => rfl) rfl) (w_nm 3 (fun _ => rfl) rfl) (cm_in fm sq_nD rfl flat_nD)) (w_cmp (w_nm 6 (fun _ => rfl) rfl) (w_nm 3 (fun _ => rfl) rfl) (cm_in fm sq_nD rfl flat_nD)) cm_neS) (fun h M H c => ?_) fun h M H c => ?_)
      · rw [inV_nD, inV_nD] at h
        refine b_one (k_set fm 3 c (w_add fm (w_nm 3 (fun _ => rfl) rfl) (w_lst (a_cons (w_nm 5 (fun _ => rfl) rfl) (a_cons (w_nm 6 (fun _ => rfl) rfl) a_nil)) (show 2 ≤ 100000 by decide)) (by show (nD y).length + 2 ≤ 100000; rw [nD_len]; omega)) (fun _ => rfl) fun σ M H c => ?_)
        refine kn2 (y ++ [p.1, p.2]) σ M H ?_ ?_
        · rw [tk, List.foldl_append, ← hP2]
          show y ++ [p.1, p.2] = jstep y p
          unfold jstep
          rw [if_neg]
          intro z
          rw [z] at h
          simp at h
        · have c := (c.forget 5).forget 6
          have e : nD (y ++ [p.1, p.2]) = nD y ++ [.int (p.1 : Int), .int (p.2 : Int)] := by unfold nD; rw [List.map_append]; rfl
          rw [e]
          exact c
      · rw [inV_nD, inV_nD] at h
        refine b_nil (kn2 y _ _ _ ?_ ((c.forget 5).forget 6))
        rw [tk, List.foldl_append, ← hP2]
        show y = jstep y p
        unfold jstep
        rw [if_pos]
        have : V.bl (decide (p.1 ∈ y)) = V.bl (decide (p.2 ∈ y)) := by simpa using h
        exact V.bl.inj this
    · rw [pL_len, List.take_length] at hP2
      refine kn y _ _ _ ?_ (c.forget 4)
      rw [hP2, hP]
      rfl
  · rw [rgD_len, Int.toNat_natCast] at hP
    rw [hP] at c
    exact b_one (k_ret c (w_nm 3 (fun _ => rfl) rfl) fun v M H c r => q v _ _ M H c r)
end
end Hb
/-! Mt3: what is joined is closed under ties; sums over chosen numbers; every act is booked. -/
namespace Hb
open PySem L2 Mc Ly
/-! ### closed sets -/
def Closed (ts : List Tie) (f : List Nat) : Prop := ∀ p ∈ ts, p.1 ∈ f ↔ p.2 ∈ f
theorem jstep_sub {f : List Nat} {p : Tie} {x : Nat} (h : x ∈ f) : x ∈ jstep f p := by
  unfold jstep
  split
  · exact h
  · exact List.mem_append_left _ h
theorem jfold_sub {x : Nat} : ∀ (ts : List Tie) (f : List Nat), x ∈ f → x ∈ ts.foldl jstep f
  | [], _, h => h
  | p :: ts, f, h => jfold_sub ts (jstep f p) (jstep_sub h)
theorem jstep_both {f : List Nat} {p : Tie} (h : p.1 ∈ f ∨ p.2 ∈ f) : p.1 ∈ jstep f p ∧ p.2 ∈ jstep f p := by
  unfold jstep
  split
  · rename_i e
    have e' : p.1 ∈ f ↔ p.2 ∈ f := decide_eq_decide.mp e
    rcases h with h | h
    · exact ⟨h, e'.mp h⟩
    · exact ⟨e'.mpr h, h⟩
  · exact ⟨List.mem_append_right _ (by simp), List.mem_append_right _ (by simp)⟩
theorem jfold_both {p : Tie} : ∀ (ts : List Tie) (f : List Nat), p ∈ ts → (p.1 ∈ f ∨ p.2 ∈ f) → p.1 ∈ ts.foldl jstep f ∧ p.2 ∈ ts.foldl jstep f
  | [], _, h, _ => nomatch h
  | q :: ts, f, h, e => by
    obtain rfl | h := List.mem_cons.mp h
    · obtain ⟨h1, h2⟩ := jstep_both e
      exact ⟨jfold_sub ts _ h1, jfold_sub ts _ h2⟩
    · exact jfold_both ts (jstep f q) h (e.imp jstep_sub jstep_sub)
theorem jfold_closed {f : List Nat} : ∀ (ts : List Tie), Closed ts f → ts.foldl jstep f = f
  | [], _ => rfl
  | p :: ts, h => by
    have e : jstep f p = f := by
      unfold jstep
      rw [if_pos (decide_eq_decide.mpr (h p List.mem_cons_self))]
    show ts.foldl jstep (jstep f p) = f
    rw [e]
    exact jfold_closed ts fun q hq => h q (List.mem_cons_of_mem _ hq)
theorem count_lt {p q : Nat → Bool} {x : Nat} (h : ∀ y, p y = true → q y = true) (h1 : p x = false) (h2 : q x = true) : ∀ (l : List Nat), x ∈ l → l.countP p + 1 ≤ l.countP q
  | [], hx => nomatch hx
  | a :: l, hx => by
    have le : ∀ l : List Nat, l.countP p ≤ l.countP q := fun l => List.countP_mono_left fun y _ => h y
    rw [List.countP_cons, List.countP_cons]
    obtain rfl | hx := List.mem_cons.mp hx
    · rw [h1, h2]
      have := le l
      simp
      omega
    · have ih := count_lt h h1 h2 l hx
      by_cases hp : p a = true
      · rw [if_pos hp, if_pos (h a hp)]; omega
      · rw [if_neg hp]
        split <;> omega
def cntF (h : Nat) (f : List Nat) : Nat := (List.range h).countP fun x => decide (x ∈ f)
theorem cntF_le {h : Nat} {f : List Nat} : cntF h f ≤ h := by
  have := List.countP_le_length (p := fun x => decide (x ∈ f)) (l := List.range h)
  rw [List.length_range] at this
  exact this
theorem jround_more {h : Nat} {ts : List Tie} (w : WOk h ts) {f : List Nat} (n : ¬ Closed ts f) : cntF h f + 1 ≤ cntF h (jround ts f) := by
  obtain ⟨p, hp⟩ : ∃ p, ¬ (p ∈ ts → (p.1 ∈ f ↔ p.2 ∈ f)) := Classical.not_forall.mp n
  obtain ⟨hp, hn⟩ := Classical.not_imp.mp hp
  obtain ⟨l1, l2, _⟩ := w.tie p hp
  have mono : ∀ y, (decide (y ∈ f)) = true → decide (y ∈ jround ts f) = true := fun y hy => decide_eq_true (jfold_sub ts f (of_decide_eq_true hy))
  by_cases h1 : p.1 ∈ f
  · have h2 : p.2 ∉ f := fun z => hn ⟨fun _ => z, fun _ => h1⟩
    exact count_lt mono (decide_eq_false h2) (decide_eq_true (jfold_both ts f hp (.inl h1)).2) _ (List.mem_range.mpr l2)
  · have h2 : p.2 ∈ f := Classical.byContradiction fun z => hn ⟨fun y => absurd y h1, fun y => absurd y z⟩
    exact count_lt mono (decide_eq_false h1) (decide_eq_true (jfold_both ts f hp (.inr h2)).1) _ (List.mem_range.mpr l1)
theorem jn_grows {h : Nat} {ts : List Tie} (w : WOk h ts) {f : List Nat} : ∀ k, Closed ts (jn ts k f) ∨ k ≤ cntF h (jn ts k f)
  | 0 => .inr (Nat.zero_le _)
  | k + 1 => by
    show Closed ts (jround ts (jn ts k f)) ∨ k + 1 ≤ cntF h (jround ts (jn ts k f))
    by_cases hc : Closed ts (jn ts k f)
    · left
      unfold jround
      rw [jfold_closed ts hc]; exact hc
    · rcases jn_grows w k with z | z
      · exact absurd z hc
      · have := jround_more w hc
        right; omega
theorem jn_mem {ts : List Tie} {f : List Nat} {x : Nat} (h : x ∈ f) : ∀ k, x ∈ jn ts k f
  | 0 => h
  | k + 1 => jfold_sub ts _ (jn_mem h k)
theorem joined_mem {h : Nat} {ts : List Tie} {v : Nat} : v ∈ joinedL h ts v := jn_mem List.mem_cons_self h
theorem joined_closed {h : Nat} {ts : List Tie} (w : WOk h ts) {v : Nat} (hv : v < h) : Closed ts (joinedL h ts v) := by
  -- one member from the start, one more each turn
  have start : ∀ k, Closed ts (jn ts k [v]) ∨ k + 1 ≤ cntF h (jn ts k [v]) := by
    intro k
    induction k with
    | zero =>
      right
      have := count_lt (p := fun _ => false) (q := fun x => decide (x ∈ [v])) (x := v) (fun _ z => nomatch z) rfl (by simp) (List.range h) (List.mem_range.mpr hv)
      have z : (List.range h).countP (fun _ => false) = 0 := by simp
      rw [z] at this
      exact this
    | succ k ih =>
      show Closed ts (jround ts (jn ts k [v])) ∨ k + 1 + 1 ≤ cntF h (jround ts (jn ts k [v]))
      by_cases hc : Closed ts (jn ts k [v])
      · left
        unfold jround
        rw [jfold_closed ts hc]; exact hc
      · rcases ih with z | z
        · exact absurd z hc
        · have := jround_more w hc
          right; omega
  rcases start h with z | z
  · exact z
  · have : cntF h (jn ts h [v]) ≤ h := cntF_le
    omega
/-! ### sums -/
def sumI (n : Nat) (p : Nat → Bool) (f : Nat → Nat) : Nat := (((List.range n).filter p).map f).sum
theorem sumI_succ {n : Nat} {p : Nat → Bool} {f : Nat → Nat} : sumI (n + 1) p f = sumI n p f + if p n = true then f n else 0 := by
  unfold sumI
  rw [List.range_succ, List.filter_append, List.map_append, List.sum_append]
  by_cases h : p n = true
  · rw [if_pos h]; simp [h]
  · rw [if_neg h]; simp [h]
theorem sumI_congr {p : Nat → Bool} {f g : Nat → Nat} : ∀ {n : Nat}, (∀ i, i < n → p i = true → f i = g i) → sumI n p f = sumI n p g
  | 0, _ => rfl
  | n + 1, h => by
    rw [sumI_succ, sumI_succ, sumI_congr (n := n) fun i hi => h i (by omega)]
    by_cases e : p n = true
    · rw [if_pos e, if_pos e, h n (by omega) e]
    · rw [if_neg e, if_neg e]
theorem sumI_zero {p : Nat → Bool} {f : Nat → Nat} : ∀ {n : Nat}, (∀ i, i < n → p i = true → f i = 0) → sumI n p f = 0
  | 0, _ => rfl
  | n + 1, h => by
    rw [sumI_succ, sumI_zero (n := n) fun i hi => h i (by omega)]
    by_cases e : p n = true
    · rw [if_pos e, h n (by omega) e]
    · rw [if_neg e]
theorem sumI_upd {p : Nat → Bool} {f : Nat → Nat} {k x : Nat} : ∀ {n : Nat}, k < n → sumI n p (fun i => if i = k then x else f i) + (if p k = true then f k else 0) = sumI n p f + if p k = true then x else 0
  | 0, h => by omega
  | n + 1, h => by
    rw [sumI_succ, sumI_succ]
    by_cases e : k = n
    · subst e
      have e2 : sumI k p (fun i => if i = k then x else f i) = sumI k p f := sumI_congr fun i (hi : i < k) _ => if_neg (Nat.ne_of_lt hi)
      rw [e2, if_pos rfl]
      omega
    · have ih := sumI_upd (p := p) (f := f) (k := k) (x := x) (n := n) (by omega)
      rw [if_neg (Ne.symm e)]
      omega
/-! ### columns -/
def placesOf (ss : List Stp) : List Nat := ss.filterMap fun s => match s with | .act v _ => some v | .meet _ => none
theorem placesOf_append (a b : List Stp) : placesOf (a ++ b) = placesOf a ++ placesOf b := by unfold placesOf; rw [List.filterMap_append]
theorem placesOf_len (ss : List Stp) : (placesOf ss).length = (deedsOf ss).length := by
  induction ss with
  | nil => rfl
  | cons s ss ih => cases s with
    | act v k => exact congrArg (· + 1) ih
    | meet i => exact ih
/-- the column of an act that was done at v -/
structure Col (h : Nat) (ts : List Tie) (s : Bk) (v a : Nat) : Prop where
  sum : sumI h (fun i => decide (i ∈ joinedL h ts v)) (fun i => at2 s.hs i a) = sumI ts.length (fun i => decide ((ts.getD i (0, 0)).1 ∈ joinedL h ts v)) (fun i => at2 s.tz i a) + 1
  zh : ∀ u, u ∉ joinedL h ts v → at2 s.hs u a = 0
  zt : ∀ i p, ts[i]? = some p → p.1 ∉ joinedL h ts v → at2 s.tz i a = 0
theorem Col.meet {h acts : Nat} {ts : List Tie} {s : Bk} {v a i : Nat} (c : Col h ts s v a) (w : WOk h ts) (hv : v < h) (ok : BkOk h ts acts s) (hi : i < ts.length) : Col h ts (hearB ts s (.meet i)) v a := by
  have ht : ts[i]? = some (ts.getD i (0, 0)) := getD_at hi
  obtain ⟨l1, l2, ne⟩ := w.tie _ (List.mem_of_getElem? ht)
  have cl := joined_closed w hv _ (List.mem_of_getElem? ht)
  obtain ⟨le1, le2⟩ := ok.le i _ a ht
  have eh : ∀ u, at2 (hearB ts s (.meet i)).hs u a = if u = (ts.getD i (0, 0)).2 then at2 s.hs (ts.getD i (0, 0)).1 a + at2 s.hs (ts.getD i (0, 0)).2 a - at2 s.tz i a else if u = (ts.getD i (0, 0)).1 then at2 s.hs (ts.getD i (0, 0)).1 a + at2 s.hs (ts.getD i (0, 0)).2 a - at2 s.tz i a else at2 s.hs u a := fun u => by
    rw [hear_meetH ok w ht]
    by_cases h2 : u = (ts.getD i (0, 0)).2
    · rw [if_pos h2, if_pos (.inr h2)]
    · by_cases h1 : u = (ts.getD i (0, 0)).1
      · rw [if_neg h2, if_pos h1, if_pos (.inl h1)]
      · rw [if_neg h2, if_neg h1, if_neg (fun z => z.elim h1 h2)]
  have et : ∀ u, at2 (hearB ts s (.meet i)).tz u a = if u = i then at2 s.hs (ts.getD i (0, 0)).1 a + at2 s.hs (ts.getD i (0, 0)).2 a - at2 s.tz i a else at2 s.tz u a := fun u => hear_meetT ok w ht u a
  have sm := c.sum
  generalize hX : at2 s.hs (ts.getD i (0, 0)).1 a + at2 s.hs (ts.getD i (0, 0)).2 a - at2 s.tz i a = X at eh et
  have sh1 := sumI_upd (p := fun u => decide (u ∈ joinedL h ts v)) (f := fun u => at2 s.hs u a) (x := X) l1
  have sh2 := sumI_upd (p := fun u => decide (u ∈ joinedL h ts v)) (f := fun u => if u = (ts.getD i (0, 0)).1 then X else at2 s.hs u a) (x := X) l2
  have st := sumI_upd (p := fun u => decide ((ts.getD u (0, 0)).1 ∈ joinedL h ts v)) (f := fun u => at2 s.tz u a) (x := X) hi
  rw [if_neg (Ne.symm ne)] at sh2
  refine ⟨?_, fun u hu => ?_, fun j p hj hp => ?_⟩
  · rw [sumI_congr (n := h) fun u _ _ => eh u, sumI_congr (n := ts.length) fun u _ _ => et u]
    by_cases hin : (ts.getD i (0, 0)).1 ∈ joinedL h ts v
    · have hin2 := cl.mp hin
      simp only [hin, hin2, decide_true, if_true] at sh1 sh2 st
      omega
    · have hin2 : (ts.getD i (0, 0)).2 ∉ joinedL h ts v := fun z => hin (cl.mpr z)
      simp only [hin, hin2, decide_false, if_false, Bool.false_eq_true] at sh1 sh2 st
      omega
  · rw [eh]
    have z : ∀ q, q ∉ joinedL h ts v → at2 s.hs q a = 0 := c.zh
    split
    · rename_i e
      rw [e] at hu
      have h1 : (ts.getD i (0, 0)).1 ∉ joinedL h ts v := fun z => hu (cl.mp z)
      have := z _ hu
      have := z _ h1
      omega
    · split
      · rename_i _ e
        rw [e] at hu
        have h2 : (ts.getD i (0, 0)).2 ∉ joinedL h ts v := fun z => hu (cl.mpr z)
        have := z _ hu
        have := z _ h2
        omega
      · exact z u hu
  · rw [et]
    split
    · rename_i e
      subst e
      rw [ht] at hj
      cases hj
      have h2 : (ts.getD j (0, 0)).2 ∉ joinedL h ts v := fun z => hp (cl.mpr z)
      have := c.zh _ hp
      have := c.zh _ h2
      omega
    · exact c.zt j p hj hp
theorem Col.other {h acts : Nat} {ts : List Tie} {s : Bk} {v a u k : Nat} (c : Col h ts s v a) (ok : BkOk h ts acts s) (hu : u < h) (hs : s.acted < acts) (ha : a ≠ s.acted) : Col h ts (hearB ts s (.act u k)) v a := by
  have eh : ∀ i, at2 (hearB ts s (.act u k)).hs i a = at2 s.hs i a := fun i => by rw [hear_act ok hu hs, if_neg (fun z => ha z.2)]; rfl
  refine ⟨?_, fun i hi => by rw [eh]; exact c.zh i hi, c.zt⟩
  rw [sumI_congr (n := h) fun i _ _ => eh i]
  exact c.sum
theorem Col.new {h acts : Nat} {ts : List Tie} {s : Bk} {v k : Nat} (ok : BkOk h ts acts s) (hv : v < h) (hs : s.acted < acts) (z1 : ∀ i, at2 s.hs i s.acted = 0) (z2 : ∀ i, at2 s.tz i s.acted = 0) : Col h ts (hearB ts s (.act v k)) v s.acted := by
  have eh : ∀ i, at2 (hearB ts s (.act v k)).hs i s.acted = if i = v then 1 else at2 s.hs i s.acted := fun i => by
    rw [hear_act ok hv hs]
    by_cases e : i = v
    · rw [if_pos ⟨e, rfl⟩, if_pos e, z1]
    · rw [if_neg (fun z => e z.1), if_neg e]; rfl
  refine ⟨?_, fun i hi => ?_, fun i p _ _ => z2 i⟩
  · have := sumI_upd (p := fun u => decide (u ∈ joinedL h ts v)) (f := fun u => at2 s.hs u s.acted) (x := 1) hv
    rw [sumI_congr (n := h) fun u _ _ => eh u]
    have e1 : sumI h (fun u => decide (u ∈ joinedL h ts v)) (fun u => at2 s.hs u s.acted) = 0 := sumI_zero fun i _ _ => z1 i
    have e2 : sumI ts.length (fun i => decide ((ts.getD i (0, 0)).1 ∈ joinedL h ts v)) (fun i => at2 (hearB ts s (.act v k)).tz i s.acted) = 0 := sumI_zero fun i _ _ => z2 i
    have hp : decide (v ∈ joinedL h ts v) = true := decide_eq_true joined_mem
    rw [if_pos hp, if_pos hp, e1] at this
    have z := z1 v
    rw [e2]
    omega
  · rw [eh, if_neg (fun z => by subst z; exact hi joined_mem), z1]
/-- what holds of a book after some steps -/
structure Whole (h : Nat) (ts : List Tie) (acts : Nat) (ss : List Stp) : Prop where
  ok : BkOk h ts acts (bookAt h ts acts ss)
  acted : (bookAt h ts acts ss).acted = (deedsOf ss).length
  zh : ∀ i j, (deedsOf ss).length ≤ j → at2 (bookAt h ts acts ss).hs i j = 0
  zt : ∀ i j, (deedsOf ss).length ≤ j → at2 (bookAt h ts acts ss).tz i j = 0
  col : ∀ a v, (placesOf ss)[a]? = some v → v < h ∧ Col h ts (bookAt h ts acts ss) v a
  bh : ∀ i j, at2 (bookAt h ts acts ss).hs i j ≤ 2 ^ ss.length
  bt : ∀ i j, at2 (bookAt h ts acts ss).tz i j ≤ 2 ^ ss.length
theorem whole {h acts : Nat} {ts : List Tie} (w : WOk h ts) : ∀ (ss : List Stp), (deedsOf ss).length ≤ acts → (∀ s ∈ ss, sok h ts.length 8 s = true) → Whole h ts acts ss := by
  refine snocI (fun _ _ => ?_) (fun ss s ih hl hok => ?_)
  · refine ⟨bk0_ok, rfl, fun i j _ => bk0_at, fun i j _ => bk0_at, fun a v h => by simp [placesOf] at h, fun i j => ?_, fun i j => ?_⟩
    · show at2 (List.replicate _ _) i j ≤ _
      rw [bk0_at]; exact Nat.zero_le _
    · show at2 (List.replicate _ _) i j ≤ _
      rw [bk0_at]; exact Nat.zero_le _
  · rw [deedsOf_append, List.length_append] at hl
    obtain ⟨ok, ac, zh, zt, col, bh, bt⟩ := ih (by omega) fun s hs => hok s (List.mem_append_left _ hs)
    have o := hok s (List.mem_append_right _ List.mem_cons_self)
    have ok' := book_ok w (ss ++ [s]) (by rw [deedsOf_append, List.length_append]; exact hl) hok
    have ac' : (bookAt h ts acts (ss ++ [s])).acted = (deedsOf (ss ++ [s])).length := acted_at _
    have p2 : 2 ^ (ss ++ [s]).length = 2 * 2 ^ ss.length := by rw [List.length_append]; show 2 ^ (ss.length + 1) = _; rw [Nat.pow_succ, Nat.mul_comm]
    have p1 : 1 ≤ 2 ^ ss.length := Nat.one_le_two_pow
    suffices key : (∀ i j, (deedsOf ss).length + (deedsOf [s]).length ≤ j → at2 (hearB ts (bookAt h ts acts ss) s).hs i j = 0) ∧ (∀ i j, (deedsOf ss).length + (deedsOf [s]).length ≤ j → at2 (hearB ts (bookAt h ts acts ss) s).tz i j = 0) ∧ (∀ a v, (placesOf ss ++ placesOf [s])[a]? = some v → v < h ∧ Col h ts (hearB ts (bookAt h ts acts ss) s) v a) ∧ (∀ i j, at2 (hearB ts (bookAt h ts acts ss) s).hs i j ≤ 2 * 2 ^ ss.length) ∧ ∀ i j, at2 (hearB ts (bookAt h ts acts ss) s).tz i j ≤ 2 * 2 ^ ss.length by
      obtain ⟨k1, k2, k3, k4, k5⟩ := key
      refine ⟨ok', ac', ?_, ?_, ?_, ?_, ?_⟩
      · rw [bookAt_snoc, deedsOf_append, List.length_append]; exact k1
      · rw [bookAt_snoc, deedsOf_append, List.length_append]; exact k2
      · rw [bookAt_snoc, placesOf_append]; exact k3
      · rw [bookAt_snoc, p2]; exact k4
      · rw [bookAt_snoc, p2]; exact k5
    generalize bookAt h ts acts ss = b at ok ac zh zt col bh bt
    cases s with
    | act u k =>
      have o : (decide (u < h) && decide (k < 8)) = true := o
      rw [Bool.and_eq_true, decide_eq_true_eq, decide_eq_true_eq] at o
      have l1 : (deedsOf [Stp.act u k]).length = 1 := rfl
      rw [l1] at hl ⊢
      have hac : b.acted < acts := by omega
      refine ⟨fun i j hj => ?_, fun i j hj => zt i j (by omega), fun a v hv => ?_, fun i j => ?_, fun i j => ?_⟩
      · rw [hear_act ok o.1 hac, zh i j (by omega), if_neg (fun z => by omega)]
      · by_cases ha : a < (placesOf ss).length
        · rw [List.getElem?_append_left ha] at hv
          obtain ⟨c1, c2⟩ := col a v hv
          refine ⟨c1, c2.other ok o.1 hac ?_⟩
          rw [placesOf_len] at ha
          omega
        · rw [List.getElem?_append_right (by omega)] at hv
          have hz : a - (placesOf ss).length = 0 := by
            have := lt_of_get hv
            have e : (placesOf [Stp.act u k]).length = 1 := rfl
            omega
          rw [hz] at hv
          have e : u = v := Option.some.inj hv
          subst e
          have ea : a = b.acted := by rw [ac, ← placesOf_len]; omega
          subst ea
          exact ⟨o.1, Col.new ok o.1 hac (fun i => zh i _ (by omega)) fun i => zt i _ (by omega)⟩
      · rw [hear_act ok o.1 hac]
        have := bh i j
        split <;> omega
      · have := bt i j
        show at2 b.tz i j ≤ _
        omega
    | meet i =>
      have o : decide (i < ts.length) = true := o
      have hi := of_decide_eq_true o
      have ht : ts[i]? = some (ts.getD i (0, 0)) := getD_at hi
      have l0 : (deedsOf [Stp.meet i]).length = 0 := rfl
      have e0 : placesOf [Stp.meet i] = [] := rfl
      rw [l0] at hl ⊢
      rw [e0, List.append_nil]
      refine ⟨fun u j hj => ?_, fun u j hj => ?_, fun a v hv => ?_, fun u j => ?_, fun u j => ?_⟩
      · rw [hear_meetH ok w ht, zh _ j (by omega), zh _ j (by omega), zh _ j (by omega)]
        split <;> simp
      · rw [hear_meetT ok w ht, zh _ j (by omega), zh _ j (by omega), zt _ j (by omega)]
        split
        · omega
        · exact zt u j (by omega)
      · obtain ⟨c1, c2⟩ := col a v hv
        exact ⟨c1, c2.meet w c1 ok hi⟩
      · rw [hear_meetH ok w ht]
        have := bh (ts.getD i (0, 0)).1 j
        have := bh (ts.getD i (0, 0)).2 j
        have := bh u j
        split <;> omega
      · rw [hear_meetT ok w ht]
        have := bh (ts.getD i (0, 0)).1 j
        have := bh (ts.getD i (0, 0)).2 j
        have := bt u j
        split <;> omega
end Hb
/-! Df18: whether an act is booked, whether ties stay below their houses. -/
namespace Hb
open PySem L2 Mc Ly
/-! ### sums over chosen numbers -/
def qI (p : Nat → Bool) : D → Bool
  | .raw (.int i) => p i.toNat
  | _ => false
def gI (f : Nat → Nat) : D → D
  | .raw (.int i) => .int ((f i.toNat : Nat) : Int)
  | x => x
def toI (l : List Nat) : List Int := l.map fun n : Nat => (n : Int)
theorem keep_rg {n : Nat} {p : Nat → Bool} {f : Nat → Nat} : keep (rgD 0 n) (qI p) (gI f) = (toI (((List.range n).filter p).map f)).map D.int := by
  unfold keep rgD toI
  have e : ∀ i : Nat, D.int (0 + (i : Int)) = D.int (i : Int) := fun i => by rw [Int.zero_add]
  simp only [e]
  rw [List.filter_map, List.map_map, List.map_map, List.map_map]
  have e1 : ((qI p) ∘ fun i : Nat => D.int (i : Int)) = p := rfl
  rw [e1]
  rfl
theorem toI_sum : ∀ l : List Nat, (toI l).sum = ((l.sum : Nat) : Int)
  | [] => rfl
  | a :: l => by
    show (a : Int) + (toI l).sum = ((a + l.sum : Nat) : Int)
    rw [toI_sum l]; rfl
theorem sumI_of {n : Nat} {p : Nat → Bool} {f : Nat → Nat} : (toI (((List.range n).filter p).map f)).sum = ((sumI n p f : Nat) : Int) := toI_sum _
/-- an act is booked: v its place, a its number -/
structure Booked (h : Nat) (ts : List Tie) (hs tz : List (List Nat)) (v a : Nat) : Prop where
  here : sumI h (fun i => decide (i ∈ joinedL h ts v)) (fun i => at2 hs i a) = sumI ts.length (fun i => decide ((ts.getD i (0, 0)).1 ∈ joinedL h ts v)) (fun i => at2 tz i a) + 1
  out1 : sumI h (fun i => !decide (i ∈ joinedL h ts v)) (fun i => at2 hs i a) = 0
  out2 : sumI ts.length (fun i => !decide ((ts.getD i (0, 0)).1 ∈ joinedL h ts v)) (fun i => at2 tz i a) = 0
theorem at2_at {m : List (List Nat)} {i j n : Nat} (hi : i < m.length) (hr : ∀ r ∈ m, r.length = n) (hj : j < n) : (m.getD i []).length = n ∧ (nD (m.getD i []))[j]? = some (.int ((at2 m i j : Nat) : Int)) := by
  have h1 := hr _ (getD_mem (d := []) hi)
  exact ⟨h1, nD_at (by rw [h1]; exact hj)⟩
section
variable {P : Program} {wd : World} {K : PySem.W.Frag} {mg : Str → Option Value} {base : Heap} (B : Blt mg) (G : Gc mg)
abbrev s74 : Stmt := top 74
theorem sc74 : FnScope ["_law_many", "_law_ties", "_law_places", "_law_houses", "_law_archives", "_law_act", "_law_part", "_law_inside", "_law_house", "_law_outside", "_law_inner", "_law_tie", "_law_outer"] ["_law_many", "_law_ties", "_law_places", "_law_houses", "_law_archives"] (defScope s74) := ⟨rfl, rfl, rfl, by decide +kernel, rfl, by decide +kernel, by decide +kernel⟩
abbrev RBooked : List D → D → Prop := fun ds d => ∃ (h : Nat) (ts : List Tie) (y : D) (pl : List Nat) (hs tz : List (List Nat)), ds = [.int (h : Int), .lst (pL ts), y, .tup (tT hs), .tup (tT tz)] ∧ SqD y (nD pl) ∧ h ≤ 12 ∧ ts.length ≤ 20 ∧ pl.length ≤ 1000 ∧ hs.length = h ∧ tz.length = ts.length ∧
  (∀ r ∈ hs, r.length = pl.length) ∧ (∀ r ∈ tz, r.length = pl.length) ∧ (∀ a v, pl[a]? = some v → Booked h ts hs tz v a) ∧ d = .bl true
include B in
theorem ok74 {f : Addr} {fd : FuncData} (F : Df K mg "_law_are_booked" s74 f fd) (C73 : Cal P wd K mg base "_law_joined" 1 ["_law_houses", "_law_ties", "_law_house"] (spD RJoined)) : Cal P wd K mg base "_law_are_booked" 2 ["_law_many", "_law_ties", "_law_places", "_law_houses", "_law_archives"] (spD RBooked) := by
  refine cal_pure F.F sc74 F.g (F.F.binds fun _ _ _ _ _ _ us hl => match us, hl with | [_, _, _, _, _], _ => rfl) (fun ds d ⟨_, _, _, _, _, _, e, _⟩ => by rw [e]; rfl) ?_
  rintro cdv A outer s H Er fm ds d ⟨h, ts, y, pl, hs, tz, rfl, sq, h12, t20, p1000, lh, lt, rh, rt, bk, rfl⟩ M0 H0 σ D c q
  refine b_cons (k_forB fm (G := Unit) (fun _ _ => True) (fun _ => []) (fun _ => [some (.int (h : Int)), some (.lst (pL ts)), some y, some (.tup (tT hs)), some (.tup (tT tz)), none, none, none, none, none, none, none, none]) () (f1 5) c (i_rg1 fm B (w_len fm B (w_nm 2 (fun _ => rfl) rfl) sq) (by rw [nD_len]; omega)) trivial rfl (fun _ _ _ σ M H c => c) (fun i d h => (g_name fm 5 (fun _ => rfl))) (fun M1 H1 lf a d x σ M H hi hP c D1 e1 e2 kn => ?_) (fun x σ M H hP c => ?_) (fun _ => passes_of rfl))
  · obtain ⟨ha, rfl⟩ := rgD_get hi
    rw [Int.toNat_natCast, nD_len] at ha
    rw [show (0 : Int) + (a : Int) = (a : Int) by omega] at c
    obtain ⟨v, hv⟩ : ∃ v, pl[a]? = some v := ⟨_, List.getElem?_eq_getElem ha⟩
    obtain ⟨b1, b2, b3⟩ := bk a v hv
    have hpv : (nD pl)[a]? = some (.int (v : Int)) := by unfold nD; rw [List.getElem?_map, hv]; rfl
    refine b_cons (k_set fm 6 c (w_call fm C73 (a_cons (w_nm 0 (fun _ => rfl) rfl) (a_cons (w_nm 1 (fun _ => rfl) rfl) (a_cons (w_ix fm (w_nm 2 (fun _ => rfl) rfl) (w_nm 5 (fun _ => rfl) rfl) sq (atI_of a hpv)) a_nil))) ⟨h, ts, v, rfl, h12, t20, rfl⟩) (fun _ => rfl) fun σ M H c => ?_)
    generalize joinedL h ts v = S at c b1 b2 b3
    have inn : ∀ x : Nat, inV (.int (x : Int)) (S.map fun n : Nat => V.int (n : Int)) = decide (x ∈ S) := fun x => inV_nD
    have hz : ∀ i : Nat, (0 : Int) + (i : Int) = (i : Int) := fun i => by omega
    refine b_cons (k_set fm 7 c (w_sum fm B (EN.e (n_lc fm [("_law_house", 8)] (blkOk_by (sc := defScope s74) (by decide +kernel)) (fun _ => rfl) (qI fun i => decide (i ∈ S)) (gI fun i => at2 hs i a) (f1 8) (i_rg1 fm B (w_nm 0 (fun _ => rfl) rfl)) (by rw [rgD_len]; omega) (fun i d h => (cw_name (Fam.blk fm) 8 (fun _ => rfl) (by decide))) (fun i d h => ?_) (fun i d h hq => ?_))) keep_rg) (fun _ => rfl) fun σ M H c => ?_)
    · obtain ⟨_, rfl⟩ := rgD_get h
      rw [hz]
      exact ts_one (et_eq (t_cmp (w_nm 8 (fun _ => rfl) rfl) (w_nm 6 (fun _ => rfl) rfl) (cm_in (Fam.blk fm) sq_nD rfl flat_nD)) (inn i))
    · obtain ⟨hi', rfl⟩ := rgD_get h
      rw [Int.toNat_natCast] at hi'
      rw [hz]
      obtain ⟨l1, l2⟩ := at2_at (by rw [lh]; exact hi') rh ha
      exact (w_ix (Fam.blk fm) (w_ix (Fam.blk fm) (w_nm 3 (fun _ => rfl) rfl) (w_nm 8 (fun _ => rfl) rfl) qT (atI_of i (tT_at (by rw [lh]; exact hi')))) (w_nm 5 (fun _ => rfl) rfl) qT (atI_of a l2))
    refine b_cons (k_set fm 9 c (w_sum fm B (EN.e (n_lc fm [("_law_house", 8)] (blkOk_by (sc := defScope s74) (by decide +kernel)) (fun _ => rfl) (qI fun i => !decide (i ∈ S)) (gI fun i => at2 hs i a) (f1 8) (i_rg1 fm B (w_nm 0 (fun _ => rfl) rfl)) (by rw [rgD_len]; omega) (fun i d h => (cw_name (Fam.blk fm) 8 (fun _ => rfl) (by decide))) (fun i d h => ?_) (fun i d h hq => ?_))) keep_rg) (fun _ => rfl) fun σ M H c => ?_)
    · obtain ⟨_, rfl⟩ := rgD_get h
      rw [hz]
      exact ts_one (et_eq (t_cmp (w_nm 8 (fun _ => rfl) rfl) (w_nm 6 (fun _ => rfl) rfl) (cm_notIn (Fam.blk fm) sq_nD rfl flat_nD)) (congrArg Bool.not (inn i)))
    · obtain ⟨hi', rfl⟩ := rgD_get h
      rw [Int.toNat_natCast] at hi'
      rw [hz]
      obtain ⟨l1, l2⟩ := at2_at (by rw [lh]; exact hi') rh ha
      exact (w_ix (Fam.blk fm) (w_ix (Fam.blk fm) (w_nm 3 (fun _ => rfl) rfl) (w_nm 8 (fun _ => rfl) rfl) qT (atI_of i (tT_at (by rw [lh]; exact hi')))) (w_nm 5 (fun _ => rfl) rfl) qT (atI_of a l2))
    have tie : ∀ i, i < ts.length → (pL ts)[i]? = some (.lst [.int ((ts.getD i (0, 0)).1 : Int), .int ((ts.getD i (0, 0)).2 : Int)]) := fun i hi => pL_at (getD_at hi)
    refine b_cons (k_set fm 10 c (w_sum fm B (EN.e (n_lc fm [("_law_tie", 11)] (blkOk_by (sc := defScope s74) (by decide +kernel)) (fun _ => rfl) (qI fun i => decide ((ts.getD i (0, 0)).1 ∈ S)) (gI fun i => at2 tz i a) (f1 11) (i_rg1 fm B (w_len fm B (w_nm 1 (fun _ => rfl) rfl) qL) (by rw [pL_len]; omega)) (by rw [rgD_len, Int.toNat_natCast, pL_len]; omega) (fun i d h => (cw_name (Fam.blk fm) 11 (fun _ => rfl) (by decide))) (fun i d h => ?_) (fun i d h hq => ?_))) keep_rg) (fun _ => rfl) fun σ M H c => ?_)
    · obtain ⟨hi', rfl⟩ := rgD_get h
      rw [Int.toNat_natCast, pL_len] at hi'
      rw [hz]
      exact ts_one (et_eq (t_cmp (w_ix (Fam.blk fm) (w_ix (Fam.blk fm) (w_nm 1 (fun _ => rfl) rfl) (w_nm 11 (fun _ => rfl) rfl) qL (atI_of i (tie i hi'))) w_int qL rfl) (w_nm 6 (fun _ => rfl) rfl) (cm_in (Fam.blk fm) sq_nD rfl flat_nD)) (inn _))
    · obtain ⟨hi', rfl⟩ := rgD_get h
      rw [Int.toNat_natCast, pL_len] at hi'
      rw [hz]
      obtain ⟨l1, l2⟩ := at2_at (by rw [lt]; exact hi') rt ha
      exact (w_ix (Fam.blk fm) (w_ix (Fam.blk fm) (w_nm 4 (fun _ => rfl) rfl) (w_nm 11 (fun _ => rfl) rfl) qT (atI_of i (tT_at (by rw [lt]; exact hi')))) (w_nm 5 (fun _ => rfl) rfl) qT (atI_of a l2))
    refine b_cons (k_set fm 12 c (w_sum fm B (EN.e (n_lc fm [("_law_tie", 11)] (blkOk_by (sc := defScope s74) (by decide +kernel)) (fun _ => rfl) (qI fun i => !decide ((ts.getD i (0, 0)).1 ∈ S)) (gI fun i => at2 tz i a) (f1 11) (i_rg1 fm B (w_len fm B (w_nm 1 (fun _ => rfl) rfl) qL) (by rw [pL_len]; omega)) (by rw [rgD_len, Int.toNat_natCast, pL_len]; omega) (fun i d h => (cw_name (Fam.blk fm) 11 (fun _ => rfl) (by decide))) (fun i d h => ?_) (fun i d h hq => ?_))) keep_rg) (fun _ => rfl) fun σ M H c => ?_)
    · obtain ⟨hi', rfl⟩ := rgD_get h
      rw [Int.toNat_natCast, pL_len] at hi'
      rw [hz]
      exact ts_one (et_eq (t_cmp (w_ix (Fam.blk fm) (w_ix (Fam.blk fm) (w_nm 1 (fun _ => rfl) rfl) (w_nm 11 (fun _ => rfl) rfl) qL (atI_of i (tie i hi'))) w_int qL rfl) (w_nm 6 (fun _ => rfl) rfl) (cm_notIn (Fam.blk fm) sq_nD rfl flat_nD)) (congrArg Bool.not (inn _)))
    · obtain ⟨hi', rfl⟩ := rgD_get h
      rw [Int.toNat_natCast, pL_len] at hi'
      rw [hz]
      obtain ⟨l1, l2⟩ := at2_at (by rw [lt]; exact hi') rt ha
      exact (w_ix (Fam.blk fm) (w_ix (Fam.blk fm) (w_nm 4 (fun _ => rfl) rfl) (w_nm 11 (fun _ => rfl) rfl) qT (atI_of i (tT_at (by rw [lt]; exact hi')))) (w_nm 5 (fun _ => rfl) rfl) qT (atI_of a l2))
    rw [Int.toNat_natCast, Int.toNat_natCast, pL_len, sumI_of, sumI_of, sumI_of, sumI_of, b1, b2, b3] at c
    refine b_one (k_if (g := false) c (et_eq (t_pw (v_or (t_cmp (w_sub (w_nm 7 (fun _ => rfl) rfl) (w_nm 10 (fun _ => rfl) rfl)) w_int cm_neS) fun h2 => (v_or (t_cmp (w_nm 9 (fun _ => rfl) rfl) w_int cm_neS) fun h1 => (v_or1 (t_cmp (w_nm 12 (fun _ => rfl) rfl) w_int cm_neS))))) ?_) (fun h M H c => nomatch h) fun h M H c => ?_)
    · rw [Bool.or_eq_false_iff, Bool.or_eq_false_iff]
      refine ⟨?_, rfl, rfl⟩
      rw [Bool.not_eq_false', decide_eq_true_eq]
      refine congrArg V.int ?_
      omega
    · exact b_nil (kn () _ _ _ trivial ((((((((c.forget 5).forget 6).forget 7).forget 8).forget 9).forget 10).forget 11).forget 12))
  · exact b_one (k_ret c (E.eq w_bl rfl) fun v M H c r => q v _ _ M H c r)
abbrev s75 : Stmt := top 75
theorem sc75 : FnScope ["_law_many", "_law_ties", "_law_houses", "_law_archives", "_law_tie", "_law_house", "_law_act"] ["_law_many", "_law_ties", "_law_houses", "_law_archives"] (defScope s75) := ⟨rfl, rfl, rfl, by decide +kernel, rfl, by decide +kernel, by decide +kernel⟩
abbrev RAbove : List D → D → Prop := fun ds d => ∃ (h : Nat) (ts : List Tie) (acts : Nat) (s : Bk), ds = [.int (h : Int), .lst (pL ts), .tup (tT s.hs), .tup (tT s.tz)] ∧ WOk h ts ∧ BkOk h ts acts s ∧ acts ≤ 1000 ∧ d = .bl true
include B in
theorem ok75 {f : Addr} {fd : FuncData} (F : Df K mg "_law_are_above" s75 f fd) : Cal P wd K mg base "_law_are_above" 1 ["_law_many", "_law_ties", "_law_houses", "_law_archives"] (spD RAbove) := by
  refine cal_pure F.F sc75 F.g (F.F.binds fun _ _ _ _ _ _ us hl => match us, hl with | [_, _, _, _], _ => rfl) (fun ds d ⟨_, _, _, _, e, _⟩ => by rw [e]; rfl) ?_
  rintro cdv A outer s H Er fm ds d ⟨h, ts, acts, bk, rfl, w, ok, a1000, rfl⟩ M0 H0 σ D c q
  have t20 := w.t20
  have hz : ∀ i : Nat, (0 : Int) + (i : Int) = (i : Int) := fun i => by omega
  refine b_cons (k_forB fm (G := Unit) (fun _ _ => True) (fun _ => []) (fun _ => [some (.int (h : Int)), some (.lst (pL ts)), some (.tup (tT bk.hs)), some (.tup (tT bk.tz)), none, none, none]) () (f1 4) c (i_rg1 fm B (w_len fm B (w_nm 1 (fun _ => rfl) rfl) qL) (by rw [pL_len]; omega)) trivial rfl (fun _ _ _ σ M H c => c) (fun i d h => (g_name fm 4 (fun _ => rfl))) (fun M1 H1 lf i d x σ M H hi hP c D1 e1 e2 kn => ?_) (fun x σ M H hP c => ?_) (fun _ => passes_of rfl))
  · obtain ⟨hi', rfl⟩ := rgD_get hi
    rw [Int.toNat_natCast, pL_len] at hi'
    rw [hz] at c
    have hti : ts[i]? = some (ts.getD i (0, 0)) := getD_at hi'
    generalize ts.getD i (0, 0) = p at hti
    obtain ⟨p1, p2, _⟩ := w.tie p (List.mem_of_getElem? hti)
    refine b_one (k_forB fm (G := Unit) (fun _ _ => True) (fun _ => []) (fun _ => [some (.int (h : Int)), some (.lst (pL ts)), some (.tup (tT bk.hs)), some (.tup (tT bk.tz)), some (.int (i : Int)), none, none]) () (f1 5) c (i_sq fm (w_ix fm (w_nm 1 (fun _ => rfl) rfl) (w_nm 4 (fun _ => rfl) rfl) qL (atI_of i (pL_at hti))) qL) trivial rfl (fun _ _ _ σ M H c => c) (fun i d h => (g_name fm 5 (fun _ => rfl))) (fun M2 H2 lf2 j d x σ M H hj hP c D2 f1' f2' kn2 => ?_) (fun x σ M H hP c => ?_) (fun _ => passes_of rfl))
    · obtain ⟨u, hu, eu, le⟩ : ∃ u : Nat, u < h ∧ d = .int (u : Int) ∧ ∀ a, at2 bk.tz i a ≤ at2 bk.hs u a := by
        match j, hj with
        | 0, hj => exact ⟨p.1, p1, (Option.some.inj hj).symm, fun a => (ok.le i p a hti).1⟩
        | 1, hj => exact ⟨p.2, p2, (Option.some.inj hj).symm, fun a => (ok.le i p a hti).2⟩
      subst eu
      have htl : i < bk.tz.length := by rw [ok.tl]; exact hi'
      have hhl : u < bk.hs.length := by rw [ok.hl]; exact hu
      have rl := ok.tr _ (getD_mem (d := []) htl)
      refine b_one (k_if (g := false) c (et_eq (t_not (t_val (w_all fm B (bs := (List.range acts).map fun _ => true) (EN.e (n_lc fm [("_law_act", 6)] (blkOk_by (sc := defScope s75) (by decide +kernel)) (fun _ => rfl) (fun _ => true) (fun _ => .bl true) (f1 6) (i_rg1 fm B (w_len fm B (w_ix fm (w_nm 3 (fun _ => rfl) rfl) (w_nm 4 (fun _ => rfl) rfl) qT (atI_of i (tT_at htl))) qT) (by rw [nD_len]; omega)) (by rw [rgD_len, Int.toNat_natCast, nD_len]; omega) (fun i d h => (cw_name (Fam.blk fm) 6 (fun _ => rfl) (by decide))) (fun i d h => ts_nil) (fun a d hk hq => ?_))) ?_))) ?_) (fun h M H c => nomatch h) fun h M H c => ?_)
      · obtain ⟨ha, rfl⟩ := rgD_get hk
        rw [Int.toNat_natCast, nD_len, rl] at ha
        rw [hz]
        obtain ⟨_, l2⟩ := at2_at htl ok.tr ha
        obtain ⟨_, l4⟩ := at2_at hhl ok.hr ha
        refine E.eq (w_cmp (w_ix (Fam.blk fm) (w_ix (Fam.blk fm) (w_nm 2 (fun _ => rfl) rfl) (w_nm 5 (fun _ => rfl) rfl) qT (atI_of u (tT_at hhl))) (w_nm 6 (fun _ => rfl) rfl) qT (atI_of a l4)) (w_ix (Fam.blk fm) (w_ix (Fam.blk fm) (w_nm 3 (fun _ => rfl) rfl) (w_nm 4 (fun _ => rfl) rfl) qT (atI_of i (tT_at htl))) (w_nm 6 (fun _ => rfl) rfl) qT (atI_of a l2)) cm_ge) ?_
        have := le a
        rw [decide_eq_true (p := _) (by omega)]
      · rw [keep_all, Int.toNat_natCast, nD_len, rl]
        unfold rgD
        rw [List.map_map]; rw [List.map_map]
        rfl
      · rw [List.all_map]
        have : (List.range acts).all (id ∘ fun _ => true) = true := List.all_eq_true.mpr fun _ _ => rfl
        rw [this]; rfl
      · exact b_nil (kn2 () _ _ _ trivial ((c.forget 5).forget 6))
    · exact kn () _ _ _ trivial (c.forget 4)
  · refine b_one (k_ret c (E.eq (w_and (w_cmp (w_len fm B (w_nm 2 (fun _ => rfl) rfl) qT) (w_nm 0 (fun _ => rfl) rfl) cm_eqS) fun h1 => (w_one (w_cmp (w_len fm B (w_nm 3 (fun _ => rfl) rfl) qT) (w_len fm B (w_nm 1 (fun _ => rfl) rfl) qL) cm_eqS))) ?_) fun v M H c r => q v _ _ M H c r)
    rw [tT_len, tT_len, pL_len, ok.hl, ok.tl]
    simp
end
end Hb
/-! Ly17: lists of new lists that differ; targets that change cells. -/
namespace Ly
open PySem L2 Mc
section
variable {F : List Addr} {M0 H0 M H M' H' : Hp} {own own' : Own} {ρ ρ' : Ev} {σ σ' : L2.St}
/-- new rows, each with its content -/
def rowG (rs : List (Addr × List D)) : Own := rs.map fun r => (r.1, .l r.2)
/-- new lists that differ in a new list -/
theorem x_lcG {wi : TI} {g : TG} {tt : TT} {te : TE} {vs : List Nat} {ds : List Ly.D} (w : Ly.D → List Ly.D) (f : Ly.D → Ev → Ev) (hi : EI own ρ wi ds) (hl : ds.length ≤ 100000)
    (hg : ∀ (i : Nat) (d : Ly.D), ds[i]? = some d → EW g vs d (f d)) (ht : ∀ (i : Nat) (d : Ly.D), ds[i]? = some d → ET own (f d (wipeD ρ vs)) tt true) (he : ∀ (i : Nat) (d : Ly.D), ds[i]? = some d → EN own (f d (wipeD ρ vs)) te (w d)) :
    X own ρ (tLc wi g tt te vs) (fun d o => ∃ a rs, d = .ref a ∧ rs.map (·.2) = ds.map w ∧ o = (a, .l (rs.map fun r => D.ref r.1)) :: (rowG rs ++ own)) := fun F M0 H0 σ M H c Q q =>
  hi σ M H c.sd _ fun J M1 H1 u w' D hD => by
    have c1 := c.pure u
    have s1 := c1.sd
    have wk : Walk J ds.length (fun H' => ∃ M', Same M1 M' ∧ Same M' H') (fun i H' x H'' => ∀ M', Same M1 M' → Same M' H' → ∀ d, ds[i]? = some d → ∃ M'', Pu M' H' M'' H'' ∧ Dv M'' x d) :=
      ⟨fun i H' hi ⟨M', s1, s2⟩ => w'.goes i M' H' hi s1 s2, fun H' ⟨M', s1, s2⟩ => w'.stops M' H' s1 s2, fun i H' x H'' _ _ y M' s1 s2 d e => w'.yields i x d M' H' H'' e s1 s2 y⟩
    refine lc_it wk (fun i H' => ∃ M' rs, Pu M1 H1 M' H' ∧ M' D = none ∧ H' D = some (.lst (rs.map fun r => V.ref r.1)) ∧ rs.map (·.2) = (ds.take i).map w ∧ (∀ r ∈ rs, r.1 ≠ D ∧ H1 r.1 = none) ∧ OwnOk M' H' (rowG rs ++ own)) ⟨M1, [], Pu.newH u.mh hD, same_back u.mh hD, upd_same, rfl, (fun _ h => nomatch h), s1.ow.pure (Pu.newH u.mh hD)⟩
      (fun i H' _ ⟨M', us, u', _⟩ => ⟨M', u'.mm, u'.mh⟩) (fun i x H' H'' hi ⟨M', rs, u', n', a', l', d', o'⟩ y => ?_) (fun H' ⟨M', rs, u', n', a', l', d', o'⟩ => ?_)
    · have ed : ds[i]? = some ds[i] := by simp [hi]
      obtain ⟨M2, u2, r2⟩ := y M' u'.mm u'.mh _ ed
      have s2 : Sd own (wipeD ρ vs) (wipe σ vs) M2 H'' := ⟨u2.mh, (((s1.pure u').pure u2).env).wipe vs, ((s1.ow.pure u').pure u2)⟩
      refine hg i _ ed own (wipeD ρ vs) (wipe σ vs) M2 H'' x s2 r2 _ fun σ2 en hw => ⟨hw.trans (by rw [wipe_wipe vs vs fun _ h => h]), ?_⟩
      have s3 : Sd own (f ds[i] (wipeD ρ vs)) σ2 M2 H'' := ⟨s2.mh, en, s2.ow⟩
      refine ht i _ ed σ2 M2 H'' s3 _ fun M3 H3 u3 => ?_
      rw [if_pos rfl]
      refine he i _ ed σ2 M3 H3 (s3.pure u3) _ fun p us M4 H4 u4 hp mp ho r4 => ?_
      have n2 := u2.nn _ _ a' n'
      have a2 := u2.hh _ _ a'
      have n3 := u3.nn _ _ a2 n2
      have a3 := u3.hh _ _ a2
      have n4 := u4.nn _ _ a3 n3
      have a4 := u4.hh _ _ a3
      have u5 := ((u'.trans u2).trans u3).trans u4
      have pD : p ≠ D := fun z => by rw [z, a3] at hp; cases hp
      have ow5 := ((o'.pure u2).pure u3).pure u4
      have pfree : p ∉ (rowG rs ++ own).map (·.1) := fun hm => by
        rcases List.mem_map.mp hm with ⟨r, hr, e⟩
        obtain ⟨_, ob, hob, _⟩ := ((o'.pure u2).pure u3).at_ r hr
        rw [e, hp] at hob; cases hob
      have eo : ∀ r, r ∈ rowG (rs ++ [(p, w ds[i])]) ++ own ↔ r = (p, .l (w ds[i])) ∨ r ∈ rowG rs ++ own := fun r => by
        unfold rowG
        rw [List.map_append, List.append_assoc]
        simp only [List.map_cons, List.map_nil, List.mem_append, List.mem_cons, List.not_mem_nil, or_false]
        constructor
        · rintro (h | h | h)
          · exact .inr (.inl h)
          · exact .inl h
          · exact .inr (.inr h)
        · rintro (h | h | h)
          · exact .inr (.inl h)
          · exact .inl h
          · exact .inr (.inr h)
      have lr : rs.length ≤ i := by
        have := congrArg List.length l'
        rw [List.length_map, List.length_map, List.length_take] at this
        omega
      refine ⟨rs.map fun r => V.ref r.1, a4, by rw [List.length_map, sizeLine_eq]; omega, M4, rs ++ [(p, w ds[i])], ⟨u5.mm, fun b o h => ?_, fun b o h => ?_, u5.nn⟩, n4, ?_, by rw [List.map_append, l', List.take_add_one, ed, List.map_append]; rfl, fun r hr => ?_, ⟨?_, fun r hr => ?_⟩⟩
      · have hb : b ≠ D := ne_of_none h hD
        rw [upd_ne hb]; exact u5.hh b o h
      · have hb : b ≠ D := ne_of_none h n4
        rw [upd_ne hb]; exact u5.mh b o h
      · rw [upd_same, List.map_append]; rfl
      · obtain hr | hr := List.mem_append.mp hr
        · exact d' r hr
        · rw [List.mem_singleton.mp hr]; exact ⟨pD, ((u'.trans u2).trans u3).hh.free hp⟩
      · have e : (rowG (rs ++ [(p, w ds[i])]) ++ own).map (·.1) = (rowG rs).map (·.1) ++ (p :: own.map (·.1)) := by
          unfold rowG
          simp
        rw [e]
        have nd := ow5.nd
        rw [List.map_append] at nd pfree
        obtain ⟨n1, n2, n3⟩ := List.nodup_append.mp nd
        refine List.nodup_append.mpr ⟨n1, List.nodup_cons.mpr ⟨fun h => pfree (List.mem_append_right _ h), n2⟩, fun x hx z hz => ?_⟩
        rcases List.mem_cons.mp hz with hz | hz
        · subst hz; exact fun h => pfree (List.mem_append_left _ (h ▸ hx))
        · exact n3 x hx z hz
      · rcases (eo r).mp hr with rfl | hr
        · exact ⟨mp, .lst us, by rw [upd_ne pD]; exact ho, us, rfl, r4⟩
        · obtain ⟨n, ob, hob, ok⟩ := ow5.at_ r hr
          refine ⟨n, ob, ?_, ok⟩
          rw [upd_ne]; exact hob
          intro z
          have : D ∈ (rowG rs ++ own).map (·.1) := z ▸ List.mem_map_of_mem hr
          rw [List.map_append] at this
          rcases List.mem_append.mp this with h | h
          · unfold rowG at h
            rw [List.map_map] at h
            obtain ⟨t, ht, e⟩ := List.mem_map.mp h
            exact (d' t ht).1 e
          · obtain ⟨t, ht, e⟩ := List.mem_map.mp h
            obtain ⟨_, ob, hob, _⟩ := s1.ow.at_ t ht
            rw [e, hD] at hob; cases hob
    · have e : (D, OC.l (rs.map fun r => Ly.D.ref r.1)) :: (rowG rs ++ own) = ((D, OC.l (rs.map fun r => Ly.D.ref r.1)) :: rowG rs) ++ own := rfl
      have rd : Dvs M' (rs.map fun r => V.ref r.1) (rs.map fun r => Ly.D.ref r.1) := by
        have := Dvs.raws (M := M') (rs.map fun r => V.ref r.1)
        rw [List.map_map] at this
        exact this
      refine q (.ref D) (.ref D) _ M' H' ⟨D, rs, rfl, by rw [List.take_length] at l'; exact l', rfl⟩ (e ▸ c1.news u' (fun r hr => ?_) ⟨?_, fun r hr => ?_⟩) (u.trans u').mm (.raw _)
      · rcases List.mem_cons.mp hr with rfl | hr
        · exact hD
        · unfold rowG at hr
          obtain ⟨t, ht, rfl⟩ := List.mem_map.mp hr
          exact (d' t ht).2
      · rw [List.cons_append, List.map_cons, List.nodup_cons]
        refine ⟨fun h => ?_, o'.nd⟩
        rw [List.map_append] at h
        obtain h | h := List.mem_append.mp h
        · unfold rowG at h
          rw [List.map_map] at h
          obtain ⟨t, ht, e⟩ := List.mem_map.mp h
          exact (d' t ht).1 e
        · obtain ⟨t, ht, e⟩ := List.mem_map.mp h
          obtain ⟨_, ob, hob, _⟩ := s1.ow.at_ t ht
          rw [e, hD] at hob; cases hob
      · rcases List.mem_cons.mp hr with rfl | hr
        · exact ⟨n', _, a', _, rfl, rd⟩
        · exact o'.at_ r hr
/-- a target that changes cells -/
def XG (own : Own) (ρ : Ev) (g : TG) (d : D) (own' : Own) : Prop := ∀ (F : List Addr) (M0 H0 : Hp) (σ : L2.St) (M H : Hp) (v : V), C F M0 H0 own ρ σ M H → Dv M v d → ∀ Q : L2.St → Hp → Prop, (∀ M' H', C F M0 H0 own' ρ σ M' H' → Same M M' → Q σ H') → g v σ H Q
def XGs (own : Own) (ρ : Ev) (g : TGs) (ds : List D) (own' : Own) : Prop := ∀ (F : List Addr) (M0 H0 : Hp) (σ : L2.St) (M H : Hp) (vs : List V), C F M0 H0 own ρ σ M H → Dvs M vs ds → ∀ Q : L2.St → Hp → Prop, (∀ M' H', C F M0 H0 own' ρ σ M' H' → Same M M' → Q σ H') → g vs σ H Q
theorem xg_sub {to ti : TE} {ad : Addr} {k j : Nat} {ds : List D} {x : Int} {d : D} (ho : E own ρ to (.ref ad)) (hi : E own ρ ti (.int x)) (hk : own[k]? = some (ad, .l ds)) (hj : ixN ds.length x = some j) : XG own ρ (gSub to ti rSetL) d (own.set k (ad, .l (ds.set j d))) :=
  fun F M0 H0 σ M H v c r Q q => ho σ M H c.sd _ fun w M2 H2 u2 r2 => hi σ M2 H2 (c.sd.pure u2) _ fun y M3 H3 u3 r3 => by
    have c3 := (c.pure u2).pure u3
    obtain ⟨_, ob, hob, vs, rfl, rv⟩ := c3.sd.ow.get hk
    exact ⟨ad, vs, x, j, r2.raw_eq, r3.raw_eq, hob, by rw [rv.length]; exact hj, q M3 _ (c3.put hk ⟨_, rfl, rv.set (r.mono (u2.mm.trans u3.mm)) j⟩) (u2.mm.trans u3.mm)⟩
theorem xgs_nil : XGs own ρ gNil [] own := fun F M0 H0 σ M H vs c r Q q => by
  cases r
  exact ⟨rfl, q M H c (Same.refl _)⟩
theorem xgs_cons {g : TG} {u : TGs} {d : Ly.D} {ds : List D} {o1 o2 : Own} (h : XG own ρ g d o1) (hr : XGs o1 ρ u ds o2) : XGs own ρ (gCons g u) (d :: ds) o2 := fun F M0 H0 σ M H vs c r Q q => by
  cases r with
  | cons r rs => exact ⟨_, _, rfl, h F M0 H0 σ M H _ c r _ fun M1 H1 c1 s1 => hr F M0 H0 σ M1 H1 _ c1 (rs.mono s1) Q fun M2 H2 c2 s2 => q M2 H2 c2 (s1.trans s2)⟩
theorem xg_tup {K : PySem.W.Frag} {n : Nat} {g : TGs} {ds : List D} {o1 : Own} (h : XGs own ρ g ds o1) (hn : ds.length = n := by rfl) : XG own ρ (gTup K n g) (.tup ds) o1 := fun F M0 H0 σ M H v c r Q q => by
  obtain ⟨a, vs, rfl, ha, rs⟩ := r.tup_inv
  exact ⟨a, vs, rfl, .of (c.sd.mh _ _ ha), rs.length.trans hn, h F M0 H0 σ M H vs c rs Q q⟩
end
section
variable {ι : Type} {Z : ι → Cx} {own own' : Own} {ρ : Ev} {P : Program} {wd : World} {K : PySem.W.Frag} {mg : Str → Option Value} {base : Heap} {N : List Str} {k : Nat} (fm : Fam Z P wd K mg base N k)
variable {e elt iter tg : Expr} {pos : Pos} {ds : List D} {d : D} {D : Ends} {F : List Addr} {M0 H0 M H : Hp} {σ : L2.St}
include fm in
/-- [elt for tg in iter], elt a new list each time, of what comes -/
theorem x_lcRowsG (w : Ly.D → List Ly.D) {scope sc : Scope} (ow : List (Str × Nat)) (ok : BlkOk N sc scope ow) (hsc : ∀ n, (Z n).env.scope = sc) (f : Ly.D → Ev → Ev) (hi : EI own ρ (wI Z tg iter) ds) (hl : ds.length ≤ 100000)
    (hg : ∀ (i : Nat) (d : Ly.D), ds[i]? = some d → EW (wG (Zb Z scope) tg) (ow.map (·.2)) d (f d)) (he : ∀ (i : Nat) (d : Ly.D), ds[i]? = some d → EN own (f d (wipeD ρ (ow.map (·.2)))) (wE (Zb Z scope) elt) (w d))
    (hs : ∀ n x, foldedSetIterable iter (Z n).env x = pure x := by intro _ _; rfl) : X own ρ (wE Z (.ListComp elt [⟨tg, iter, [], 0⟩] scope pos)) (fun d o => ∃ a rs, d = .ref a ∧ rs.map (·.2) = ds.map w ∧ o = (a, .l (rs.map fun r => Ly.D.ref r.1)) :: (rowG rs ++ own)) :=
  X.wz (x_lcG w f hi hl hg (fun _ _ _ => ts_nil) he) fun n => pe_lcT fm ok hsc hs n
theorem XG.wz {g : TG} (h : XG own ρ g d own') (hp : ∀ n, PG (Z n) tg g) : XG own ρ (wG Z tg) d own' := fun F M0 H0 σ M H v c r Q q => ⟨g, hp, h F M0 H0 σ M H v c r Q q⟩
theorem XGs.wz {g : TGs} {es : List Expr} (h : XGs own ρ g ds own') (hp : ∀ n, PGs (Z n) es g) : XGs own ρ (wGs Z es) ds own' := fun F M0 H0 σ M H v c r Q q => ⟨g, hp, h F M0 H0 σ M H v c r Q q⟩
theorem xw_sub {o i : Expr} {p' : Pos} {ad : Addr} {k j : Nat} {ds : List Ly.D} {x : Int} (ho : E own ρ (wE Z o) (.ref ad)) (hi : E own ρ (wE Z i) (.int x)) (hk : own[k]? = some (ad, .l ds)) (hj : ixN ds.length x = some j)
    (ha : ∀ n v, assign (.Subscript o i p') (Z n).env v = (do
      let ov ← holding [v] (eval o (Z n).env)
      let iv ← holding [v, ov] (eval i (Z n).env)
      standAt p'
      holding [v, ov, iv] <| setItem ov iv v
      release [v, ov, iv] []) := by intro _ _; rfl) : XG own ρ (wG Z (.Subscript o i p')) d (own.set k (ad, .l (ds.set j d))) :=
  (xg_sub ho hi hk hj).wz fun n => pg_sub (pe_w n) (pe_w n) set_list (ha n)
theorem xws_nil : XGs own ρ (wGs Z []) [] own := xgs_nil.wz fun _ => pgs_nil
theorem xws_cons {es : List Expr} {o1 o2 : Own} (h : XG own ρ (wG Z e) d o1) (hr : XGs o1 ρ (wGs Z es) ds o2) (hs : ∀ n, (assignEach (e :: es) (Z n).env).map (·.2) = assign e (Z n).env :: (assignEach es (Z n).env).map (·.2) := by intro _; rfl) : XGs own ρ (wGs Z (e :: es)) (d :: ds) o2 :=
  (xgs_cons h hr).wz fun n => pgs_cons (pg_w n) (pgs_w n) (hs n)
include fm in
theorem xw_tup {es : List Expr} {l m : Nat} {p' : Pos} (h : XGs own ρ (wGs Z es) ds own') (hm : ds.length = m := by rfl) (hn : ∀ n, (assignEach es (Z n).env).length = m := by intro _; rfl) (hst : ∀ n, (assignEach es (Z n).env).findIdx? (·.1) = none := by intro _; rfl) : XG own ρ (wG Z (.Tuple es l p')) (.tup ds) own' :=
  (xg_tup (K := K) h hm).wz fun n => fm.K n ▸ pg_tup (fm.calm n) (pgs_w n) (hn n) (hst n)
/-- target = e, a target that changes cells -/
theorem k_asgG (c : C F M0 H0 own ρ σ M H) (h : E own ρ (wE Z e) d) (hg : XG own ρ (wG Z tg) d own') (k : ∀ M' H', C F M0 H0 own' ρ σ M' H' → D.nx σ H') (hs : ∀ n, swapsWithSole [tg] e pos.line (Z n).env = pure false := by intro _; rfl) (hw : ∀ n, swappedStores [tg] e (Z n).env = pure none := by intro _; rfl)
    (h1 : ∀ n, (assignEach [tg] (Z n).env).map (·.2) = [assign tg (Z n).env] := by intro _; rfl) : wS Z (.Assign [tg] e pos) D σ H :=
  ⟨tAsg (wE Z e) (wG Z tg), fun n => ps_asg (pe_w n) (pg_w n) (hs n) (hw n) (h1 n), h σ M H c.sd _ fun v M1 H1 u1 r1 => hg F M0 H0 σ M1 H1 v (c.pure u1) r1 _ fun M2 H2 c2 _ => k M2 H2 c2⟩
end
end Ly
/-! Mt4: books with more room; data that equal themselves. -/
namespace Hb
open PySem L2 Mc Ly
def padTo (n : Nat) (r : List Nat) : List Nat := r ++ List.replicate (n - r.length) 0
theorem getD_lt {l : List Nat} {i : Nat} (h : i < l.length) : l.getD i 0 = l[i] := by simp [List.getD, h]
theorem getD_ge {l : List Nat} {i : Nat} (h : l.length ≤ i) : l.getD i 0 = 0 := by simp [List.getD, h]
theorem rows_ext {m m' : List (List Nat)} {n : Nat} (hl : m.length = m'.length) (h1 : ∀ r ∈ m, r.length = n) (h2 : ∀ r ∈ m', r.length = n) (h : ∀ i j, at2 m i j = at2 m' i j) : m = m' := by
  refine List.ext_getElem hl fun i hi hi' => ?_
  have e1 : m.getD i [] = m[i] := by simp [List.getD, hi]
  have e2 : m'.getD i [] = m'[i] := by simp [List.getD, hi']
  have l1 := h1 _ (List.getElem_mem hi)
  have l2 := h2 _ (List.getElem_mem hi')
  refine List.ext_getElem (l1.trans l2.symm) fun j hj hj' => ?_
  have := h i j
  unfold at2 at this
  rw [e1, e2, getD_lt hj, getD_lt hj'] at this
  exact this
theorem pad_at {n : Nat} {r : List Nat} {j : Nat} : (padTo n r).getD j 0 = r.getD j 0 := by
  unfold padTo
  by_cases h : j < r.length
  · rw [List.getD_eq_getElem?_getD, List.getElem?_append_left h, ← List.getD_eq_getElem?_getD]
  · rw [List.getD_eq_getElem?_getD, List.getElem?_append_right (by omega), ← List.getD_eq_getElem?_getD, rep_getD, getD_ge (by omega)]
    split <;> rfl
theorem pad_at2 {n : Nat} {m : List (List Nat)} {i j : Nat} : at2 (m.map (padTo n)) i j = at2 m i j := by
  unfold at2
  by_cases h : i < m.length
  · have e1 : (m.map (padTo n)).getD i [] = padTo n (m.getD i []) := getD_of (by rw [List.getElem?_map, getD_at (d := []) h]; rfl)
    rw [e1, pad_at]
  · have e1 : (m.map (padTo n)).getD i [] = [] := by simp [List.getD, show m.length ≤ i by omega]
    have e2 : m.getD i [] = [] := by simp [List.getD, show m.length ≤ i by omega]
    rw [e1, e2]
theorem pad_len {n : Nat} {r : List Nat} (h : r.length ≤ n) : (padTo n r).length = n := by
  unfold padTo
  rw [List.length_append, List.length_replicate]; omega
/-- counts do not hang on the room -/
theorem same_at {h : Nat} {ts : List Tie} (w : WOk h ts) {a b : Nat} : ∀ (ss : List Stp), (deedsOf ss).length ≤ a → (deedsOf ss).length ≤ b → (∀ s ∈ ss, sok h ts.length 8 s = true) → (∀ i j, at2 (bookAt h ts a ss).hs i j = at2 (bookAt h ts b ss).hs i j) ∧ ∀ i j, at2 (bookAt h ts a ss).tz i j = at2 (bookAt h ts b ss).tz i j := by
  refine snocI (fun _ _ _ => ⟨fun i j => ?_, fun i j => ?_⟩) (fun ss s ih => ?_)
  · show at2 (List.replicate _ _) i j = at2 (List.replicate _ _) i j
    rw [bk0_at, bk0_at]
  · show at2 (List.replicate _ _) i j = at2 (List.replicate _ _) i j
    rw [bk0_at, bk0_at]
  · intro la lb hok
    rw [deedsOf_append, List.length_append] at la lb
    have hok' : ∀ s ∈ ss, sok h ts.length 8 s = true := fun s hs => hok s (List.mem_append_left _ hs)
    obtain ⟨e1, e2⟩ := ih (by omega) (by omega) hok'
    have oa := book_ok w ss (acts := a) (by omega) hok'
    have ob := book_ok w ss (acts := b) (by omega) hok'
    have ca := acted_at (h := h) (ts := ts) (acts := a) ss
    have cb := acted_at (h := h) (ts := ts) (acts := b) ss
    have o := hok s (List.mem_append_right _ List.mem_cons_self)
    rw [bookAt_snoc, bookAt_snoc]
    cases s with
    | act u k =>
      have o : (decide (u < h) && decide (k < 8)) = true := o
      rw [Bool.and_eq_true, decide_eq_true_eq, decide_eq_true_eq] at o
      have l1 : (deedsOf [Stp.act u k]).length = 1 := rfl
      refine ⟨fun i j => ?_, e2⟩
      rw [hear_act oa o.1 (by omega), hear_act ob o.1 (by omega), e1, ca, cb]
    | meet i =>
      have o : decide (i < ts.length) = true := o
      have ht : ts[i]? = some (ts.getD i (0, 0)) := getD_at (of_decide_eq_true o)
      refine ⟨fun u j => ?_, fun u j => ?_⟩
      · rw [hear_meetH oa w ht, hear_meetH ob w ht, e1, e1, e1, e2]
      · rw [hear_meetT oa w ht, hear_meetT ob w ht, e1, e1, e2, e2]
theorem pad_book {h acts : Nat} {ts : List Tie} (w : WOk h ts) {ss : List Stp} (hl : (deedsOf ss).length ≤ acts) (hok : ∀ s ∈ ss, sok h ts.length 8 s = true) :
    (bookOf h ts ss).hs.map (padTo acts) = (bookAt h ts acts ss).hs ∧ (bookOf h ts ss).tz.map (padTo acts) = (bookAt h ts acts ss).tz := by
  have o1 : BkOk h ts (deedsOf ss).length (bookOf h ts ss) := book_ok w ss (Nat.le_refl _) hok
  have o2 := book_ok w ss hl hok
  obtain ⟨e1, e2⟩ := same_at w (a := (deedsOf ss).length) ss (Nat.le_refl _) hl hok
  refine ⟨rows_ext (n := acts) (by rw [List.length_map, o1.hl, o2.hl]) (fun r hr => ?_) o2.hr fun i j => ?_, rows_ext (n := acts) (by rw [List.length_map, o1.tl, o2.tl]) (fun r hr => ?_) o2.tr fun i j => ?_⟩
  · obtain ⟨q, hq, rfl⟩ := List.mem_map.mp hr
    exact pad_len (by rw [o1.hr q hq]; exact hl)
  · rw [pad_at2]; exact e1 i j
  · obtain ⟨q, hq, rfl⟩ := List.mem_map.mp hr
    exact pad_len (by rw [o1.tr q hq]; exact hl)
  · rw [pad_at2]; exact e2 i j
/-! ### data that equal themselves -/
def pyN (l : List Nat) : List PyData := l.map fun n : Nat => PyData.int (n : Int)
def pyT (m : List (List Nat)) : List PyData := m.map fun r => PyData.tuple (pyN r)
theorem py_nD : ∀ l : List Nat, Pys (nD l) (pyN l)
  | [] => .nil
  | n :: l => .cons (.int _) (py_nD l)
theorem py_tT : ∀ m : List (List Nat), Pys (tT m) (pyT m)
  | [] => .nil
  | r :: m => .cons (.tup (py_nD r)) (py_tT m)
theorem lay_nD : ∀ l : List Nat, PyData.canLayAll0 (pyN l) = true ∧ PyData.depthAll (pyN l) = 0
  | [] => ⟨rfl, rfl⟩
  | n :: l => by
    obtain ⟨h1, h2⟩ := lay_nD l
    refine ⟨?_, ?_⟩
    · show (true && PyData.canLayAll0 (pyN l)) = true
      rw [h1]; rfl
    · show max 0 (PyData.depthAll (pyN l)) = 0
      rw [h2]; rfl
theorem lay_tT : ∀ m : List (List Nat), PyData.canLayAll0 (pyT m) = true ∧ PyData.depthAll (pyT m) ≤ 1
  | [] => ⟨rfl, Nat.zero_le _⟩
  | r :: m => by
    obtain ⟨h1, h2⟩ := lay_tT m
    obtain ⟨h3, h4⟩ := lay_nD r
    refine ⟨?_, ?_⟩
    · show (PyData.canLayAll0 (pyN r) && PyData.canLayAll0 (pyT m)) = true
      rw [h1, h3]; rfl
    · show max (PyData.depthAll (pyN r) + 1) (PyData.depthAll (pyT m)) ≤ 1
      rw [h4]; omega
def pyC (a b : List (List Nat)) : PyData := .tuple [.tuple (pyT a), .tuple (pyT b)]
theorem py_cD {a b : List (List Nat)} : Py (.tup [.tup (tT a), .tup (tT b)]) (pyC a b) := .tup (.cons (.tup (py_tT a)) (.cons (.tup (py_tT b)) .nil))
theorem lay_cD {a b : List (List Nat)} : (pyC a b).canLay0 = true ∧ (pyC a b).depth ≤ 3 := by
  obtain ⟨h1, h2⟩ := lay_tT a
  obtain ⟨h3, h4⟩ := lay_tT b
  refine ⟨?_, ?_⟩
  · show (PyData.canLayAll0 (pyT a) && (PyData.canLayAll0 (pyT b) && true)) = true
    rw [h1, h3]; rfl
  · show max (PyData.depthAll (pyT a) + 1) (max (PyData.depthAll (pyT b) + 1) 0) + 1 ≤ 3
    omega
theorem shaped_of {p : PyData} (h : p.canLay0 = true ∧ p.depth ≤ 3) : SeqAt.shaped p = true := by
  unfold SeqAt.shaped
  rw [h.1, decide_eq_true (by have := h.2; omega)]; rfl
end Hb
/-! Df19: whether counts behind a step follow from those ahead. -/
namespace Hb
open PySem L2 Mc Ly
theorem rowE {n : Nat} (i : Nat) (d : D) (m : List (List Nat)) (hm : ∀ r ∈ m, r.length ≤ n) (e : (tT m)[i]? = some d) : ∃ r : List Nat, d = .tup (nD r) ∧ r.length ≤ n := by
  obtain ⟨r, hr, rfl⟩ := tT_get e
  exact ⟨r, rfl, hm r (List.mem_of_getElem? hr)⟩
def padD (n : Nat) : D → List D
  | .tup l => l ++ List.replicate (n - l.length) (.int 0)
  | _ => []
theorem padD_row {n : Nat} {r : List Nat} : padD n (.tup (nD r)) = nD (padTo n r) := by
  show nD r ++ List.replicate (n - (nD r).length) (.int 0) = nD (padTo n r)
  unfold padTo nD
  rw [List.map_append, List.map_replicate, List.length_map]; rfl
theorem flat_one {α : Type} {x : α} : ∀ n : Nat, (List.replicate n [x]).flatten = List.replicate n x
  | 0 => rfl
  | n + 1 => by rw [List.replicate_succ, List.flatten_cons, flat_one n]; rfl
theorem rw_of : ∀ (rs : List (Addr × List D)) (rows : List (List Nat)), rs.map (·.2) = rows.map nD → ∃ hr : Rw, rs = hr.map (fun p => (p.1, nD p.2)) ∧ hr.map (·.2) = rows
  | [], [], _ => ⟨[], rfl, rfl⟩
  | [], _ :: _, h => nomatch h
  | _ :: _, [], h => nomatch h
  | (a, l) :: rs, r :: rows, h => by
    obtain ⟨h1, h2⟩ := List.cons.inj h
    obtain ⟨hr, e1, e2⟩ := rw_of rs rows h2
    have h1 : l = nD r := h1
    subst h1 e1 e2
    exact ⟨(a, r) :: hr, rfl, rfl⟩
theorem rowG_of {hr : Rw} : rowG (hr.map fun p => (p.1, nD p.2)) = rowO hr := by unfold rowG rowO; rw [List.map_map]; rfl
theorem refs_of {hr : Rw} : ((hr.map fun p => (p.1, nD p.2)).map fun r : Addr × List D => D.ref r.1) = refs hr := by unfold refs; rw [List.map_map]; rfl
theorem put2 {hl tl : Addr} {hr tr : Rw} {v : Nat} {r : Addr} {l l' : List Nat} (h : hr[v]? = some (r, l)) : (((hl, OC.l (refs hr)) :: (tl, OC.l (refs tr)) :: (rowO hr ++ rowO tr)).set (v + 2) (r, .l (nD l'))) = (hl, OC.l (refs (hr.set v (r, l')))) :: (tl, OC.l (refs tr)) :: (rowO (hr.set v (r, l')) ++ rowO tr) := by
  rw [rowO_set, refs_set]
  have e : (refs hr).set v (.ref r) = refs hr := by
    refine List.ext_getElem? fun j => ?_; by_cases hj : v = j
    · subst hj
      rw [List.getElem?_set_self (by rw [refs_len]; exact lt_of_get h), refs_get h]
    · rw [List.getElem?_set_ne hj]
  rw [e]
  show _ :: _ :: (rowO hr ++ _).set v _ = _
  rw [List.set_append_left _ _ (by rw [rowO_len]; exact lt_of_get h)]
theorem tL_set {m : List (List Nat)} {k : Nat} {r : List Nat} : (tL m).set k (.lst (nD r)) = tL (m.set k r) := by unfold tL; rw [List.map_set]
section
variable {M0 H0 M H : Hp} {ρ : Ev} {σ : L2.St}
/-- rows let go, their lists told anew -/
theorem C.frzRows2 {hl tl : Addr} {hr tr : Rw} (c : C [] M0 H0 ((hl, .l (refs hr)) :: (tl, .l (refs tr)) :: (rowO hr ++ rowO tr)) ρ σ M H) : ∃ M', C [] M0 H0 [(hl, .l (tL (hr.map (·.2)))), (tl, .l (tL (tr.map (·.2))))] ρ σ M' H := by
  have c1 := c.perm (o2 := rowO hr ++ (rowO tr ++ [(hl, .l (refs hr)), (tl, .l (refs tr))])) (by
    refine perm_c fun x => ?_
    simp only [List.count_cons, List.count_append, List.count_nil]
    omega)
  obtain ⟨M1, c2, s1, d1⟩ := C.frzRows hr c1
  obtain ⟨M2, c3, s2, d2⟩ := C.frzRows tr c2
  have c4 := c3.tellL (k := 0) (es := tL (hr.map (·.2))) rfl fun vs r => refs_told (fun p hp => (d1 p hp).mono s2) r
  have c5 := c4.tellL (k := 1) (es := tL (tr.map (·.2))) rfl fun vs r => refs_told (fun p hp => d2 p hp) r
  exact ⟨M2, c5⟩
end
section
variable {P : Program} {wd : World} {K : PySem.W.Frag} {mg : Str → Option Value} {base : Heap} (B : Blt mg) (G : Gc mg)
abbrev s76 : Stmt := top 76
abbrev N76 : List Str := ["_law_ties", "_law_step", "_law_ahead", "_law_behind", "_law_acts", "_law_houses", "_law_archives", "_law_row", "_law_here", "_law_there", "_law_joined_here", "_law_one", "_law_other", "_law_both"]
theorem sc76 : FnScope N76 ["_law_ties", "_law_step", "_law_ahead", "_law_behind", "_law_acts"] (defScope s76) := ⟨rfl, rfl, rfl, by decide +kernel, rfl, by decide +kernel, by decide +kernel⟩
def bkD (s : Bk) : D := .tup [.tup (tT s.hs), .tup (tT s.tz)]
abbrev RFollow : List D → D → Prop := fun ds d => ∃ (h : Nat) (ts : List Tie) (ss : List Stp) (st : Stp), ds = [.lst (pL ts), stT st, bkD (bookOf h ts ss), bkD (bookOf h ts (ss ++ [st])), .int ((deedsOf (ss ++ [st])).length : Nat)] ∧ WOk h ts ∧ (∀ x ∈ ss ++ [st], sok h ts.length 8 x = true) ∧ (ss ++ [st]).length ≤ 400 ∧ d = .bl true
include B in
theorem ok76 {f : Addr} {fd : FuncData} (F : Df K mg "_law_follow" s76 f fd) : Cal P wd K mg base "_law_follow" 1 ["_law_ties", "_law_step", "_law_ahead", "_law_behind", "_law_acts"] (spD RFollow) := by
  refine cal_pure F.F sc76 F.g (F.F.binds fun _ _ _ _ _ _ us hl => match us, hl with | [_, _, _, _, _], _ => rfl) (fun ds d ⟨_, _, _, _, e, _⟩ => by rw [e]; rfl) ?_
  rintro cdv A outer s HH Er fm ds d ⟨h, ts, ss, st, rfl, w, hok, h400, rfl⟩ M0 H0 σ D0 c q
  have hok1 : ∀ x ∈ ss, sok h ts.length 8 x = true := fun x hx => hok x (List.mem_append_left _ hx)
  have hst := hok st (List.mem_append_right _ List.mem_cons_self)
  have hlen : (deedsOf (ss ++ [st])).length = (deedsOf ss).length + (deedsOf [st]).length := by rw [deedsOf_append, List.length_append]
  have hd1 := deedsOf_len (ss := ss ++ [st])
  have o0 : BkOk h ts (deedsOf ss).length (bookOf h ts ss) := book_ok w ss (Nat.le_refl _) hok1
  have eb : bookOf h ts (ss ++ [st]) = hearB ts (bookAt h ts (deedsOf (ss ++ [st])).length ss) st := bookAt_snoc
  obtain ⟨pb1, pb2⟩ := pad_book w (acts := (deedsOf (ss ++ [st])).length) (ss := ss) (by omega) hok1
  have o1 := book_ok w ss (acts := (deedsOf (ss ++ [st])).length) (by omega) hok1
  have wh := whole w (acts := (deedsOf (ss ++ [st])).length) ss (by omega) hok1
  have wac := wh.acted
  have wz := wh.zh
  clear wh
  have o2 := book_ok w (ss ++ [st]) (acts := (deedsOf (ss ++ [st])).length) (Nat.le_refl _) hok
  rw [bookAt_snoc] at o2
  generalize hA : (deedsOf (ss ++ [st])).length = acts at *
  generalize bookOf h ts ss = b0 at *
  rw [eb] at c
  generalize bookAt h ts acts ss = b at *
  have h12 := w.h12
  have t20 := w.t20
  have r1 : ∀ r ∈ b0.hs, r.length ≤ acts := fun r hr => by rw [o0.hr r hr]; omega
  have r2 : ∀ r ∈ b0.tz, r.length ≤ acts := fun r hr => by rw [o0.tr r hr]; omega
  refine b_cons (k_par fm 5 6 c (xa_cn (x_lcRowsG fm (padD acts) [("_law_row", 7)] (blkOk_by (sc := defScope s76) (by decide +kernel)) (fun _ => rfl) (f1 7) (i_sq fm (w_ix fm (w_nm 2 (fun _ => rfl) rfl) w_int qT rfl) qT) (by rw [tT_len, o0.hl]; omega) (fun i d h => (cw_name (Fam.blk fm) 7 (fun _ => rfl) (by decide))) (fun i d e => ?_))
    (Pr := fun x r o => ∃ a hl rs zs, x = .ref hl ∧ r = [.ref a] ∧ rs.map (·.2) = (tT b0.hs).map (padD acts) ∧ zs.map (·.2) = (tT b0.tz).map (padD acts) ∧ o = (a, OC.l (zs.map fun r => Ly.D.ref r.1)) :: (rowG zs ++ ((hl, OC.l (rs.map fun r => Ly.D.ref r.1)) :: (rowG rs ++ []))))
    (fun x o ⟨hl, rs, ex, hrs, eo⟩ => by
      subst ex eo
      refine XA.imp (xa_one (x_lcRowsG fm (padD acts) [("_law_row", 7)] (blkOk_by (sc := defScope s76) (by decide +kernel)) (fun _ => rfl) (f1 7) (i_sq fm (w_ix fm (w_nm 2 (fun _ => rfl) rfl) w_int qT rfl) qT) (by rw [tT_len, o0.tl]; omega) (fun i d h => (cw_name (Fam.blk fm) 7 (fun _ => rfl) (by decide))) (fun i d e => ?_))) ?_
      · obtain ⟨r, rfl, hr⟩ := rowE i d _ r2 e
        refine EN.to (n_cat (w_list (Fam.blk fm) B (w_nm 7 (fun _ => rfl) rfl) qT) (w_mul (Fam.blk fm) (w_lst (a_cons w_int a_nil) (show 1 ≤ 100000 by decide)) (w_sub (w_nm 4 (fun _ => rfl) rfl) (w_len (Fam.blk fm) B (w_nm 7 (fun _ => rfl) rfl) qT)) ⟨by omega, by rw [nD_len]; omega, by show 1 ≤ 1; decide⟩) ?_) ?_
        · rw [nD_len, flat_one, List.length_replicate]; omega
        · rw [nD_len, flat_one]
          show _ = nD r ++ List.replicate (acts - (nD r).length) (.int 0)
          rw [nD_len]
          congr 2; omega
      · rintro ds o ⟨x, rfl, a, zs, rfl, hzs, rfl⟩
        exact ⟨a, hl, rs, zs, rfl, rfl, hrs, hzs, rfl⟩)) (fun _ => rfl) (fun _ => rfl) ?_)
  · obtain ⟨r, rfl, hr⟩ := rowE i d _ r1 e
    refine EN.to (n_cat (w_list (Fam.blk fm) B (w_nm 7 (fun _ => rfl) rfl) qT) (w_mul (Fam.blk fm) (w_lst (a_cons w_int a_nil) (show 1 ≤ 100000 by decide)) (w_sub (w_nm 4 (fun _ => rfl) rfl) (w_len (Fam.blk fm) B (w_nm 7 (fun _ => rfl) rfl) qT)) ⟨by omega, by rw [nD_len]; omega, by show 1 ≤ 1; decide⟩) ?_) ?_
    · rw [nD_len, flat_one, List.length_replicate]; omega
    · rw [nD_len, flat_one]
      show _ = nD r ++ List.replicate (acts - (nD r).length) (.int 0)
      rw [nD_len]
      congr 2; omega
  rintro ds o ⟨x, r, o', rfl, _, tl, hl, rs, zs, rfl, rfl, hrs, hzs, rfl⟩
  refine ⟨_, _, rfl, fun σ M H c => ?_⟩
  obtain ⟨hr, e1, e2⟩ := rw_of rs (b0.hs.map (padTo acts)) (by rw [hrs]; unfold tT; rw [List.map_map, List.map_map]; exact List.map_congr_left fun r _ => padD_row)
  obtain ⟨tr, e3, e4⟩ := rw_of zs (b0.tz.map (padTo acts)) (by rw [hzs]; unfold tT; rw [List.map_map, List.map_map]; exact List.map_congr_left fun r _ => padD_row)
  subst e1 e3
  rw [rowG_of, rowG_of, refs_of, refs_of] at c
  rw [pb1] at e2
  rw [pb2] at e4
  have c := c.perm (o2 := (hl, .l (refs hr)) :: (tl, .l (refs tr)) :: (rowO hr ++ rowO tr)) (by
    refine perm_c fun x => ?_
    simp only [List.count_cons, List.count_append, List.count_nil]
    omega)
  -- the end
  have fin : ∀ σ M H, C [] M0 H0 [(hl, .l (tL (hearB ts b st).hs)), (tl, .l (tL (hearB ts b st).tz))] [some (.lst (pL ts)), some (stT st), some (bkD b0), some (bkD (hearB ts b st)), some (.int (acts : Nat)), some (.ref hl), some (.ref tl), none, none, none, none, none, none, none] σ M H → wB (Zd P wd K mg base N76 "_law_follow" s76 f cdv A outer s HH Er) [(defBody s76).getD 2 (.Pass ⟨0, 0, 0, 0⟩)] D0 σ H := by
    intro σ M H c
    obtain ⟨M1, c1, s1, d1⟩ := C.frz (F := []) (own := [(tl, .l (tL (hearB ts b st).tz))]) c (fun h => nomatch h) rfl
    obtain ⟨M2, c2, s2, d2⟩ := C.frz (F := []) (own := []) c1 (fun h => nomatch h) rfl
    have c3 := c2.again (i := 5) (d := .ref hl) (d' := .lst (tL (hearB ts b st).hs)) rfl fun v r => by rw [r.raw_eq]; exact d1.mono s2
    have c4 := c3.again (i := 6) (d := .ref tl) (d' := .lst (tL (hearB ts b st).tz)) rfl fun v r => by rw [r.raw_eq]; exact d2
    refine b_one (k_ret c4 (E.eq (w_cmp (w_nm 3 (fun _ => rfl) rfl) (w_tup (a_cons (w_tuple fm B (w_lc fm [("_law_row", 7)] (blkOk_by (sc := defScope s76) (by decide +kernel)) (fun _ => rfl) (fun _ => true) l2t (f1 7) (i_sq fm (w_nm 5 (fun _ => rfl) rfl) qL) ?_ (fun i d h => (cw_name (Fam.blk fm) 7 (fun _ => rfl) (by decide))) (fun i d h => ts_nil) (fun i d h hq => ?_)) qL) (a_cons (w_tuple fm B (w_lc fm [("_law_row", 7)] (blkOk_by (sc := defScope s76) (by decide +kernel)) (fun _ => rfl) (fun _ => true) l2t (f1 7) (i_sq fm (w_nm 6 (fun _ => rfl) rfl) qL) ?_ (fun i d h => (cw_name (Fam.blk fm) 7 (fun _ => rfl) (by decide))) (fun i d h => ts_nil) (fun i d h hq => ?_)) qL) a_nil)) (show 2 ≤ 100000 by decide)) (cm_eqP fm (p := pyC (hearB ts b st).hs (hearB ts b st).tz) (q := pyC (hearB ts b st).hs (hearB ts b st).tz) py_cD ?_ (shaped_of lay_cD) (shaped_of lay_cD))) ?_) fun v M H c r => q v _ _ M H c r)
    · rw [tL_len, o2.hl]; omega
    · obtain ⟨r, hr, rfl⟩ := tL_get h
      exact w_tuple (Fam.blk fm) B (w_nm 7 (fun _ => rfl) rfl) qL
    · rw [tL_len, o2.tl]; omega
    · obtain ⟨r, hr, rfl⟩ := tL_get h
      exact w_tuple (Fam.blk fm) B (w_nm 7 (fun _ => rfl) rfl) qL
    · rw [keep_all, keep_all, l2t_tL, l2t_tL]; exact py_cD
    · rw [SeqAt.eqv_refl _ lay_cD.1]
  obtain ⟨x, hx, ex⟩ := st_first st
  refine b_cons (k_if c (t_cmp (w_ix fm (w_nm 1 (fun _ => rfl) rfl) w_int qT hx) w_str cm_eqS) (fun h M H c => ?_) fun h M H c => ?_)
  · rw [ex] at h
    cases st with
    | meet i => cases h
    | act v k =>
      have o : (decide (v < _) && decide (k < 8)) = true := hst
      rw [Bool.and_eq_true, decide_eq_true_eq, decide_eq_true_eq] at o
      have l1 : (deedsOf [Stp.act v k]).length = 1 := rfl
      obtain ⟨r, l, hrow, hm, hg⟩ := row_of (hr := hr) (by rw [e2]; exact o1.hl) o.1
      have ll : l.length = acts := o1.hr l (e2 ▸ hm)
      refine b_one (k_itemX fm (x := (acts : Int) - 1) (j := acts - 1) (ad := r) c (E.x w_int) ?_ ?_ ?_)
      · rintro d o' ⟨rfl, rfl⟩
        exact w_ixO (kk := 0) fm (w_nm 5 (fun _ => rfl) rfl) (w_ix fm (w_nm 1 (fun _ => rfl) rfl) w_int qT rfl) rfl (atI_of v (refs_get hrow))
      · rintro d o' ⟨rfl, rfl⟩
        exact w_sub (w_nm 4 (fun _ => rfl) rfl) w_int
      rintro d o' ⟨rfl, rfl⟩
      refine ⟨v + 2, nD l, ?_, ixN_of (by rw [nD_len]; omega) (by omega), fun M H c => ?_⟩
      · show (rowO hr ++ rowO tr)[v]? = _
        rw [List.getElem?_append_left (by rw [rowO_len]; exact lt_of_get hrow)]; exact rowO_get hrow
      rw [show (D.int 1) = D.int ((1 : Nat) : Int) from rfl, nD_setI, put2 hrow] at c
      obtain ⟨M', c2⟩ := C.frzRows2 c
      rw [map_snd_set, e2, e4] at c2
      refine fin _ M' _ ?_
      have ea : b.acted = acts - 1 := by omega
      have e : (hearB ts b (.act v k)).hs = b.hs.set v (l.set (acts - 1) 1) := by
        show b.hs.set v ((b.hs.getD v []).set b.acted ((b.hs.getD v []).getD b.acted 0 + 1)) = _
        have z := wz v b.acted (by omega)
        unfold at2 at z
        rw [z, ea, ← e2, hg]
      rw [e]
      exact c2
  · rw [ex] at h
    cases st with
    | act v k => cases h
    | meet i =>
      have o : decide (i < ts.length) = true := hst
      have hi : ts[i]? = some (ts.getD i (0, 0)) := getD_at (of_decide_eq_true o)
      have hil := of_decide_eq_true o
      generalize hp : ts.getD i (0, 0) = p at hi
      obtain ⟨p1, p2, p3⟩ := w.tie _ (List.mem_of_getElem? hi)
      obtain ⟨M', c⟩ := C.frzRows2 c
      rw [e2, e4] at c
      have k1 : p.1 < b.hs.length := by rw [o1.hl]; exact p1
      have k2 : p.2 < b.hs.length := by rw [o1.hl]; exact p2
      have k3 : i < b.tz.length := by rw [o1.tl]; exact hil
      refine b_cons (k_asg c (w_ix fm (w_nm 0 (fun _ => rfl) rfl) (w_ix fm (w_nm 1 (fun _ => rfl) rfl) w_int qT rfl) qL (atI_of i (pL_at hi))) (g_unl fm (g_cons fm 8 (fun _ => rfl) (g_cons fm 9 (fun _ => rfl) g_nil))) fun σ M H c => ?_)
      have ej : ((zip3D (nD (b.hs.getD p.1 [])) (nD (b.hs.getD p.2 [])) (nD (b.tz.getD i []))).map jD) = nD (joinRow (b.hs.getD p.1 []) (b.hs.getD p.2 []) (b.tz.getD i [])) := jD_eq _ _ _ fun q hq => by
        obtain ⟨j, hj⟩ := List.getElem?_of_mem hq
        obtain ⟨y1, y2⟩ := List.getElem?_zip_eq_some.mp hj
        obtain ⟨y3, y4⟩ := List.getElem?_zip_eq_some.mp y2
        have := (o1.le i p j hi).1
        unfold at2 at this
        have a1 : (b.tz.getD i []).getD j 0 = q.2.2 := getD_of y4
        have a2 : (b.hs.getD p.1 []).getD j 0 = q.1 := getD_of y1
        rw [a1, a2] at this
        omega
      have eh : (hearB ts b (.meet i)).hs = (b.hs.set p.1 (joinRow (b.hs.getD p.1 []) (b.hs.getD p.2 []) (b.tz.getD i []))).set p.2 (joinRow (b.hs.getD p.1 []) (b.hs.getD p.2 []) (b.tz.getD i [])) := by rw [← hp]; rfl
      have et : (hearB ts b (.meet i)).tz = b.tz.set i (joinRow (b.hs.getD p.1 []) (b.hs.getD p.2 []) (b.tz.getD i [])) := by rw [← hp]; rfl
      have lr := o1.hr _ (getD_mem (d := []) k1)
      generalize joinRow (b.hs.getD p.1 []) (b.hs.getD p.2 []) (b.tz.getD i []) = J at ej eh et
      refine b_cons (k_setLc fm 10 [("_law_one", 11), ("_law_other", 12), ("_law_both", 13)] (blkOk_by (sc := defScope s76) (by decide +kernel)) (fun _ => rfl) c (EN.to (r_lc [("_law_one", 11), ("_law_other", 12), ("_law_both", 13)] (fun _ => true) jD (f3 11 12 13) (i_zip3 fm B (w_ixO (kk := 0) fm (w_nm 5 (fun _ => rfl) rfl) (w_nm 8 (fun _ => rfl) rfl) rfl (atI_of p.1 (tL_at k1))) (w_ixO (kk := 0) fm (w_nm 5 (fun _ => rfl) rfl) (w_nm 9 (fun _ => rfl) rfl) rfl (atI_of p.2 (tL_at k2))) (w_ixO (kk := 1) fm (w_nm 6 (fun _ => rfl) rfl) (w_ix fm (w_nm 1 (fun _ => rfl) rfl) w_int qT rfl) rfl (atI_of i (tL_at k3))) qL qL qL) ?_ (fun i d h => ?_) (fun i d h => ts_nil) (fun i d h hq => ?_)) (keep_all.trans ej)) (fun _ => rfl) fun σ M H c => ?_)
      · unfold zip3D; rw [List.length_map, List.length_zip, nD_len]; omega
      · obtain ⟨x, y, z, e1, e2, e3, rfl⟩ := zip3D_get h
        exact (cw_tup (Fam.blk fm) (cw_cons (Fam.blk fm) 11 (fun _ => rfl) (by decide) (cw_cons (Fam.blk fm) 12 (fun _ => rfl) (by decide) (cw_cons (Fam.blk fm) 13 (fun _ => rfl) (by decide) cw_nil))))
      · obtain ⟨x, y, z, e1, e2, e3, rfl⟩ := zip3D_get h
        exact w_sub (w_addI (Fam.blk fm) (w_nm 11 (fun _ => rfl) rfl) (w_nm 12 (fun _ => rfl) rfl)) (w_nm 13 (fun _ => rfl) rfl)
      refine b_one (k_asgG c (w_tup (a_cons (w_nm 10 (fun _ => rfl) rfl) (a_cons (w_list fm B (w_nm 10 (fun _ => rfl) rfl) qL) (a_cons (w_list fm B (w_nm 10 (fun _ => rfl) rfl) qL) a_nil))) (show 3 ≤ 100000 by decide)) (xw_tup fm (xws_cons (xw_sub (k := 0) (w_nm 5 (fun _ => rfl) rfl) (w_nm 8 (fun _ => rfl) rfl) rfl (ixN_of (by rw [tL_len]; exact k1))) (xws_cons (xw_sub (k := 0) (w_nm 5 (fun _ => rfl) rfl) (w_nm 9 (fun _ => rfl) rfl) rfl (ixN_of (by rw [List.length_set, tL_len]; exact k2))) (xws_cons (xw_sub (k := 1) (w_nm 6 (fun _ => rfl) rfl) (w_ix fm (w_nm 1 (fun _ => rfl) rfl) w_int qT rfl) rfl (ixN_of (by rw [tL_len]; exact k3))) xws_nil)))) fun M H c => ?_)
      refine fin _ M _ ?_
      rw [eh, et, ← tL_set, ← tL_set, ← tL_set]
      exact ((c.forget 8).forget 9).forget 10
end
end Hb
/-! Ly18: defs that are called where no display is under way; repr of data. -/
namespace Ly
open PySem L2 Mc PyProof.Rows
/-- FnOk where nothing is displayed around -/
structure FnOkG (P : Program) (wd : World) (K : PySem.W.Frag) (mg : Str → Option Value) (base : Heap) (k : Nat) (f : Addr) (fd : FuncData) (ps : List Str) (sp : Sp) : Prop where
  len : ∀ vs H Q Er, sp vs H Q Er → vs.length = ps.length
  go : ∀ (A : Around) (outer : List Env) (s : Shared) (H : Hp) (args : Args) (us : List Value) (vs : List V) (Q : VK) (Er : XK), A.guards = some [] → Room k A → Env0 P wd K mg base A outer s H → BindsTo s fd args (ps.zip us) → Vals vs us → sp vs H Q Er →
    codeAny (model P wd) A (.call (.ref f) args) (CR (L2.CX P wd) outer P wd H s Q Er) s
structure CalG (P : Program) (wd : World) (K : PySem.W.Frag) (mg : Str → Option Value) (base : Heap) (x : Str) (k : Nat) (ps : List Str) (sp : Sp) : Prop where
  ex : ∃ f fd, FnOkG P wd K mg base k f fd ps sp ∧ mg x = some (.ref f) ∧ PySem.W.keepIn K (.ref f) = true ∧ Binds K fd ps []
/-- contexts where nothing is displayed around -/
def Gd {ι : Type} (Z : ι → Cx) : Prop := ∀ n, (Z n).A.guards = some []
section
variable {ι : Type} {Z : ι → Cx} {own : Own} {ρ : Ev} {P : Program} {wd : World} {K : PySem.W.Frag} {mg : Str → Option Value} {base : Heap} {N : List Str} {k : Nat} (fm : Fam Z P wd K mg base N k) (gd : Gd Z)
variable {a b c e : Expr} {es : List Expr} {x y z d : D} {ds xs ys : List D} {pos p p2 pf : Pos} {nm : Str} {scope : Scope}
include gd in
theorem Gd.blk : Gd (Zb Z scope) := fun i => gd i.1
variable {Y : Cx} {f : Addr} {fd : FuncData} {ps : List Str} {sp : Sp} {Er : XK} {t : TA}
theorem go_fn {pins : List (Addr × Obj)} {σ : L2.St} {H : Hp} {s : Shared} {Q : VK} {us : List Value} {vs : List V} (g : Y.A.guards = some []) (F : FnOkG Y.prog Y.w Y.K Y.mg Y.base k f fd ps sp) (hr : Room k Y.A) (hb : Binds Y.K fd ps []) (hx : Passes (L2.CX Y.prog Y.w) Y Er)
    (I : Inv Y pins σ H s) (r : Vals vs us) (h : sp vs H Q Er) : wpAny (model Y.prog Y.w) Y.A (call (.ref f) us) (EP Y pins σ Q) Y.xe s := by
  have l : us.length = ps.length := by rw [← r.length]; exact F.len _ _ _ _ h
  have bt := hb s us I.kIn (by rw [List.append_nil]; exact l)
  rw [List.append_nil] at bt
  refine wpAny_call (codeAny_mono (F.go Y.A Y.stack s H ⟨us, []⟩ us vs Q Er g hr I.env0 bt r h) fun w s2 hw => ?_)
  match w, hw with
  | .error e, hw => exact hx pins σ H s e s2 I hw
  | .ok (.ret u), hw => exact I.after hw
theorem pe_callG (g : Y.A.guards = some []) (F : FnOkG Y.prog Y.w Y.K Y.mg Y.base k f fd ps sp) (hr : Room k Y.A) (hg : Gl Y nm) (hm : Y.mg nm = some (.ref f)) (hk : PySem.W.keepIn Y.K (.ref f) = true) (hb : Binds Y.K fd ps []) (hx : Passes (L2.CX Y.prog Y.w) Y Er)
    (ha : PA Y (e :: es) t) (hdb : (nm == ("__debug__" : Str)) = false) (he : starEach (e :: es) Y.env = (false, eval e Y.env) :: starEach es Y.env) (hpl : (backTo pos (starEach es Y.env)).any (·.1) = false) :
    PE Y (.Call (.Name nm p) (e :: es) [] pos) (fun σ H Q => t σ H fun vs H1 => sp vs H1 Q Er) :=
  ⟨fun pins s σ H Q I h => wpAny_Call_Name_kw (ld_glob I hg hm (PySem.W.callWith_K (h₀ := Y.base) I.ok.mod.kin hk (thn (ha.run pos pins s σ H _ I h) fun us s1 ⟨vs, H1, I1, r, q⟩ => ⟨I1.kIn, go_fn g F hr hb hx I1 r q⟩) he hpl) hdb)⟩
include fm gd
theorem wG_call {R : List Ly.D → Ly.D → Prop} {k' : Nat} {ps : List Str} (c : CalG P wd K mg base nm k' ps (spD R)) (ha : EA own ρ (wA Z (e :: es)) ds) (h : R ds d) (hk : k' ≤ k := by decide) (hg : ∀ n, Gl (Z n) nm := by intro _; rfl) (hdb : (nm == ("__debug__" : Str)) = false := by decide)
    (he : ∀ n, starEach (e :: es) (Z n).env = (false, eval e (Z n).env) :: starEach es (Z n).env := by intro _; rfl) (hpl : ∀ n, (backTo pos (starEach es (Z n).env)).any (·.1) = false := by intro _; rfl) : E own ρ (wE Z (.Call (.Name nm p) (e :: es) [] pos)) d := by
  obtain ⟨f, fd, G, hm, hkp, hb⟩ := c.ex
  refine E.wz (t := fun σ H Q => wA Z (e :: es) σ H fun vs H1 => spD R vs H1 Q E0) (fun σ M H s Q q => ha σ M H s _ fun vs M1 H1 u r => ⟨M1, ds, d, u.mh, r, h, fun v M2 H2 u2 r2 => q v M2 H2 (u.trans u2) r2⟩) fun n => ?_
  have G' : FnOkG (Z n).prog (Z n).w (Z n).K (Z n).mg (Z n).base k' f fd ps (spD R) := by
    rw [fm.P n, fm.w n, fm.K n, fm.mg n, fm.base n]; exact G
  exact pe_callG (gd n) G' ((fm.room n).mono hk) (hg n) (by rw [fm.mg]; exact hm) (by rw [fm.K]; exact hkp) (by rw [fm.K]; exact hb) passL (pa_w n) hdb (he n) (hpl n)
theorem xG_callN {γ : Type} {Pre : γ → List Ly.D → Own → Prop} {Post : γ → Ly.D → Own → Prop} {Pq : Ly.D → Own → Prop} {k' : Nat} {ps : List Str} {Pa : List Ly.D → Own → Prop} (c : CalG P wd K mg base nm k' ps (spN Pre Post)) (ha : XA own ρ (wA Z (e :: es)) Pa)
    (h : ∀ ds o, Pa ds o → ∃ g o1 o2, o.Perm (o1 ++ o2) ∧ Pre g ds o1 ∧ ∀ d o1', Post g d o1' → Pq d (o1' ++ o2)) (hk : k' ≤ k := by decide) (hg : ∀ n, Gl (Z n) nm := by intro _; rfl) (hdb : (nm == ("__debug__" : Str)) = false := by decide)
    (he : ∀ n, starEach (e :: es) (Z n).env = (false, eval e (Z n).env) :: starEach es (Z n).env := by intro _; rfl) (hpl : ∀ n, (backTo pos (starEach es (Z n).env)).any (·.1) = false := by intro _; rfl) : X own ρ (wE Z (.Call (.Name nm p) (e :: es) [] pos)) Pq := by
  obtain ⟨f, fd, G, hm, hkp, hb⟩ := c.ex
  refine X.wz (t := fun σ H Q => wA Z (e :: es) σ H fun vs H1 => spN Pre Post vs H1 Q E0) (fun F M0 H0 σ M H c Q q => ha F M0 H0 σ M H c _ fun vs ds o M1 H1 pa c1 s1 r => ?_) fun n => ?_
  · obtain ⟨g, o1, o2, hp, hR, hq⟩ := h ds o pa
    have c2 := c1.perm hp
    exact ⟨g, M1, o1, ds, c2.sd.mh, c2.sd.ow.left, r, hR, fun v d o1' M2 H2 hpost po r2 => q v d _ M2 H2 (hq d o1' hpost) (c2.frame po) (s1.trans po.mm) r2⟩
  · have G' : FnOkG (Z n).prog (Z n).w (Z n).K (Z n).mg (Z n).base k' f fd ps (spN Pre Post) := by
      rw [fm.P n, fm.w n, fm.K n, fm.mg n, fm.base n]; exact G
    exact pe_callG (gd n) G' ((fm.room n).mono hk) (hg n) (by rw [fm.mg]; exact hm) (by rw [fm.K]; exact hkp) (by rw [fm.K]; exact hb) passL (pa_w n) hdb (he n) (hpl n)
end
/-! ### bodies -/
section
variable {P : Program} {wd : World} {K : PySem.W.Frag} {mg : Str → Option Value} {base : Heap} {N ps : List Str} {k : Nat} {x q : Str} {st : Stmt} {f : Addr} {sp : Sp} {fd : FuncData}
theorem _root_.L2.Fun.okG (F : Fun K x q st f fd) (S : FnScope N ps (defScope st)) (len : ∀ vs H Q Er, sp vs H Q Er → vs.length = ps.length)
    (hbody : ∀ (cdv : Value) (A : Around) (outer : List Env) (s : Shared) (H : Hp) (vs : List V) (Q : VK) (Er : XK), (A.deeper (envOfC q (defScope st) s.heap.objs.size f cdv)).guards = some [] → Room k (A.deeper (envOfC q (defScope st) s.heap.objs.size f cdv)) → sp vs H Q Er →
      ∃ t, PSs (cxOf (L2.CX P wd) P wd K mg base N q (defScope st) f cdv A outer s H Er) (defBody st) t ∧ t { nx := fun _ H' => Q .non H', rt := Q } (L2.start N vs) H) : FnOkG P wd K mg base (k + 1) f fd ps sp := by
  rcases F.ex with ⟨oc, od, kV, doc, pm, an, cdv, ct, osl, rfl, lk, hcd⟩
  exact ⟨len, fun A outer s H args us vs Q Er g hr e0 hb r hs => LamX.run_ofS lk hcd S hr e0 hb r (len _ _ _ _ hs) fun hr2 => hbody _ A outer s H vs Q Er g hr2 hs⟩
theorem calG_pure {R : List Ly.D → Ly.D → Prop} (F : Fun K x x st f fd) (S : FnScope N ps (defScope st)) (hm : mg x = some (.ref f)) (hb : Binds K fd ps []) (hlen : ∀ ds d, R ds d → ds.length = ps.length)
    (body : ∀ (cdv : Value) (A : Around) (outer : List Env) (s : Shared) (H : Hp) (Er : XK), Fam (Zd P wd K mg base N x st f cdv A outer s H Er) P wd K mg base N k → Gd (Zd P wd K mg base N x st f cdv A outer s H Er) → ∀ ds d, R ds d → ∀ (M0 H0 : Hp) (σ : L2.St) (D : Ends), C [] M0 H0 [] (startD N.length ds) σ M0 H0 →
      (∀ v ρ σ' M' H', C [] M0 H0 [] ρ σ' M' H' → Dv M' v d → D.rt v H') → wB (Zd P wd K mg base N x st f cdv A outer s H Er) (defBody st) D σ H0) : CalG P wd K mg base x (k + 1) ps (spD R) := by
  refine ⟨f, fd, F.okG S (fun vs H Q Er h => ?_) (fun cdv A outer s H vs Q Er g hr h => ?_), hm, F.kp, hb⟩
  · obtain ⟨M, ds, d, _, r, h, _⟩ := h
    rw [r.length]; exact hlen ds d h
  · obtain ⟨M, ds, d, mh, r, h, q⟩ := h
    refine ⟨_, pb_w (Z := Zd P wd K mg base N x st f cdv A outer s H Er) (), ?_⟩
    exact body cdv A outer s H Er ⟨fun _ => rfl, fun _ => rfl, fun _ => rfl, fun _ => rfl, fun _ => rfl, fun _ => rfl, S.nd, fun _ => rfl, fun _ => hr⟩ (fun _ => g) ds d h M H _ _ ⟨⟨mh, EnvD.start r N, .nil⟩, .refl, (fun _ h => nomatch h), (fun _ h => nomatch h)⟩ fun v ρ σ' M' H' c r => q v M' H' c.pu r
theorem fnG_new {γ : Type} {Pre : γ → List Ly.D → Own → Prop} {Post : γ → Ly.D → Own → Prop} (F : Fun K x q st f fd) (S : FnScope N ps (defScope st)) (hlen : ∀ g ds o, Pre g ds o → ds.length = ps.length)
    (body : ∀ (cdv : Value) (A : Around) (outer : List Env) (s : Shared) (H : Hp) (Er : XK), Fam (Zm P wd K mg base N q st f cdv A outer s H Er) P wd K mg base N k → Gd (Zm P wd K mg base N q st f cdv A outer s H Er) → ∀ g ds own, Pre g ds own → ∀ (M0 H0 : Hp) (σ : L2.St) (D : Ends), C (own.map (·.1)) M0 H0 own (startD N.length ds) σ M0 H0 →
      (∀ v d own' ρ σ' M' H', Post g d own' → C (own.map (·.1)) M0 H0 own' ρ σ' M' H' → Dv M' v d → D.rt v H') → (∀ σ' H', D.nx σ' H' ↔ D.rt .non H') → wB (Zm P wd K mg base N q st f cdv A outer s H Er) (defBody st) D σ H0) : FnOkG P wd K mg base (k + 1) f fd ps (spN Pre Post) := by
  refine F.okG S (fun vs H Q Er h => ?_) (fun cdv A outer s H vs Q Er gg hr h => ?_)
  · obtain ⟨g, M, own, ds, _, _, r, h, _⟩ := h
    rw [r.length]; exact hlen g ds own h
  · obtain ⟨g, M, own, ds, mh, ow, r, h, q⟩ := h
    refine ⟨_, pb_w (Z := Zm P wd K mg base N _ st f cdv A outer s H Er) (), ?_⟩
    refine body cdv A outer s H Er ⟨fun _ => rfl, fun _ => rfl, fun _ => rfl, fun _ => rfl, fun _ => rfl, fun _ => rfl, S.nd, fun _ => rfl, fun _ => hr⟩ (fun _ => gg) g ds own h M H _ _ ⟨⟨mh, EnvD.start r N, ow⟩, .refl, (fun p hp => .inl (List.mem_map_of_mem hp)), (fun a ha => ?_)⟩ (fun v d own' ρ σ' M' H' hp c r => q v d own' M' H' hp c.po r) fun _ _ => Iff.rfl
    obtain ⟨p, hp, rfl⟩ := List.mem_map.mp ha
    exact ⟨p.2, hp⟩
end
/-! ### repr -/
section
variable {X : Cx}
def rRepr (K : PySem.W.Frag) : List V → Hp → VK → Prop := fun xs H Q => ∃ v p, xs = [v] ∧ Dp K H v p ∧ p.showable = true ∧ p.hasDict = false ∧ p.depth ≤ 60 ∧ p.shown.length ≤ sizeLine ∧ Q (.str p.shown) H
theorem call_repr {g : X.A.guards = some []} (hu : X.A.units + 64 < cLine) : CallR X (.builtin "repr") (rRepr X.K) := by
  intros pins s σ H xs us Q I r h
  obtain ⟨v, p, rfl, hp, hs, hd, hdp, hl, q⟩ := h
  rcases vals1 r with ⟨u, rfl, ru⟩
  have seq : ∀ {a : Addr} {as : List Addr}, Reads s.heap (.ref a) p as → wpAny (model X.prog X.w) X.A (call (.builtin "repr") [.ref a]) (EP X pins σ Q) X.xe s := fun rd =>
    repr_of_reads' rd hs (fun z => by rw [hd] at z; cases z) g (by omega) (fun _ _ z => z) (fun h' t tk kp => ⟨.str _, H, I.kept kp, ⟨_, rfl⟩, q⟩) hl
  cases hp with
  | non => cases ru; exact PySem.P.repr_of_none ⟨.str _, H, I.tok _, ⟨_, rfl⟩, q⟩
  | bl b => cases ru; exact PySem.P.repr_of_bool ⟨.str _, H, I.tok _, ⟨_, rfl⟩, q⟩
  | int i =>
    obtain ⟨t, rfl⟩ := ru
    exact PySem.P.repr_of_int (of_decide_eq_true hs) ⟨.str _, H, I.tok _, ⟨_, rfl⟩, q⟩
  | str z =>
    obtain ⟨t, rfl⟩ := ru
    exact PySem.P.repr_of_str ⟨.str _, H, I.tok _, ⟨_, rfl⟩, q⟩ hl
  | lst h1 h2 =>
    obtain ⟨as, rd⟩ := Dp.reads I _ _ u (.lst h1 h2) ru
    cases ru
    exact seq rd
  | tup h1 h2 =>
    obtain ⟨as, rd⟩ := Dp.reads I _ _ u (.tup h1 h2) ru
    cases ru
    exact seq rd
end
mutual
theorem Py.nodict : ∀ {p : PyData} {d : D}, Py d p → p.hasDict = false
  | _, _, .non => rfl
  | _, _, .bl _ => rfl
  | _, _, .int _ => rfl
  | _, _, .str _ => rfl
  | _, _, .lst h => Pys.nodict h
  | _, _, .tup h => Pys.nodict h
theorem Pys.nodict : ∀ {ps : List PyData} {ds : List D}, Pys ds ps → PyData.hasDictAll ps = false
  | _, _, .nil => rfl
  | _, _, .cons h hs => by
    show (_ || _) = false
    rw [h.nodict, Pys.nodict hs]; rfl
end
/-- what of a datum is asked to be displayed -/
structure Shw (p : PyData) : Prop where
  s : p.showable = true
  d : p.depth ≤ 60
  l : p.shown.length ≤ 1000000
section
variable {ι : Type} {Z : ι → Cx} {own : Own} {ρ : Ev} {P : Program} {wd : World} {K : PySem.W.Frag} {mg : Str → Option Value} {base : Heap} {N : List Str} {k : Nat} (fm : Fam Z P wd K mg base N k) (gd : Gd Z) (B : Blt mg)
variable {a : Expr} {x : D} {pos pf : Pos} {q : PyData}
include fm gd B in
theorem w_repr (ha : E own ρ (wE Z a) x) (hq : Py x q) (sh : Shw q) (hg : ∀ n, Gl (Z n) "repr" := by intro _; rfl) (he : ∀ n, starEach (a :: []) (Z n).env = (false, eval a (Z n).env) :: starEach [] (Z n).env := by intro _; rfl) (hpl : ∀ n, (backTo pos (starEach [] (Z n).env)).any (·.1) = false := by intro _; rfl) :
    E own ρ (wE Z (.Call (.Name "repr" pf) [a] [] pos)) (.str q.shown) :=
  w_cb fm (r := rRepr K) (fun n => fm.K n ▸ call_repr (g := gd n) (fm.room n).units) B.repr (by decide +kernel) (a_cons ha a_nil he) (fun vs M H mh _ r Q k => by
    obtain ⟨v, rfl, r1⟩ := r.one
    exact ⟨v, q, rfl, hq.dp mh r1, sh.s, hq.nodict, sh.d, Nat.le_trans sh.l (by decide), k _ M H (.refl mh) (.raw _)⟩) hg (by decide) (by decide) he hpl
end
end Ly
/-! Mt5: how long displays are. -/
namespace Hb
open PySem L2 Mc Ly
theorem tup_len (ts : List Str) : (tupleText ts).length ≤ 3 + piled ts := by
  unfold tupleText
  rw [strLen_append]; rw [strLen_append]
  have e1 : ((if (ts.length == 1) = true then ",)" else ")" : String) : Str).length ≤ 2 := by
    split <;> decide
  have e2 : (("(" : String) : Str).length = 1 := rfl
  by_cases h : ts = []
  · subst h
    have e3 : (Str.join ", " []).length = 0 := rfl
    rw [e2, e3]
    omega
  · have := join_length_add ts h; rw [e2]
    omega
theorem piled_le {n : Nat} : ∀ {ts : List Str}, (∀ t ∈ ts, t.length ≤ n) → piled ts ≤ ts.length * (n + 2)
  | [], _ => by simp [piled]
  | t :: ts, h => by
    rw [piled_cons, List.length_cons, Nat.succ_mul]
    have h1 := h t List.mem_cons_self
    have h2 := piled_le fun u hu => h u (List.mem_cons_of_mem _ hu)
    omega
theorem shownAll_map : ∀ l : List PyData, PyData.shownAll l = l.map PyData.shown
  | [] => rfl
  | p :: l => by
    show PyData.shown p :: PyData.shownAll l = _
    rw [shownAll_map l]; rfl
theorem tup_shown {l : List PyData} {n m : Nat} (h : ∀ p ∈ l, p.shown.length ≤ n) (hl : l.length ≤ m) : (PyData.tuple l).shown.length ≤ 3 + m * (n + 2) := by
  show (tupleText (PyData.shownAll l)).length ≤ _
  have h1 := tup_len (PyData.shownAll l)
  have h2 : piled (PyData.shownAll l) ≤ (PyData.shownAll l).length * (n + 2) := piled_le fun t ht => by
    rw [shownAll_map] at ht
    obtain ⟨p, hp, rfl⟩ := List.mem_map.mp ht
    exact h p hp
  rw [shownAll_map, List.length_map] at h2
  rw [shownAll_map] at h1
  have h3 := Nat.mul_le_mul_right (n + 2) hl
  rw [shownAll_map]
  omega
theorem int_shown {x : Nat} (h : x < 2 ^ 20) : (PyData.int (x : Int)).shown.length ≤ 21 ∧ (PyData.int (x : Int)).showable = true := by
  have hl : ((x : Int)).natAbs.log2 < 20 := by
    show x.log2 < 20
    by_cases h0 : x = 0
    · subst h0; decide
    · refine (Nat.log2_lt h0).mpr h
  refine ⟨?_, ?_⟩
  · show (Str.ofString (toString (x : Int))).length ≤ 21
    rw [ofString_length]
    exact int_text_length_le (k := 20) (by decide) hl
  · show decide (((x : Int)).natAbs.log2 < 1920) = true
    refine decide_eq_true (by omega)
theorem showAll {l : List PyData} (h : ∀ p ∈ l, p.showable = true) : PyData.showableAll l = true := by
  induction l with
  | nil => rfl
  | cons p l ih =>
    show (p.showable && PyData.showableAll l) = true
    rw [h p List.mem_cons_self, ih fun q hq => h q (List.mem_cons_of_mem _ hq)]; rfl
theorem row_shown {r : List Nat} {n : Nat} (h : ∀ x ∈ r, x < 2 ^ 20) (hn : r.length ≤ n) : (PyData.tuple (pyN r)).shown.length ≤ 3 + n * 23 ∧ (PyData.tuple (pyN r)).showable = true := by
  refine ⟨tup_shown (n := 21) (fun p hp => ?_) (by unfold pyN; rw [List.length_map]; exact hn), showAll fun p hp => ?_⟩
  · unfold pyN at hp
    obtain ⟨x, hx, rfl⟩ := List.mem_map.mp hp
    exact (int_shown (h x hx)).1
  · unfold pyN at hp
    obtain ⟨x, hx, rfl⟩ := List.mem_map.mp hp
    exact (int_shown (h x hx)).2
theorem rows_shown {m : List (List Nat)} (h : ∀ r ∈ m, r.length ≤ 400 ∧ ∀ x ∈ r, x < 2 ^ 20) (hm : m.length ≤ 20) : (PyData.tuple (pyT m)).shown.length ≤ 3 + 20 * 9205 ∧ (PyData.tuple (pyT m)).showable = true := by
  refine ⟨tup_shown (n := 9203) (fun p hp => ?_) (by unfold pyT; rw [List.length_map]; exact hm), showAll fun p hp => ?_⟩
  · unfold pyT at hp
    rcases List.mem_map.mp hp with ⟨r, hr, rfl⟩
    obtain ⟨h1, h2⟩ := h r hr
    exact (row_shown (n := 400) h2 h1).1
  · unfold pyT at hp
    rcases List.mem_map.mp hp with ⟨r, hr, rfl⟩
    obtain ⟨h1, h2⟩ := h r hr
    exact (row_shown (n := 400) h2 h1).2
theorem shw_C {a b : List (List Nat)} (ha : ∀ r ∈ a, r.length ≤ 400 ∧ ∀ x ∈ r, x < 2 ^ 20) (hb : ∀ r ∈ b, r.length ≤ 400 ∧ ∀ x ∈ r, x < 2 ^ 20) (la : a.length ≤ 20) (lb : b.length ≤ 20) : Shw (pyC a b) := by
  obtain ⟨h1, h2⟩ := rows_shown ha la
  obtain ⟨h3, h4⟩ := rows_shown hb lb
  refine ⟨?_, Nat.le_trans (lay_cD).2 (by decide), ?_⟩
  · show (_ && (_ && true)) = true
    rw [h2, h4]; rfl
  · have := tup_shown (l := [PyData.tuple (pyT a), PyData.tuple (pyT b)]) (n := 3 + 20 * 9205) (m := 2) (fun p hp => by
      obtain rfl | hp := List.mem_cons.mp hp
      · exact h1
      · rw [List.mem_singleton.mp hp]; exact h3) (Nat.le_refl _)
    exact Nat.le_trans this (by decide)
theorem shw_row {r : List Nat} (h : ∀ x ∈ r, x < 2 ^ 20) (hl : r.length ≤ 400) : Shw (.tuple (pyN r)) := by
  obtain ⟨h1, h2⟩ := row_shown (n := 400) h hl
  refine ⟨h2, ?_, Nat.le_trans h1 (by decide)⟩
  show PyData.depthAll (pyN r) + 1 ≤ 60
  rw [(lay_nD r).2]; decide
theorem shw_int {x : Nat} (h : x < 2 ^ 20) : Shw (.int (x : Int)) := ⟨(int_shown h).2, Nat.zero_le _, Nat.le_trans (int_shown h).1 (by decide)⟩
end Hb
/-! Mt6: on a tree no count is above 1. -/
namespace Hb
open PySem L2 Mc Ly
/-- house i + 1 hangs at an earlier one over tie i -/
def Tree (ts : List Tie) : Prop := ∀ (i : Nat) (p : Tie), ts[i]? = some p → p.2 = i + 1 ∧ p.1 ≤ i
def par (ts : List Tie) (x : Nat) : Nat := if x = 0 then 0 else (ts.getD (x - 1) (0, 0)).1
def Anc (ts : List Tie) (v x : Nat) : Prop := ∃ k, itr (par ts) k v = x
theorem par_lt {ts : List Tie} (t : Tree ts) {x : Nat} (h : 1 ≤ x) : par ts x < x := by
  unfold par
  rw [if_neg (by omega)]
  by_cases hl : x - 1 < ts.length
  · have := (t (x - 1) _ (getD_at (d := (0, 0)) hl)).2
    omega
  · have e : ts.getD (x - 1) (0, 0) = (0, 0) := by simp [List.getD, show ts.length ≤ x - 1 by omega]
    rw [e]; exact h
theorem par_le {ts : List Tie} (t : Tree ts) (x : Nat) : par ts x ≤ x := by
  by_cases h : 1 ≤ x
  · exact Nat.le_of_lt (par_lt t h)
  · have : x = 0 := by omega
    subst this
    exact Nat.zero_le _
theorem itr_le {ts : List Tie} (t : Tree ts) (v : Nat) : ∀ k, itr (par ts) k v ≤ v
  | 0 => Nat.le_refl _
  | k + 1 => Nat.le_trans (par_le t _) (itr_le t v k)
theorem par_tie {ts : List Tie} (t : Tree ts) {i : Nat} {p : Tie} (h : ts[i]? = some p) : par ts p.2 = p.1 := by
  obtain ⟨e, _⟩ := t i p h
  unfold par
  rw [e, if_neg (by omega), show i + 1 - 1 = i by omega, getD_of h]
theorem Anc.self {ts : List Tie} {v : Nat} : Anc ts v v := ⟨0, rfl⟩
theorem Anc.up {ts : List Tie} {v x : Nat} (h : Anc ts v x) : Anc ts v (par ts x) := by
  obtain ⟨k, rfl⟩ := h
  exact ⟨k + 1, rfl⟩
theorem Anc.le {ts : List Tie} (t : Tree ts) {v x : Nat} (h : Anc ts v x) : x ≤ v := by
  obtain ⟨k, rfl⟩ := h
  exact itr_le t v k
theorem anc_far {ts : List Tie} (t : Tree ts) {x y d : Nat} (hy : 1 ≤ y) (e : itr (par ts) d x = y) (ep : par ts x = par ts y) : x = y := by
  cases d with
  | zero => exact e
  | succ d =>
    have h1 : itr (par ts) (d + 1) x = itr (par ts) d (par ts x) := itr_add (par ts) x d 1
    have h2 := itr_le t (par ts x) d
    have h3 := par_lt t hy
    omega
theorem anc_inj {ts : List Tie} (t : Tree ts) {v x y : Nat} (hx : Anc ts v x) (hy : Anc ts v y) (x1 : 1 ≤ x) (y1 : 1 ≤ y) (ep : par ts x = par ts y) : x = y := by
  obtain ⟨k, ek⟩ := hx
  obtain ⟨l, el⟩ := hy
  rcases Nat.le_total k l with h | h
  · refine anc_far t (d := l - k) y1 ?_ ep
    rw [← ek, ← itr_add, show l - k + k = l by omega]; exact el
  · refine (anc_far t (d := k - l) x1 ?_ ep.symm).symm
    rw [← el, ← itr_add, show k - l + l = k by omega]; exact ek
/-- what holds of a column on a tree -/
structure TCol (ts : List Tie) (s : Bk) (v a : Nat) : Prop where
  up : ∀ i p, ts[i]? = some p → Anc ts v p.2 → at2 s.hs p.1 a = at2 s.tz i a
  dn : ∀ i p, ts[i]? = some p → ¬ Anc ts v p.2 → at2 s.hs p.2 a = at2 s.tz i a
  le : ∀ u, at2 s.hs u a ≤ 1
theorem TCol.meet {h acts : Nat} {ts : List Tie} {s : Bk} {v a i : Nat} (c : TCol ts s v a) (w : WOk h ts) (t : Tree ts) (ok : BkOk h ts acts s) (hi : i < ts.length) : TCol ts (hearB ts s (.meet i)) v a := by
  have ht : ts[i]? = some (ts.getD i (0, 0)) := getD_at hi
  obtain ⟨l1, l2, ne⟩ := w.tie _ (List.mem_of_getElem? ht)
  have eh : ∀ u, at2 (hearB ts s (.meet i)).hs u a = _ := fun u => hear_meetH ok w ht u a
  have et : ∀ u, at2 (hearB ts s (.meet i)).tz u a = _ := fun u => hear_meetT ok w ht u a
  obtain ⟨le1, le2⟩ := ok.le i _ a ht
  obtain ⟨q2, _⟩ := t i _ ht
  have pp := par_tie t ht
  have cu := c.up i _ ht
  have cd := c.dn i _ ht
  generalize ts.getD i (0, 0) = p at *
  have other : ∀ j q, ts[j]? = some q → j ≠ i → q.2 ≠ p.2 := fun j q hj hne z => by
    have := (t j q hj).1
    omega
  by_cases hA : Anc ts v p.2
  · have c1 := cu hA
    have eX : at2 s.hs p.1 a + at2 s.hs p.2 a - at2 s.tz i a = at2 s.hs p.2 a := by omega
    rw [eX] at eh et
    refine ⟨fun j q hj hq => ?_, fun j q hj hq => ?_, fun u => ?_⟩
    · rw [eh, et]
      by_cases hji : j = i
      · subst hji
        rw [ht] at hj
        cases hj
        rw [if_pos (.inl rfl), if_pos rfl]
      · rw [if_neg hji]
        have h0 := c.up j q hj hq
        by_cases h1 : q.1 = p.1
        · have := anc_inj t hq hA (by have := (t j q hj).1; omega) (by omega) (by rw [par_tie t hj, pp, h1])
          exact absurd this (other j q hj hji)
        · by_cases h2 : q.1 = p.2
          · rw [if_pos (.inr h2), ← h2]; exact h0
          · rw [if_neg (fun z => z.elim h1 h2)]; exact h0
    · rw [eh, et]
      by_cases hji : j = i
      · subst hji
        rw [ht] at hj
        cases hj
        exact absurd hA hq
      · rw [if_neg hji]
        have h0 := c.dn j q hj hq
        by_cases h1 : q.2 = p.1
        · have := hA.up
          rw [pp, ← h1] at this
          exact absurd this hq
        · rw [if_neg (fun z => z.elim h1 (other j q hj hji))]; exact h0
    · rw [eh]
      split
      · exact c.le _
      · exact c.le _
  · have c1 := cd hA
    have eX : at2 s.hs p.1 a + at2 s.hs p.2 a - at2 s.tz i a = at2 s.hs p.1 a := by omega
    rw [eX] at eh et
    refine ⟨fun j q hj hq => ?_, fun j q hj hq => ?_, fun u => ?_⟩
    · rw [eh, et]
      by_cases hji : j = i
      · subst hji
        rw [ht] at hj
        cases hj
        exact absurd hq hA
      · rw [if_neg hji]
        have h0 := c.up j q hj hq
        by_cases h2 : q.1 = p.2
        · have := hq.up
          rw [par_tie t hj, h2] at this
          exact absurd this hA
        · by_cases h1 : q.1 = p.1
          · rw [if_pos (.inl h1), ← h1]; exact h0
          · rw [if_neg (fun z => z.elim h1 h2)]; exact h0
    · rw [eh, et]
      by_cases hji : j = i
      · subst hji
        rw [ht] at hj
        cases hj
        rw [if_pos (.inr rfl), if_pos rfl]
      · rw [if_neg hji]
        have h0 := c.dn j q hj hq
        by_cases h1 : q.2 = p.1
        · rw [if_pos (.inl h1), ← h1]; exact h0
        · rw [if_neg (fun z => z.elim h1 (other j q hj hji))]; exact h0
    · rw [eh]
      split
      · exact c.le _
      · exact c.le _
theorem TCol.other {h acts : Nat} {ts : List Tie} {s : Bk} {v a u k : Nat} (c : TCol ts s v a) (ok : BkOk h ts acts s) (hu : u < h) (hs : s.acted < acts) (ha : a ≠ s.acted) : TCol ts (hearB ts s (.act u k)) v a := by
  have eh : ∀ i, at2 (hearB ts s (.act u k)).hs i a = at2 s.hs i a := fun i => by rw [hear_act ok hu hs, if_neg (fun z => ha z.2)]; rfl
  exact ⟨fun i p hi hp => by rw [eh]; exact c.up i p hi hp, fun i p hi hp => by rw [eh]; exact c.dn i p hi hp, fun i => by rw [eh]; exact c.le i⟩
theorem TCol.new {h acts : Nat} {ts : List Tie} {s : Bk} {v k : Nat} (t : Tree ts) (ok : BkOk h ts acts s) (hv : v < h) (hs : s.acted < acts) (z1 : ∀ i, at2 s.hs i s.acted = 0) (z2 : ∀ i, at2 s.tz i s.acted = 0) : TCol ts (hearB ts s (.act v k)) v s.acted := by
  have eh : ∀ i, at2 (hearB ts s (.act v k)).hs i s.acted = if i = v then 1 else 0 := fun i => by
    rw [hear_act ok hv hs, z1]
    by_cases e : i = v
    · rw [if_pos ⟨e, rfl⟩, if_pos e]
    · rw [if_neg (fun z => e z.1), if_neg e]
  have et : ∀ i, at2 (hearB ts s (.act v k)).tz i s.acted = 0 := z2
  refine ⟨fun i p hi hp => ?_, fun i p hi hp => ?_, fun u => ?_⟩
  · obtain ⟨e1, e2⟩ := t i p hi
    have := hp.le t
    rw [eh, et, if_neg (by omega)]
  · rw [eh, et, if_neg]
    intro z
    rw [z] at hp
    exact hp .self
  · rw [eh]; split <;> omega
theorem tree_cols {h acts : Nat} {ts : List Tie} (w : WOk h ts) (t : Tree ts) : ∀ (ss : List Stp), (deedsOf ss).length ≤ acts → (∀ s ∈ ss, sok h ts.length 8 s = true) → ∀ a v, (placesOf ss)[a]? = some v → TCol ts (bookAt h ts acts ss) v a := by
  refine snocI (fun _ _ a v h => by simp [placesOf] at h) (fun ss s ih hl hok a v hv => ?_)
  rw [deedsOf_append, List.length_append] at hl
  have hok1 : ∀ s ∈ ss, sok h ts.length 8 s = true := fun s hs => hok s (List.mem_append_left _ hs)
  have wh := whole w (acts := acts) ss (by omega) hok1
  have ih := ih (by omega) hok1
  have o := hok s (List.mem_append_right _ List.mem_cons_self)
  rw [placesOf_append] at hv
  rw [bookAt_snoc]
  have ok := wh.ok
  have ac := wh.acted
  have zh := wh.zh
  have zt := wh.zt
  generalize bookAt h ts acts ss = b at *
  cases s with
  | act u k =>
    have o : (decide (u < h) && decide (k < 8)) = true := o
    rw [Bool.and_eq_true, decide_eq_true_eq, decide_eq_true_eq] at o
    have l1 : (deedsOf [Stp.act u k]).length = 1 := rfl
    by_cases ha : a < (placesOf ss).length
    · rw [List.getElem?_append_left ha] at hv
      rw [placesOf_len] at ha
      exact (ih a v hv).other ok o.1 (by omega) (by omega)
    · rw [List.getElem?_append_right (by omega)] at hv
      have hz : a - (placesOf ss).length = 0 := by
        have := lt_of_get hv
        have e : (placesOf [Stp.act u k]).length = 1 := rfl
        omega
      rw [hz] at hv
      have e : u = v := Option.some.inj hv
      subst e
      have ea : a = b.acted := by rw [ac, ← placesOf_len]; omega
      subst ea
      exact TCol.new t ok o.1 (by omega) (fun i => zh i _ (by omega)) fun i => zt i _ (by omega)
  | meet i =>
    have o : decide (i < ts.length) = true := o
    have e0 : placesOf [Stp.meet i] = [] := rfl
    rw [e0, List.append_nil] at hv
    exact (ih a v hv).meet w t ok (of_decide_eq_true o)
/-! ### whole sums -/
theorem sumI_split {p : Nat → Bool} {f : Nat → Nat} : ∀ {n : Nat}, sumI n (fun _ => true) f = sumI n p f + sumI n (fun i => !p i) f
  | 0 => rfl
  | n + 1 => by
    rw [sumI_succ, sumI_succ, sumI_succ, sumI_split (p := p) (n := n)]
    cases h : p n with
    | true => simp; omega
    | false => simp; omega
theorem Col.total {h : Nat} {ts : List Tie} {s : Bk} {v a : Nat} (c : Col h ts s v a) : sumI h (fun _ => true) (fun i => at2 s.hs i a) = sumI ts.length (fun _ => true) (fun i => at2 s.tz i a) + 1 := by
  have z1 : sumI h (fun i => !decide (i ∈ joinedL h ts v)) (fun i => at2 s.hs i a) = 0 := sumI_zero fun i _ hi => c.zh i (by simpa using hi)
  have z2 : sumI ts.length (fun i => !decide ((ts.getD i (0, 0)).1 ∈ joinedL h ts v)) (fun i => at2 s.tz i a) = 0 := sumI_zero fun i hl hi => c.zt i _ (getD_at hl) (by simpa using hi)
  have s1 := sumI_split (p := fun i => decide (i ∈ joinedL h ts v)) (f := fun i => at2 s.hs i a) (n := h)
  have s2 := sumI_split (p := fun i => decide ((ts.getD i (0, 0)).1 ∈ joinedL h ts v)) (f := fun i => at2 s.tz i a) (n := ts.length)
  have := c.sum
  omega
theorem sumI_pos {p : Nat → Bool} {f : Nat → Nat} {n : Nat} (h : 1 ≤ sumI n p f) : ∃ i, i < n ∧ 1 ≤ f i := Classical.byContradiction fun z => by
  have : sumI n p f = 0 := sumI_zero fun i hi _ => by
    have : ¬ 1 ≤ f i := fun y => z ⟨i, hi, y⟩
    omega
  omega
def colOf (m : List (List Nat)) (a : Nat) : List Nat := m.map fun r => r.getD a 0
theorem col_eq {m : List (List Nat)} {a : Nat} : colOf m a = (List.range m.length).map fun i => at2 m i a := by
  unfold colOf
  refine List.ext_getElem? fun i => ?_
  rw [List.getElem?_map]; rw [List.getElem?_map]
  by_cases hi : i < m.length
  · rw [List.getElem?_range hi, getD_at (d := []) hi]; rfl
  · rw [List.getElem?_eq_none (by omega), List.getElem?_eq_none (by rw [List.length_range]; omega)]; rfl
theorem col_sum {m : List (List Nat)} {a : Nat} : (colOf m a).sum = sumI m.length (fun _ => true) (fun i => at2 m i a) := by
  rw [col_eq]
  unfold sumI
  rw [List.filter_eq_self.mpr (by intros; rfl)]
end Hb
/-! Df20: whether what is heard is what is counted. -/
namespace Hb
open PySem L2 Mc Ly
/-- a comprehension's scope, its item -/
def lcS : Expr → Scope → Scope
  | .ListComp _ _ sc _, _ => sc
  | _, d => d
def lcE : Expr → Expr
  | .ListComp e _ _ _ => e
  | .Call _ (e :: _) _ _ => e
  | e => e
def asgE : Stmt → Expr
  | .Assign _ e _ => e
  | .Expr e _ => e
  | _ => .Constant .none 0 ⟨0, 0, 0, 0⟩
def rowsD : D → D
  | .tup l => .lst (l.map ctD)
  | x => x
theorem keep_rgI {n : Nat} {p : Nat → Bool} : keep (rgD 0 n) (qI p) (fun d => d) = nD ((List.range n).filter p) := by
  have := keep_rg (n := n) (p := p) (f := fun i => i)
  rw [List.map_id'] at this
  unfold keep at this ⊢
  rw [List.map_id']
  have e : ∀ l : List D, (∀ d ∈ l, ∃ i : Nat, d = .int (i : Int)) → l.map (gI fun i => i) = l := fun l h => by
    refine Eq.trans (List.map_congr_left (g := id) fun d hd => ?_) (List.map_id l)
    obtain ⟨i, rfl⟩ := h d hd
    rfl
  rw [e] at this
  · rw [this]; unfold toI nD; rw [List.map_map]; rfl
  · intro d hd
    obtain ⟨i, hi⟩ := List.getElem?_of_mem (List.mem_filter.mp hd).1
    obtain ⟨_, rfl⟩ := rgD_get hi
    exact ⟨i, by rw [Int.zero_add]⟩
section
variable {P : Program} {wd : World} {K : PySem.W.Frag} {mg : Str → Option Value} {base : Heap} (B : Blt mg) (G : Gc mg)
abbrev s79 : Stmt := top 79
abbrev N79 : List Str := ["_law_heard", "_law_houses", "_law_archives", "_law_rows", "_law_act", "_law_row", "_law_some"]
theorem sc79 : FnScope N79 ["_law_heard", "_law_houses", "_law_archives"] (defScope s79) := ⟨rfl, rfl, rfl, by decide +kernel, rfl, by decide +kernel, by decide +kernel⟩
abbrev e79 : Expr := asgE ((defBody s79).getD 0 (.Pass ⟨0, 0, 0, 0⟩))
abbrev RHeard : List D → D → Prop := fun ds d => ∃ (h : Nat) (ts : List Tie) (acts : Nat) (s : Bk), ds = [.tup [.tup (tT (s.hs.map counted)), .tup (tT (s.tz.map counted))], .tup (tT s.hs), .tup (tT s.tz)] ∧ WOk h ts ∧ BkOk h ts acts s ∧ acts ≤ 400 ∧ d = .bl true
theorem counted_shw {m : List (List Nat)} {acts : Nat} (h : ∀ r ∈ m, r.length = acts) (ha : acts ≤ 400) : ∀ r ∈ m.map counted, r.length ≤ 400 ∧ ∀ x ∈ r, x < 2 ^ 20 := fun r hr => by
  obtain ⟨q, hq, rfl⟩ := List.mem_map.mp hr
  have l := h q hq
  refine ⟨?_, fun x hx => ?_⟩
  · unfold counted
    refine Nat.le_trans (List.length_filter_le _ _) ?_
    rw [List.length_range]; omega
  · have := counted_lt hx
    have : (2 : Nat) ^ 20 = 1048576 := rfl
    omega
include B in
theorem ok79 {f : Addr} {fd : FuncData} (F : Df K mg "_law_is_heard" s79 f fd) : CalG P wd K mg base "_law_is_heard" 1 ["_law_heard", "_law_houses", "_law_archives"] (spD RHeard) := by
  refine calG_pure F.F sc79 F.g (F.F.binds fun _ _ _ _ _ _ us hl => match us, hl with | [_, _, _], _ => rfl) (fun ds d ⟨_, _, _, _, e, _⟩ => by rw [e]; rfl) ?_
  rintro cdv A outer s H Er fm gd ds d ⟨h, ts, acts, b, rfl, w, ok, a400, rfl⟩ M0 H0 σ D0 c q
  have h12 := w.h12
  have t20 := w.t20
  refine b_cons (k_setLc fm 3 [("_law_some", 6)] (blkOk_by (sc := defScope s79) (by decide +kernel)) (fun _ => rfl) c (ds := [.lst (tT (b.hs.map counted)), .lst (tT (b.tz.map counted))]) (EN.to (r_lc [("_law_some", 6)] (fun _ => true) rowsD (f1 6) (i_sq fm (w_lst (a_cons (w_nm 1 (fun _ => rfl) rfl) (a_cons (w_nm 2 (fun _ => rfl) rfl) a_nil)) (show 2 ≤ 100000 by decide)) qL) (show 2 ≤ 100000 by decide) (fun i d h => (cw_name (Fam.blk fm) 6 (fun _ => rfl) (by decide))) (fun i d h => ts_nil) (fun i d h hq => ?_)) ?_) (fun _ => rfl) fun σ M H c => ?_)
  · obtain ⟨m, rfl, hm, hl⟩ : ∃ m : List (List Nat), d = .tup (tT m) ∧ (∀ r ∈ m, r.length = acts) ∧ m.length ≤ 20 := by
      match i, h with
      | 0, h => exact ⟨b.hs, (Option.some.inj h).symm, ok.hr, by rw [ok.hl]; omega⟩
      | 1, h => exact ⟨b.tz, (Option.some.inj h).symm, ok.tr, by rw [ok.tl]; omega⟩
    refine E.eq (w_lc (Fam.blk fm) [("_law_row", 5)] (blkOk_by (sc := lcS e79 default) (by decide +kernel)) (fun _ => rfl) (fun _ => true) ctD (f1 5) (i_sq (Fam.blk fm) (w_nm 6 (fun _ => rfl) rfl) qT) (by rw [tT_len]; omega) (fun i d h => (cw_name (Fam.blk (Fam.blk fm)) 5 (fun _ => rfl) (by decide))) (fun i d h => ts_nil) (fun i d h hq => ?_)) (congrArg Ly.D.lst keep_all)
    obtain ⟨r, hr, rfl⟩ := tT_get h
    have rl := hm r (List.mem_of_getElem? hr)
    refine E.eq (w_tuple (Fam.blk (Fam.blk fm)) B (w_lc (Fam.blk (Fam.blk fm)) [("_law_act", 4)] (blkOk_by (sc := lcS (lcE e79) default) (by decide +kernel)) (fun _ => rfl) (qI fun i => decide (0 < r.getD i 0)) (fun d => d) (f1 4) (i_rg1 (Fam.blk (Fam.blk fm)) B (w_len (Fam.blk (Fam.blk fm)) B (w_nm 5 (fun _ => rfl) rfl) qT) (by rw [nD_len]; omega)) (by rw [rgD_len, Int.toNat_natCast, nD_len]; omega) (fun i d h => (cw_name (Fam.blk (Fam.blk (Fam.blk fm))) 4 (fun _ => rfl) (by decide))) (fun i d h => ?_) (fun i d h hq => (w_nm 4 (fun _ => rfl) rfl))) qL) ?_
    · obtain ⟨hi, rfl⟩ := rgD_get h
      rw [Int.toNat_natCast, nD_len] at hi
      rw [show (0 : Int) + (i : Int) = (i : Int) by omega]
      refine ts_one (et_eq (t_cmp (w_ix (Fam.blk (Fam.blk (Fam.blk fm))) (w_nm 5 (fun _ => rfl) rfl) (w_nm 4 (fun _ => rfl) rfl) qT (atI_of i (nD_at hi))) w_int cm_gt) ?_)
      show decide ((0 : Int) < ((r.getD i 0 : Nat) : Int)) = decide (0 < r.getD i 0)
      refine decide_eq_decide.mpr (by omega)
    · rw [ctD_row, Int.toNat_natCast, nD_len, keep_rgI]; rfl
  · rw [keep_all]
    show [Ly.D.lst ((tT b.hs).map ctD), Ly.D.lst ((tT b.tz).map ctD)] = _
    rw [ctD_tT, ctD_tT]
  have l1 : (b.hs.map counted).length ≤ 20 := by rw [List.length_map, ok.hl]; omega
  have l2 : (b.tz.map counted).length ≤ 20 := by rw [List.length_map, ok.tl]; omega
  have sh := shw_C (counted_shw ok.hr a400) (counted_shw ok.tr a400) l1 l2
  refine b_one (k_ret c (E.eq (w_cmp (w_repr fm gd B (w_nm 0 (fun _ => rfl) rfl) py_cD sh) (w_repr fm gd B (w_tup (a_cons (w_tuple fm B (w_ix fm (w_nm 3 (fun _ => rfl) rfl) w_int qL rfl) qL) (a_cons (w_tuple fm B (w_ix fm (w_nm 3 (fun _ => rfl) rfl) w_int qL rfl) qL) a_nil)) (show 2 ≤ 100000 by decide)) py_cD sh) cm_eqS) ?_) fun v M H c r => q v _ _ M H c r)
  rw [decide_eq_true rfl]
end
end Hb
/-! Ly19: name = [..] on one line, its items drawn. -/
namespace Ly
open PySem L2 Mc
section
variable {ι : Type} {Z : ι → Cx} {own : Own} {ρ : Ev} {P : Program} {wd : World} {K : PySem.W.Frag} {mg : Str → Option Value} {base : Heap} {N : List Str} {k : Nat} (fm : Fam Z P wd K mg base N k)
variable {tg : Expr} {nm : Str} {p pos : Pos} {Pq : D → Own → Prop} {D : Ends} {F : List Addr} {M0 H0 M H : Hp} {σ : L2.St}
include fm in
theorem k_setLcX {iter elt : Expr} {ifs : List Expr} {scope sc : Scope} {spos : Pos} (v : Nat) (ow : List (Str × Nat)) (ok : BlkOk N sc scope ow) (hsc : ∀ n, (Z n).env.scope = sc) (c : C F M0 H0 own ρ σ M H) (h : X own ρ (lcT Z ow scope tg iter ifs elt) Pq) (hN : ∀ n, (Z n).N[v]? = some nm) (k : ∀ d o σ' M' H', Pq d o → C F M0 H0 o (ρ.set v (some d)) σ' M' H' → D.nx σ' H') (hyl : ∀ n, (Z n).env.scope.names.lookup nm = some .local := by intro _; rfl)
    (hsw : ∀ n, swapsWith (.ListComp elt [⟨tg, iter, ifs, 0⟩] scope pos) (some (.Name nm p)) spos.line (Z n).env = pure true := by intro _; exact sw_true rfl rfl rfl (by decide +kernel)) (hs : ∀ n x, foldedSetIterable iter (Z n).env x = pure x := by intro _ _; rfl) : wS Z (.Assign [.Name nm p] (.ListComp elt [⟨tg, iter, ifs, 0⟩] scope pos) spos) D σ H :=
  ⟨_, fun n => ps_setLcT fm ok hsc hs hN hyl hsw n, s_setX c h k⟩
end
end Ly
/-! Df21: a run of 400 steps on a tree. -/
namespace Hb
open PySem L2 Mc Ly
theorem ties_of : ∀ es : List D, (∀ (j : Nat) (y : D), es[j]? = some y → ∃ v : Nat, v ≤ j ∧ y = .lst [.int (v : Int), .int ((j + 1 : Nat) : Int)]) → ∃ ts : List Tie, es = pL ts ∧ Tree ts := by
  refine snocI (fun _ => ⟨[], rfl, fun i p h => nomatch h⟩) (fun es d ih h => ?_)
  obtain ⟨ts, rfl, t⟩ := ih fun j y hj => h j y (by rw [List.getElem?_append_left (lt_of_get hj)]; exact hj)
  obtain ⟨v, hv, rfl⟩ := h (pL ts).length d (by simp)
  rw [pL_len] at hv
  refine ⟨ts ++ [(v, ts.length + 1)], by unfold pL; rw [List.map_append, List.length_map]; rfl, fun i p hi => ?_⟩
  by_cases hl : i < ts.length
  · rw [List.getElem?_append_left hl] at hi
    exact t i p hi
  · rw [List.getElem?_append_right (by omega)] at hi
    have hz : i - ts.length = 0 := by
      have := lt_of_get hi
      have e : [(v, ts.length + 1)].length = 1 := rfl
      omega
    rw [hz] at hi
    have e : (v, ts.length + 1) = p := Option.some.inj hi
    subst e
    exact ⟨by show ts.length + 1 = i + 1; omega, by show v ≤ i; omega⟩
theorem tree_ok {ts : List Tie} (t : Tree ts) (hl : ts.length = 11) : WOk 12 ts := ⟨by decide, by decide, by omega, fun p hp => by
  obtain ⟨i, hi⟩ := List.getElem?_of_mem hp
  obtain ⟨e1, e2⟩ := t i p hi
  have := lt_of_get hi
  omega⟩
theorem sts_map (ss : List Stp) : Sts (ss.map stT) ss := ⟨List.length_map _, fun i s h => ⟨stT s, by rw [List.getElem?_map, h]; rfl, qT⟩⟩
def atD (a : Nat) : D → D
  | .tup l => l.getD a .non
  | x => x
theorem atD_row {a : Nat} {r : List Nat} (h : a < r.length) : atD a (.tup (nD r)) = .int ((r.getD a 0 : Nat) : Int) := getD_of (nD_at h)
theorem atD_col {a : Nat} {m : List (List Nat)} (h : ∀ r ∈ m, a < r.length) : (tT m).map (atD a) = (toI (colOf m a)).map D.int := by
  unfold tT toI colOf
  rw [List.map_map, List.map_map, List.map_map]
  exact List.map_congr_left fun r hr => atD_row (h r hr)
section
variable {P : Program} {wd : World} {K : PySem.W.Frag} {mg : Str → Option Value} {base : Heap} (B : Blt mg) (G : Gc mg) {Cw : Addr} (W : WK K mg Cw)
abbrev s77 : Stmt := top 77
abbrev N77 : List Str := ["_law_deal", "_law_ties", "_law_house", "_law_steps_here", "_law_web_here", "_law_houses", "_law_archives", "_law_acts", "_law_step", "_law_act", "_law_column", "_law_row"]
theorem sc77 : FnScope N77 ["_law_deal"] (defScope s77) := ⟨rfl, rfl, rfl, by decide +kernel, rfl, by decide +kernel, by decide +kernel⟩
abbrev PreFar (x : Dl) (ds : List D) (o : Own) : Prop := ds = [.ref x.a] ∧ o = x.own ∧ DlOk x
abbrev PostFar (x : Dl) (d : D) (o : Own) : Prop := ∃ g' : Dl, d = .bl true ∧ DlOk g' ∧ g'.a = x.a ∧ g'.l = x.l ∧ o = g'.own
abbrev CWeb (P : Program) (wd : World) (K : PySem.W.Frag) (mg : Str → Option Value) (base : Heap) (Cw : Addr) : Prop := CalI P wd K mg base Cw 6 ["self", "houses", "ties"] (spO (RWeb Cw))
include B W in
theorem ok77 {f : Addr} {fd : FuncData} (F : Df K mg "_law_far_right" s77 f fd) (C66 : CAny P wd K mg base) (C67 : COf P wd K mg base) (C71 : Cal P wd K mg base "_law_steps" 2 ["_law_deal", "_law_many", "_law_ties", "_law_deeds", "_law_length"] (spN PreSt PostSt)) (CW : CWeb P wd K mg base Cw)
    (C58 : Cal P wd K mg base "counts_after" 7 ["web", "steps"] (spD (RBk Cw cD))) (C55 : Cal P wd K mg base "act_deeds" 7 ["web", "steps"] (spD (RWs Cw fun ss => .tup (nD (deedsOf ss))))) (C60 : Cal P wd K mg base "heard_after" 8 ["web", "steps"] (spD (RBk Cw hD))) (C79 : CalG P wd K mg base "_law_is_heard" 1 ["_law_heard", "_law_houses", "_law_archives"] (spD RHeard)) :
    CalG P wd K mg base "_law_far_right" 9 ["_law_deal"] (spN PreFar PostFar) := by
  refine ⟨f, fd, fnG_new F.F sc77 (fun g ds o ⟨e, _⟩ => by rw [e]; rfl) ?_, F.g, F.F.kp, F.F.binds fun _ _ _ _ _ _ us hl => match us, hl with | [_], _ => rfl⟩
  rintro cdv A outer s H Er fm gd g ds own ⟨rfl, rfl, ok⟩ M0 H0 σ D0 c q hn
  have c : C _ M0 H0 (g.own ++ []) _ σ M0 H0 := c.perm (List.Perm.of_eq (List.append_nil _).symm)
  refine b_cons (k_setLcX fm 1 [("_law_house", 2)] (blkOk_by (sc := defScope s77) (by decide +kernel)) (fun _ => rfl) c (x_lcV (I := ID g []) (fun x y => ∃ w v : Nat, x = .int ((1 + w : Nat) : Int) ∧ v ≤ w ∧ y = .lst [.int (v : Int), .int ((1 + w : Nat) : Int)]) (f1 2) (ID.of ok) (i_rg2 fm B w_int w_int) (by rw [rgD_len]; decide) (fun i d h => (cw_name (Fam.blk fm) 2 (fun _ => rfl) (by decide))) (fun _ i d h => ts_nil) (fun i d h => ?_)) (fun _ => rfl) ?_)
  · obtain ⟨hi, rfl⟩ := rgD_get h
    rw [show (1 : Int) + (i : Int) = ((1 + i : Nat) : Int) by omega]
    have hi : i < 11 := hi
    refine V_.imp (v_lst (va_cons (v_of (Fam.blk fm) C67 (rest := []) (Pa := fun d => ∃ v : Nat, v < 1 + i ∧ d = .int (v : Int)) (fun own hi => w_nm 0 (fun _ => rfl) rfl) (v_lst (va_cons (V_.of fun own hi => w_sub (w_nm 2 (fun _ => rfl) rfl) w_int) (va_cons (v_any (Fam.blk fm) C66 (m := 1 + i) (fun own hi => w_nm 0 (fun _ => rfl) rfl) (fun own hi => w_nm 2 (fun _ => rfl) rfl) (by omega) (by omega)) va_nil)) (fun ds ⟨x, r, e, _, y, r2, e2, _, e3⟩ => by rw [e, e2, e3]; show 2 ≤ 100000; decide)) ?_) (va_cons (V_.of fun own hi => w_nm 2 (fun _ => rfl) rfl) va_nil)) (fun ds ⟨x, r, e, _, y, r2, e2, _, e3⟩ => by rw [e, e2, e3]; show 2 ≤ 100000; decide)) ?_
    · rintro xs ⟨x, r, rfl, rfl, y, r2, rfl, ⟨_, rfl, v, hv, rfl⟩, rfl⟩
      refine ⟨by show 1 ≤ 2; decide, by show 2 ≤ 1000; decide, fun z hz => ?_⟩
      obtain rfl | hz := List.mem_cons.mp hz
      · exact ⟨i, by omega, congrArg Ly.D.int (by omega)⟩
      · rw [List.mem_singleton.mp hz]; exact ⟨v, hv, rfl⟩
    · rintro d ⟨ds, rfl, x, r, rfl, ⟨v, hv, rfl⟩, y, r2, rfl, rfl, rfl⟩
      exact ⟨i, v, rfl, by omega, rfl⟩
  rintro d o σ M H ⟨⟨es, rfl, el, hes⟩, g1, ok1, ea1, el1, rfl⟩ c
  have el : es.length = 11 := el
  obtain ⟨ts, rfl, tr⟩ := ties_of es fun j y hj => by
    have hjl := lt_of_get hj
    have hx : (rgD 1 11)[j]? = some (.int (1 + (j : Int))) := by
      unfold rgD
      rw [List.getElem?_map, List.getElem?_range (by omega)]; rfl
    obtain ⟨w, v, e1, e2, e3⟩ := hes j _ y hx hj
    have e1 : (1 + (j : Int)) = ((1 + w : Nat) : Int) := V.int.inj (by injection e1)
    have : w = j := by omega
    subst this
    exact ⟨v, e2, by rw [e3]; exact congrArg (fun z => Ly.D.lst [.int (v : Int), .int z]) (by omega)⟩
  rw [pL_len] at el
  have w := tree_ok tr el
  -- steps and a web
  refine b_cons (k_par fm 3 4 c (xa_cn (Pr := fun x r o => ∃ (ss : List Stp) (wb : Addr) (g' : Dl), x = .lst (ss.map stT) ∧ ss.length = 400 ∧ (∀ s ∈ ss, sok 12 ts.length 8 s = true) ∧ r = [.ref wb] ∧ DlOk g' ∧ g'.a = g.a ∧ g'.l = g.l ∧ o = (wb, .ins Cw [("ties", .tup (pT ts)), ("houses", .int ((12 : Nat) : Int))]) :: (g'.own ++ []))
    (x_callN fm C71 (Pq := fun d o => ∃ (ss : List Stp) (g' : Dl), d = .lst (ss.map stT) ∧ ss.length = 400 ∧ (∀ s ∈ ss, sok 12 ts.length 8 s = true) ∧ DlOk g' ∧ g'.a = g.a ∧ g'.l = g.l ∧ o = g'.own ++ []) (EA.xa (a_cons (w_nm 0 (fun _ => rfl) rfl) (a_cons w_int (a_cons (w_nm 1 (fun _ => rfl) rfl) (a_cons w_int (a_cons w_int a_nil)))))) (fun ds o ⟨e1, e2⟩ => by
      subst e1 e2
      refine ⟨⟨g1, 12, ts, 8, 400⟩, g1.own, [], .refl _, ⟨by show _ = [D.ref g1.a, _, _, _, _]; rw [ea1]; rfl, rfl, ok1, by show 1 ≤ 12; decide, by show 12 ≤ 12; decide, by show ts.length ≤ 20; omega, by show 1 ≤ 8; decide, by show 8 ≤ 8; decide, by show 400 ≤ 400; decide⟩, ?_⟩
      rintro d o ⟨ss, g', rfl, hl, hok, ok', ea, el', rfl⟩
      exact ⟨ss, g', rfl, hl, hok, ok', ea.trans ea1, el'.trans el1, rfl⟩))
    (fun x o ⟨ss, g', e1, hl, hok, ok', ea', el', e2⟩ => by
      subst e1 e2
      refine XA.imp (xa_one (x_make fm W.kl CW (Pq := fun d o => ∃ wb, d = .ref wb ∧ o = (wb, .ins Cw [("ties", .tup (pT ts)), ("houses", .int ((12 : Nat) : Int))]) :: (g'.own ++ [])) (EA.xa (a_cons w_int (a_cons (w_nm 1 (fun _ => rfl) rfl) a_nil))) (fun ds o ⟨e1, e2⟩ x => by
        subst e1 e2
        exact ⟨_, ⟨12, ts, x, rfl, rfl, w, rfl, rfl⟩, x, rfl, rfl⟩))) ?_
      rintro r o' ⟨y, rfl, wb, rfl, rfl⟩
      exact ⟨ss, wb, g', rfl, hl, hok, rfl, ok', ea', el', rfl⟩)) (fun _ => rfl) (fun _ => rfl) ?_)
  rintro ds o ⟨x, r, o1, rfl, _, ss, wb, g2, rfl, hl, hok, rfl, ok2, ea2, el2, rfl⟩
  refine ⟨_, _, rfl, fun σ M H c => ?_⟩
  have hF : wb ∉ (Dl.own g).map (·.1) := by
    have nd := c.sd.ow.nd
    rw [List.map_cons] at nd; rw [List.nodup_cons] at nd
    have e : (Dl.own g).map (·.1) = (g2.own ++ ([] : Own)).map (·.1) := by
      show [g.a, g.l] = [g2.a, g2.l]
      rw [ea2, el2]
    rw [e]; exact nd.1
  obtain ⟨M', c2, _, dv⟩ := C.frz c hF rfl
  have c := c2.again (i := 4) (d := .ref wb) (d' := webD Cw 12 ts) rfl fun v r => by rw [r.raw_eq]; exact dv
  clear c2 dv
  rw [List.append_nil] at c
  have sa : StA Cw 12 ts (.lst (ss.map stT)) ss := ⟨⟨_, qL, sts_map ss⟩, by omega, hok⟩
  have wh := whole w (acts := (deedsOf ss).length) ss (Nat.le_refl _) hok
  have tc := tree_cols w tr (acts := (deedsOf ss).length) ss (Nat.le_refl _) hok
  have da := deedsOf_len (ss := ss)
  refine b_cons (k_asg c (w_call fm C58 (a_cons (w_nm 4 (fun _ => rfl) rfl) (a_cons (w_nm 3 (fun _ => rfl) rfl) a_nil)) ⟨12, ts, _, ss, rfl, w, sa, rfl⟩) (g_tup fm (g_cons fm 5 (fun _ => rfl) (g_cons fm 6 (fun _ => rfl) g_nil))) fun σ M H c => ?_)
  refine b_cons (k_set fm 7 c (w_call fm C55 (a_cons (w_nm 4 (fun _ => rfl) rfl) (a_cons (w_nm 3 (fun _ => rfl) rfl) a_nil)) ⟨12, ts, _, ss, rfl, sa, rfl⟩) (fun _ => rfl) fun σ M H c => ?_)
  have bo : BkOk 12 ts (deedsOf ss).length (bookOf 12 ts ss) := wh.ok
  have col : ∀ a v, (placesOf ss)[a]? = some v → Col 12 ts (bookOf 12 ts ss) v a ∧ TCol ts (bookOf 12 ts ss) v a := fun a v h => ⟨(wh.col a v h).2, tc a v h⟩
  have kl := keep_do_len ss
  refine b_cons (k_if (g := false) c (et_eq (t_pw (v_or (t_cmp (w_len fm B (w_nm 7 (fun _ => rfl) rfl) qT) (w_len fm B (w_lc fm [("_law_step", 8)] (blkOk_by (sc := defScope s77) (by decide +kernel)) (fun _ => rfl) isDo (fun d => d) (f1 8) (i_sq fm (w_nm 3 (fun _ => rfl) rfl) qL) (by rw [List.length_map]; omega) (fun i d h => (cw_name (Fam.blk fm) 8 (fun _ => rfl) (by decide))) (fun i d h => ?_) (fun i d h hq => (w_nm 8 (fun _ => rfl) rfl))) qL) cm_neS) fun h2 => (v_or (t_cmp (w_len fm B (w_nm 5 (fun _ => rfl) rfl) qT) w_int cm_neS) fun h1 => (v_or1 (t_cmp (w_len fm B (w_nm 6 (fun _ => rfl) rfl) qT) w_int cm_neS))))) ?_) (fun h M H c => nomatch h) fun h M H c => b_nil ?_)
  · obtain ⟨st, hs, rfl⟩ := stT_get h
    obtain ⟨x, hx, ex⟩ := st_first st
    exact ts_one (et_eq (t_cmp (w_ix (Fam.blk fm) (w_nm 8 (fun _ => rfl) rfl) w_int qT hx) w_str cm_eqS) (ex.trans (isDo_st st).symm))
  · rw [nD_len, kl, tT_len, tT_len, bo.hl, bo.tl, el]
    simp
  generalize hb : bookOf 12 ts ss = b at *
  refine b_cons (k_forB fm (G := Unit) (fun _ _ => True) (fun _ => g2.own) (fun _ => [some (.ref g.a), some (.lst (pL ts)), none, some (.lst (ss.map stT)), some (webD Cw 12 ts), some (.tup (tT b.hs)), some (.tup (tT b.tz)), some (.tup (nD (deedsOf ss))), none, none, none, none]) () (f1 9) c (i_rg1 fm B (w_len fm B (w_nm 7 (fun _ => rfl) rfl) qT) (by rw [nD_len]; omega)) trivial rfl (fun _ _ _ σ M H c => c) (fun i d h => (g_name fm 9 (fun _ => rfl))) (fun M1 H1 lf a d x σ M H hi hP c D1 e1 e2 kn => ?_) (fun x σ M H hP c => ?_) (fun _ => passes_of rfl))
  · obtain ⟨ha, rfl⟩ := rgD_get hi
    rw [Int.toNat_natCast, nD_len] at ha
    rw [show (0 : Int) + (a : Int) = (a : Int) by omega] at c
    have hpl : a < (placesOf ss).length := by rw [placesOf_len]; exact ha
    obtain ⟨c1, c2⟩ := col a _ (List.getElem?_eq_getElem hpl)
    have tot := c1.total
    have m1 : ∀ y ∈ toI (colOf b.hs a), y ≤ 1 := fun y hy => by
      unfold toI at hy
      obtain ⟨n, hn, rfl⟩ := List.mem_map.mp hy
      rw [col_eq] at hn
      obtain ⟨u, _, rfl⟩ := List.mem_map.mp hn
      have := c2.le u
      omega
    have m2 : 1 ∈ toI (colOf b.hs a) := by
      obtain ⟨u, hu, h1⟩ := sumI_pos (show 1 ≤ sumI 12 (fun _ => true) (fun i => at2 b.hs i a) by omega)
      have e : at2 b.hs u a = 1 := by have := c2.le u; omega
      unfold toI
      refine List.mem_map.mpr ⟨1, ?_, rfl⟩
      rw [col_eq, ← e]
      exact List.mem_map.mpr ⟨u, List.mem_range.mpr (by rw [bo.hl]; exact hu), rfl⟩
    have rh : ∀ r ∈ b.hs, a < r.length := fun r hr => by rw [bo.hr r hr]; exact ha
    have rt : ∀ r ∈ b.tz, a < r.length := fun r hr => by rw [bo.tr r hr]; exact ha
    refine b_cons (k_setLc fm 10 [("_law_row", 11)] (blkOk_by (sc := defScope s77) (by decide +kernel)) (fun _ => rfl) c (EN.to (r_lc [("_law_row", 11)] (fun _ => true) (atD a) (f1 11) (i_sq fm (w_nm 5 (fun _ => rfl) rfl) qT) (by rw [tT_len, bo.hl]; decide) (fun i d h => (cw_name (Fam.blk fm) 11 (fun _ => rfl) (by decide))) (fun i d h => ts_nil) (fun i d h hq => ?_)) (keep_all.trans (atD_col rh))) (fun _ => rfl) fun σ M H c => ?_)
    · obtain ⟨r, hr, rfl⟩ := tT_get h
      have hl := rh r (List.mem_of_getElem? hr)
      exact E.eq (w_ix (Fam.blk fm) (w_nm 11 (fun _ => rfl) rfl) (w_nm 9 (fun _ => rfl) rfl) qT (atI_of a (nD_at hl))) (atD_row hl).symm
    refine b_one (k_if (g := false) c (et_eq (t_pw (v_or (t_cmp (w_max fm B (ns := toI (colOf b.hs a)) (m := 1) (w_nm 10 (fun _ => rfl) rfl) rfl m2 m1) w_int cm_neS) fun h3 => (v_or1 (t_cmp (w_sub (w_sum fm B (w_nm 10 (fun _ => rfl) rfl) rfl) (w_sum fm B (w_lc fm [("_law_row", 11)] (blkOk_by (sc := defScope s77) (by decide +kernel)) (fun _ => rfl) (fun _ => true) (atD a) (f1 11) (i_sq fm (w_nm 6 (fun _ => rfl) rfl) qT) (by rw [tT_len, bo.tl, el]; decide) (fun i d h => (cw_name (Fam.blk fm) 11 (fun _ => rfl) (by decide))) (fun i d h => ts_nil) (fun i d h hq => ?_)) (keep_all.trans (atD_col rt)))) w_int cm_neS)))) ?_) (fun h M H c => nomatch h) fun h M H c => b_nil (kn () _ _ _ trivial (((c.forget 9).forget 10).forget 11)))
    · obtain ⟨r, hr, rfl⟩ := tT_get h
      have hl := rt r (List.mem_of_getElem? hr)
      exact E.eq (w_ix (Fam.blk fm) (w_nm 11 (fun _ => rfl) rfl) (w_nm 9 (fun _ => rfl) rfl) qT (atI_of a (nD_at hl))) (atD_row hl).symm
    · rw [toI_sum, toI_sum, col_sum, col_sum, bo.hl, bo.tl, tot]
      rw [Bool.or_eq_false_iff]
      refine ⟨rfl, ?_⟩
      rw [Bool.not_eq_false', decide_eq_true_eq]
      refine congrArg V.int ?_
      omega
  · refine b_one (k_retX (Pq := fun d o => d = .bl true ∧ o = g2.own) c (wG_call fm gd C79 (a_cons (w_call fm C60 (a_cons (w_nm 4 (fun _ => rfl) rfl) (a_cons (w_nm 3 (fun _ => rfl) rfl) a_nil)) ⟨12, ts, _, ss, rfl, w, sa, rfl⟩) (a_cons (w_nm 5 (fun _ => rfl) rfl) (a_cons (w_nm 6 (fun _ => rfl) rfl) a_nil))) ⟨12, ts, _, b, by rw [hb]; rfl, w, bo, by omega, rfl⟩).x ?_)
    rintro v d o M' H' ⟨rfl, rfl⟩ c r
    exact q v _ _ _ _ M' H' ⟨g2, rfl, ok2, ea2, el2, rfl⟩ c r
end
end Hb
/-! Mt7: states led by counts. -/
namespace Hb
open PySem L2 Mc Ly
abbrev stp (t : List (List Nat)) (d : Nat) : Nat → Nat := fun x => step t x d
theorem ledc_snoc {t : List (List Nat)} {s d c : Nat} {deeds counts : List Nat} (h : deeds.length = counts.length) : ledc t s (deeds ++ [d]) (counts ++ [c]) = itr (stp t d) c (ledc t s deeds counts) := by
  unfold ledc
  rw [List.zip_append h, List.foldl_append]
  rfl
theorem ledc_cons {t : List (List Nat)} {s d c : Nat} {deeds counts : List Nat} : ledc t s (d :: deeds) (c :: counts) = ledc t (itr (stp t d) c s) deeds counts := rfl
theorem run_append {t : List (List Nat)} {s : Nat} (a b : List Nat) : run t s (a ++ b) = run t (run t s a) b := by unfold run; rw [List.foldl_append]
/-- the deeds of the acts counted, one after the other -/
theorem plain_led {t : List (List Nat)} {s : Nat} : ∀ (deeds row : List Nat), deeds.length = row.length → run t s ((counted row).map fun a => deeds.getD a 0) = ledc t s deeds (row.map fun c => min 1 c) := by
  have key : ∀ (n : Nat) (deeds row : List Nat), deeds.length = n → row.length = n → run t s ((counted row).map fun a => deeds.getD a 0) = ledc t s deeds (row.map fun c => min 1 c) := by
    intro n
    induction n with
    | zero =>
      intro deeds row h1 h2
      have e1 : deeds = [] := List.length_eq_zero_iff.mp h1
      have e2 : row = [] := List.length_eq_zero_iff.mp h2
      subst e1 e2; rfl
    | succ n ih =>
      intro deeds row h1 h2
      obtain ⟨ds, d, rfl⟩ : ∃ ds d, deeds = ds ++ [d] := ⟨deeds.dropLast, deeds.getLast (by intro z; rw [z] at h1; cases h1), (List.dropLast_concat_getLast _).symm⟩
      obtain ⟨rs, r, rfl⟩ : ∃ rs r, row = rs ++ [r] := ⟨row.dropLast, row.getLast (by intro z; rw [z] at h2; cases h2), (List.dropLast_concat_getLast _).symm⟩
      rw [List.length_append] at h1 h2
      have l1 : ds.length = n := by have : [d].length = 1 := rfl; omega
      have l2 : rs.length = n := by have : [r].length = 1 := rfl; omega
      rw [List.map_append]
      have e1 : [r].map (fun c => min 1 c) = [min 1 r] := rfl
      rw [e1, ledc_snoc (by rw [List.length_map, l1, l2]), ← ih ds rs l1 l2]
      have ec : counted (rs ++ [r]) = counted rs ++ if 0 < r then [n] else [] := by
        unfold counted
        rw [List.length_append, show [r].length = 1 from rfl, l2, List.range_succ, List.filter_append]
        have f1 : (List.range n).filter (fun i => decide (0 < (rs ++ [r]).getD i 0)) = (List.range n).filter (fun i => decide (0 < rs.getD i 0)) := List.filter_congr fun i hi => by
          have hi := List.mem_range.mp hi
          rw [List.getD_eq_getElem?_getD, List.getElem?_append_left (by omega), ← List.getD_eq_getElem?_getD]
        have f2 : (rs ++ [r]).getD n 0 = r := getD_of (by rw [List.getElem?_append_right (by omega), l2, Nat.sub_self]; rfl)
        rw [f1]
        congr 1
        by_cases hr : 0 < r
        · rw [if_pos hr, List.filter_cons_of_pos (by rw [f2]; exact decide_eq_true hr)]; rfl
        · rw [if_neg hr, List.filter_cons_of_neg (by rw [f2]; exact fun z => hr (of_decide_eq_true z))]; rfl
      have em : (counted rs).map (fun a => (ds ++ [d]).getD a 0) = (counted rs).map fun a => ds.getD a 0 := List.map_congr_left fun a ha => by
        have := counted_lt ha
        rw [List.getD_eq_getElem?_getD, List.getElem?_append_left (by omega), ← List.getD_eq_getElem?_getD]
      rw [ec, List.map_append, em, run_append]
      by_cases hr : 0 < r
      · rw [if_pos hr, show min 1 r = 1 by omega]
        have f2 : (ds ++ [d]).getD n 0 = d := getD_of (by rw [List.getElem?_append_right (by omega), l1, Nat.sub_self]; rfl)
        show run t _ [(ds ++ [d]).getD n 0] = _
        rw [f2]; rfl
      · rw [if_neg hr, show min 1 r = 0 by omega]; rfl
  exact fun deeds row h => key _ deeds row rfl h.symm
/-- a set that deeds keep, on which they commute -/
structure Cset (t : List (List Nat)) (S : Nat → Prop) : Prop where
  kp : ∀ x d, S x → d < t.length → S (step t x d)
  cm : ∀ x d e, S x → d < t.length → e < t.length → step t (step t x d) e = step t (step t x e) d
section
variable {t : List (List Nat)} {S : Nat → Prop} (cs : Cset t S)
include cs
theorem Cset.itr {d : Nat} (hd : d < t.length) {x : Nat} (hx : S x) : ∀ k, S (itr (stp t d) k x)
  | 0 => hx
  | k + 1 => cs.kp _ d (Cset.itr hd hx k) hd
theorem Cset.step_itr {d e : Nat} (hd : d < t.length) (he : e < t.length) {x : Nat} (hx : S x) : ∀ k, step t (Hb.itr (stp t d) k x) e = Hb.itr (stp t d) k (step t x e)
  | 0 => rfl
  | k + 1 => by
    show step t (step t (Hb.itr (stp t d) k x) d) e = step t (Hb.itr (stp t d) k (step t x e)) d
    rw [cs.cm _ d e (cs.itr hd hx k) hd he, Cset.step_itr hd he hx k]
theorem Cset.itr_itr {d e : Nat} (hd : d < t.length) (he : e < t.length) {x : Nat} (hx : S x) (k : Nat) : ∀ l, Hb.itr (stp t e) l (Hb.itr (stp t d) k x) = Hb.itr (stp t d) k (Hb.itr (stp t e) l x)
  | 0 => rfl
  | l + 1 => by
    show step t (Hb.itr (stp t e) l (Hb.itr (stp t d) k x)) e = Hb.itr (stp t d) k (step t (Hb.itr (stp t e) l x) e)
    rw [Cset.itr_itr hd he hx k l, cs.step_itr hd he (cs.itr he hx l) k]
theorem Cset.led : ∀ (deeds counts : List Nat), (∀ d ∈ deeds, d < t.length) → ∀ {s : Nat}, S s → S (ledc t s deeds counts)
  | [], _, _, s, h => h
  | _ :: _, [], _, s, h => h
  | d :: ds, c :: cs', hd, s, h => Cset.led ds cs' (fun x hx => hd x (List.mem_cons_of_mem _ hx)) (cs.itr (hd d List.mem_cons_self) h c)
theorem Cset.led_itr {e l : Nat} (he : e < t.length) : ∀ (deeds counts : List Nat), (∀ d ∈ deeds, d < t.length) → ∀ {s : Nat}, S s → ledc t (Hb.itr (stp t e) l s) deeds counts = Hb.itr (stp t e) l (ledc t s deeds counts)
  | [], _, _, s, h => rfl
  | _ :: _, [], _, s, h => rfl
  | d :: ds, c :: cs', hd, s, h => by
    have h1 := hd d List.mem_cons_self
    rw [ledc_cons, ledc_cons, cs.itr_itr he h1 h l c]
    exact Cset.led_itr he ds cs' (fun x hx => hd x (List.mem_cons_of_mem _ hx)) (cs.itr h1 h c)
theorem Cset.led_add : ∀ (deeds a b : List Nat), deeds.length = a.length → deeds.length = b.length → (∀ d ∈ deeds, d < t.length) → ∀ {s : Nat}, S s → ledc t s deeds (List.zipWith (· + ·) a b) = ledc t (ledc t s deeds a) deeds b
  | [], [], [], _, _, _, s, h => rfl
  | d :: ds, x :: a, y :: b, h1, h2, hd, s, h => by
    have hd0 := hd d List.mem_cons_self
    have hds : ∀ e ∈ ds, e < t.length := fun e he => hd e (List.mem_cons_of_mem _ he)
    show ledc t s (d :: ds) ((x + y) :: List.zipWith (· + ·) a b) = _
    rw [ledc_cons, ledc_cons, ledc_cons, Nat.add_comm x y, itr_add, Cset.led_add ds a b (Nat.succ.inj h1) (Nat.succ.inj h2) hds (cs.itr hd0 (cs.itr hd0 h x) y), cs.led_itr hd0 ds a hds (cs.itr hd0 h x)]
  | [], _ :: _, _, h1, _, _, s, h => nomatch h1
  | [], [], _ :: _, _, h2, _, s, h => nomatch h2
  | _ :: _, [], _, h1, _, _, s, h => nomatch h1
  | _ :: _, _ :: _, [], _, h2, _, s, h => nomatch h2
theorem Cset.step_led {e : Nat} (he : e < t.length) (deeds counts : List Nat) (hd : ∀ d ∈ deeds, d < t.length) {s : Nat} (h : S s) : step t (ledc t s deeds counts) e = ledc t (step t s e) deeds counts := (cs.led_itr (l := 1) he deeds counts hd h).symm
theorem Cset.run_led {deeds counts : List Nat} (hd : ∀ d ∈ deeds, d < t.length) : ∀ (row : List Nat), (∀ e ∈ row, e < t.length) → ∀ {s : Nat}, S s → run t (ledc t s deeds counts) row = ledc t (run t s row) deeds counts
  | [], _, s, h => rfl
  | e :: row, he, s, h => by
    have h0 := he e List.mem_cons_self
    show run t (step t (ledc t s deeds counts) e) row = ledc t (run t (step t s e) row) deeds counts
    rw [cs.step_led h0 deeds counts hd h]
    exact Cset.run_led hd row (fun x hx => he x (List.mem_cons_of_mem _ hx)) (cs.kp _ e h h0)
end
/-- deeds as often as counted, in a row -/
def rowOf (deeds counts : List Nat) : List Nat := (deeds.zip counts).flatMap fun p => List.replicate p.2 p.1
theorem run_rep {t : List (List Nat)} {d : Nat} : ∀ (k : Nat) {s : Nat}, run t s (List.replicate k d) = itr (stp t d) k s
  | 0, s => rfl
  | k + 1, s => by
    show run t (step t s d) (List.replicate k d) = _
    rw [run_rep k]
    exact (itr_add (stp t d) s k 1).symm
theorem run_rowOf {t : List (List Nat)} : ∀ (deeds counts : List Nat) {s : Nat}, run t s (rowOf deeds counts) = ledc t s deeds counts
  | [], _, s => rfl
  | _ :: _, [], s => rfl
  | d :: ds, c :: cs, s => by
    show run t s (List.replicate c d ++ rowOf ds cs) = _
    rw [run_append, run_rep, run_rowOf ds cs, ledc_cons]
theorem rowOf_mem {deeds counts : List Nat} {x : Nat} (h : x ∈ rowOf deeds counts) : x ∈ deeds := by
  unfold rowOf at h
  obtain ⟨p, hp, hx⟩ := List.mem_flatMap.mp h
  rw [List.eq_of_mem_replicate hx]
  exact (List.of_mem_zip hp).1
/-- three states led by counts tell the join -/
theorem told_led {t : List (List Nat)} {S : Nat → Prop} (cs : Cset t S) {first : Nat} (h0 : S first) {deeds ra rb rc : List Nat} (hd : ∀ d ∈ deeds, d < t.length) (la : ra.length = deeds.length) (lb : rb.length = deeds.length) (lc : rc.length = deeds.length)
    (h1 : ∀ j, rc.getD j 0 ≤ ra.getD j 0) (h2 : ∀ j, rc.getD j 0 ≤ rb.getD j 0) : Told t (ledc t first deeds rc) (ledc t first deeds ra) (ledc t first deeds rb) (ledc t first deeds (joinRow ra rb rc)) := by
  have gz : ∀ (f : Nat → Nat → Nat) (a b : List Nat) (j : Nat), a.length = deeds.length → b.length = deeds.length → j < deeds.length → (List.zipWith f a b).getD j 0 = f (a.getD j 0) (b.getD j 0) := fun f a b j ha hb hj => by
    refine getD_of ?_
    rw [List.getElem?_zipWith, getD_at (d := 0) (show j < a.length by omega), getD_at (d := 0) (show j < b.length by omega)]
  have lz : ∀ (f : Nat → Nat → Nat) (a b : List Nat), a.length = deeds.length → b.length = deeds.length → (List.zipWith f a b).length = deeds.length := fun f a b ha hb => by rw [List.length_zipWith]; omega
  have ext : ∀ a b : List Nat, a.length = deeds.length → b.length = deeds.length → (∀ j, j < deeds.length → a.getD j 0 = b.getD j 0) → a = b := fun a b ha hb h => by
    refine List.ext_getElem (ha.trans hb.symm) fun j j1 j2 => ?_
    have := h j (by omega)
    rw [getD_lt j1, getD_lt j2] at this
    exact this
  have x1 := lz (· - ·) ra rc la lc
  have x2 := lz (· - ·) rb rc lb lc
  have e1 : ra = List.zipWith (· + ·) rc (List.zipWith (· - ·) ra rc) := ext _ _ la (lz _ _ _ lc x1) fun j hj => by
    rw [gz _ _ _ j lc x1 hj, gz _ _ _ j la lc hj]
    have := h1 j
    omega
  have e2 : rb = List.zipWith (· + ·) rc (List.zipWith (· - ·) rb rc) := ext _ _ lb (lz _ _ _ lc x2) fun j hj => by
    rw [gz _ _ _ j lc x2 hj, gz _ _ _ j lb lc hj]
    have := h2 j
    omega
  have e3 : joinRow ra rb rc = List.zipWith (· + ·) rb (List.zipWith (· - ·) ra rc) := ext _ _ (join_len la lb lc) (lz _ _ _ lb x1) fun j hj => by
    rw [gz _ _ _ j lb x1 hj, gz _ _ _ j la lc hj, join_at la lb lc]
    have := h1 j
    have := h2 j
    omega
  have q1 : ledc t first deeds ra = ledc t (ledc t first deeds rc) deeds (List.zipWith (· - ·) ra rc) := by
    conv => lhs; rw [e1]
    exact cs.led_add deeds rc _ lc.symm x1.symm hd h0
  have q2 : ledc t first deeds rb = ledc t (ledc t first deeds rc) deeds (List.zipWith (· - ·) rb rc) := by
    conv => lhs; rw [e2]
    exact cs.led_add deeds rc _ lc.symm x2.symm hd h0
  have q3 : ledc t first deeds (joinRow ra rb rc) = ledc t (ledc t first deeds rb) deeds (List.zipWith (· - ·) ra rc) := by
    rw [e3]
    exact cs.led_add deeds rb _ lb.symm x1.symm hd h0
  have sa := cs.led deeds rc hd h0
  have un : ∀ row, (∀ d ∈ row, d < t.length) → run t (ledc t first deeds rc) row = ledc t first deeds rb → run t (ledc t first deeds ra) row = ledc t first deeds (joinRow ra rb rc) := fun row hr e => by
    rw [q1, cs.run_led hd row hr sa, e, q3]
  refine ⟨⟨rowOf deeds (List.zipWith (· - ·) rb rc), fun d h => hd d (rowOf_mem h), ?_, ?_⟩, un⟩
  · rw [run_rowOf, q2]
  · exact un _ (fun d h => hd d (rowOf_mem h)) (by rw [run_rowOf, q2])
end Hb
/-! Mt8: a net's states are the first state led by the counts. -/
namespace Hb
open PySem L2 Mc Ly
theorem bookOf_snoc {h : Nat} {ts : List Tie} {ss : List Stp} {s : Stp} : bookOf h ts (ss ++ [s]) = hearB ts (bookAt h ts (deedsOf (ss ++ [s])).length ss) s := bookAt_snoc
theorem bookOf_meet {h : Nat} {ts : List Tie} {ss : List Stp} {i : Nat} : bookOf h ts (ss ++ [.meet i]) = hearB ts (bookOf h ts ss) (.meet i) := by
  rw [bookOf_snoc, deedsOf_append, List.length_append]; rfl
theorem row_ext {a b : List Nat} (hl : a.length = b.length) (h : ∀ j, j < a.length → a.getD j 0 = b.getD j 0) : a = b :=
  List.ext_getElem hl fun j j1 j2 => by
    have := h j j1
    rw [getD_lt j1, getD_lt j2] at this
    exact this
theorem snoc_at {l : List Nat} {x j : Nat} : (l ++ [x]).getD j 0 = if j < l.length then l.getD j 0 else if j = l.length then x else 0 := by
  rw [List.getD_eq_getElem?_getD]; by_cases h : j < l.length
  · rw [List.getElem?_append_left h, if_pos h, ← List.getD_eq_getElem?_getD]
  · rw [List.getElem?_append_right (by omega), if_neg h]
    by_cases e : j = l.length
    · subst e; simp
    · rw [if_neg e, List.getElem?_eq_none (by show 1 ≤ _; omega)]; rfl
section
variable {h : Nat} {ts : List Tie} (w : WOk h ts) {ss : List Stp} (hok : ∀ s ∈ ss, sok h ts.length 8 s = true)
include w hok
theorem rows_actH {v k u : Nat} (hv : v < h) (hu : u < h) : (bookOf h ts (ss ++ [.act v k])).hs.getD u [] = (bookOf h ts ss).hs.getD u [] ++ [if u = v then 1 else 0] := by
  have ln : (deedsOf (ss ++ [Stp.act v k])).length = (deedsOf ss).length + 1 := by rw [deedsOf_append, List.length_append]; rfl
  have o1 := book_ok w ss (acts := (deedsOf ss).length + 1) (by omega) hok
  have wh := whole w (acts := (deedsOf ss).length + 1) ss (by omega) hok
  have o0 : BkOk h ts (deedsOf ss).length (bookOf h ts ss) := book_ok w ss (Nat.le_refl _) hok
  obtain ⟨sm, _⟩ := same_at w (a := (deedsOf ss).length + 1) (b := (deedsOf ss).length) ss (by omega) (Nat.le_refl _) hok
  have o2 := o1.hear w (st := .act v k) ⟨hv, by rw [wh.acted]; omega⟩
  rw [bookOf_snoc, ln]
  have l2 := o2.hr _ (getD_mem (d := []) (show u < _ by rw [o2.hl]; exact hu))
  have l0 := o0.hr _ (getD_mem (d := []) (show u < _ by rw [o0.hl]; exact hu))
  refine row_ext (by rw [l2, List.length_append, l0]; rfl) fun j hj => ?_
  rw [l2] at hj
  rw [snoc_at, l0]
  show at2 _ u j = _
  rw [hear_act o1 hv (by rw [wh.acted]; omega), wh.acted]
  by_cases e : j < (deedsOf ss).length
  · rw [if_pos e, if_neg (fun z => by omega), sm]; rfl
  · have ej : j = (deedsOf ss).length := by omega
    rw [if_neg e, if_pos ej, wh.zh u j (by omega)]
    by_cases eu : u = v
    · rw [if_pos ⟨eu, ej⟩, if_pos eu]
    · rw [if_neg (fun z => eu z.1), if_neg eu]
theorem rows_actT {v k i : Nat} (hv : v < h) (hi : i < ts.length) : (bookOf h ts (ss ++ [.act v k])).tz.getD i [] = (bookOf h ts ss).tz.getD i [] ++ [0] := by
  have ln : (deedsOf (ss ++ [Stp.act v k])).length = (deedsOf ss).length + 1 := by rw [deedsOf_append, List.length_append]; rfl
  have o1 := book_ok w ss (acts := (deedsOf ss).length + 1) (by omega) hok
  have wh := whole w (acts := (deedsOf ss).length + 1) ss (by omega) hok
  have o0 : BkOk h ts (deedsOf ss).length (bookOf h ts ss) := book_ok w ss (Nat.le_refl _) hok
  obtain ⟨_, sm⟩ := same_at w (a := (deedsOf ss).length + 1) (b := (deedsOf ss).length) ss (by omega) (Nat.le_refl _) hok
  rw [bookOf_snoc, ln]
  show (bookAt h ts ((deedsOf ss).length + 1) ss).tz.getD i [] = _
  have l2 := o1.tr _ (getD_mem (d := []) (show i < _ by rw [o1.tl]; exact hi))
  have l0 := o0.tr _ (getD_mem (d := []) (show i < _ by rw [o0.tl]; exact hi))
  refine row_ext (by rw [l2, List.length_append, l0]; rfl) fun j hj => ?_
  rw [l2] at hj
  rw [snoc_at, l0]
  show at2 _ i j = _
  by_cases e : j < (deedsOf ss).length
  · rw [if_pos e, sm]; rfl
  · have ej : j = (deedsOf ss).length := by omega
    rw [if_neg e, if_pos ej, wh.zt i j (by omega)]
end
/-- states and archives are the first state led by their counts -/
structure Led (t : List (List Nat)) (h : Nat) (ts : List Tie) (first : Nat) (ss : List Stp) (sts ars : List Nat) : Prop where
  l1 : sts.length = h
  l2 : ars.length = ts.length
  e1 : ∀ v, v < h → sts.getD v 0 = ledc t first (deedsOf ss) ((bookOf h ts ss).hs.getD v [])
  e2 : ∀ i, i < ts.length → ars.getD i 0 = ledc t first (deedsOf ss) ((bookOf h ts ss).tz.getD i [])
theorem Led.start {t : List (List Nat)} {h : Nat} {ts : List Tie} {first : Nat} : Led t h ts first [] (List.replicate h first) (List.replicate ts.length first) :=
  ⟨List.length_replicate, List.length_replicate, fun v hv => by rw [rep_getD, if_pos hv]; rfl, fun i hi => by rw [rep_getD, if_pos hi]; rfl⟩
section
variable {t : List (List Nat)} {n h : Nat} {ts : List Tie} {first : Nat} {ss : List Stp} {sts ars : List Nat}
theorem Led.act {v k : Nat} (l : Led t h ts first ss sts ars) (w : WOk h ts) (hok : ∀ s ∈ ss, sok h ts.length 8 s = true) (hv : v < h) : Led t h ts first (ss ++ [.act v k]) (sts.set v (step t (sts.getD v 0) k)) ars := by
  have o0 : BkOk h ts (deedsOf ss).length (bookOf h ts ss) := book_ok w ss (Nat.le_refl _) hok
  have ed : deedsOf (ss ++ [Stp.act v k]) = deedsOf ss ++ [k] := deedsOf_append _ _
  refine ⟨by rw [List.length_set]; exact l.l1, l.l2, fun u hu => ?_, fun i hi => ?_⟩
  · rw [getD_set (by rw [l.l1]; exact hv), ed, rows_actH w hok hv hu, ledc_snoc (o0.hr _ (getD_mem (show u < _ by rw [o0.hl]; exact hu))).symm, ← l.e1 u hu]
    by_cases e : u = v
    · rw [if_pos e, if_pos e, e]; rfl
    · rw [if_neg e, if_neg e]; rfl
  · rw [ed, rows_actT w hok hv hi, ledc_snoc (o0.tr _ (getD_mem (show i < _ by rw [o0.tl]; exact hi))).symm, ← l.e2 i hi]
    rfl
theorem deeds_all {m : Nat} (hk : ∀ s ∈ ss, sok h m t.length s = true) : ∀ d ∈ deedsOf ss, d < t.length := deeds_lt hk
theorem Led.meet {i : Nat} {p : Tie} (l : Led t h ts first ss sts ars) (cm : CMach t n first) (w : WOk h ts) (hok : ∀ s ∈ ss, sok h ts.length t.length s = true) (hi : ts[i]? = some p) :
    ∃ b, Told t (ars.getD i 0) (sts.getD p.1 0) (sts.getD p.2 0) b ∧ Led t h ts first (ss ++ [.meet i]) ((sts.set p.1 b).set p.2 b) (ars.set i b) := by
  obtain ⟨ok, lt, S, s0, s1, s2, s3⟩ := cm
  have cs : Cset t S := ⟨s2, s3⟩
  have hok8 : ∀ s ∈ ss, sok h ts.length 8 s = true := fun s hs => sok_mono ok.d8 (hok s hs)
  have o0 : BkOk h ts (deedsOf ss).length (bookOf h ts ss) := book_ok w ss (Nat.le_refl _) hok8
  obtain ⟨p1, p2, p3⟩ := w.tie p (List.mem_of_getElem? hi)
  have hil := lt_of_get hi
  have k1 : p.1 < (bookOf h ts ss).hs.length := by rw [o0.hl]; exact p1
  have k2 : p.2 < (bookOf h ts ss).hs.length := by rw [o0.hl]; exact p2
  have k3 : i < (bookOf h ts ss).tz.length := by rw [o0.tl]; exact hil
  have td := told_led cs s0 (deeds_all hok) (o0.hr _ (getD_mem (d := []) k1)) (o0.hr _ (getD_mem (d := []) k2)) (o0.tr _ (getD_mem (d := []) k3)) (fun j => (o0.le i p j hi).1) (fun j => (o0.le i p j hi).2)
  refine ⟨ledc t first (deedsOf ss) (joinRow ((bookOf h ts ss).hs.getD p.1 []) ((bookOf h ts ss).hs.getD p.2 []) ((bookOf h ts ss).tz.getD i [])), ?_, by rw [List.length_set, List.length_set]; exact l.l1, by rw [List.length_set]; exact l.l2, fun u hu => ?_, fun j hj => ?_⟩
  · rw [l.e1 _ p1, l.e1 _ p2, l.e2 _ hil]; exact td
  · have ed : deedsOf (ss ++ [Stp.meet i]) = deedsOf ss := by rw [deedsOf_append]; exact List.append_nil _
    rw [ed, bookOf_meet, getD_set (by rw [List.length_set, l.l1]; exact p2), getD_set (by rw [l.l1]; exact p1)]
    show _ = ledc t first (deedsOf ss) (((((bookOf h ts ss).hs.set (ts.getD i (0, 0)).1 _).set (ts.getD i (0, 0)).2 _)).getD u [])
    rw [tie_getD hi, getD_set (by rw [List.length_set]; exact k2), getD_set k1]
    by_cases e2 : u = p.2
    · rw [if_pos e2, if_pos e2]
    · rw [if_neg e2, if_neg e2]
      by_cases e1 : u = p.1
      · rw [if_pos e1, if_pos e1]
      · rw [if_neg e1, if_neg e1]; exact l.e1 u hu
  · have ed : deedsOf (ss ++ [Stp.meet i]) = deedsOf ss := by rw [deedsOf_append]; exact List.append_nil _
    rw [ed, bookOf_meet, getD_set (by rw [l.l2]; exact hil)]
    show _ = ledc t first (deedsOf ss) (((bookOf h ts ss).tz.set i _).getD j [])
    rw [tie_getD hi, getD_set k3]
    by_cases e : j = i
    · rw [if_pos e, if_pos e]
    · rw [if_neg e, if_neg e]; exact l.e2 j hj
theorem Led.st (l : Led t h ts first ss sts ars) (ok : MOk t n) (lt : first < n) (hok : ∀ s ∈ ss, sok h ts.length t.length s = true) : NSt ⟨t, n, h, ts, first⟩ sts ars := by
  have hd := deeds_all hok
  refine ⟨l.l1, fun x hx => ?_, l.l2, fun x hx => ?_⟩
  · obtain ⟨j, hj⟩ := List.getElem?_of_mem hx
    have hjl : j < h := by have := lt_of_get hj; rw [l.l1] at this; exact this
    have e : sts.getD j 0 = x := getD_of hj
    rw [← e, l.e1 j hjl]
    exact ledc_lt (s := first) ok _ _ hd lt
  · obtain ⟨j, hj⟩ := List.getElem?_of_mem hx
    have hjl : j < ts.length := by have := lt_of_get hj; rw [l.l2] at this; exact this
    have e : ars.getD j 0 = x := getD_of hj
    rw [← e, l.e2 j hjl]
    exact ledc_lt (s := first) ok _ _ hd lt
end
end Hb
/-! Df22: whether states and archives are those of their counts. -/
namespace Hb
open PySem L2 Mc Ly
def min1D : D → D
  | .raw (.int i) => .int (if i < 1 then i else 1)
  | x => x
theorem min1_row {r : List Nat} : (nD r).map min1D = nD (r.map fun c => min 1 c) := by
  unfold nD
  rw [List.map_map]; rw [List.map_map]
  refine List.map_congr_left fun c _ => ?_
  show D.int (if (c : Int) < 1 then (c : Int) else 1) = D.int ((min 1 c : Nat) : Int)
  by_cases h : c < 1
  · rw [if_pos (by omega), show min 1 c = c by omega]
  · rw [if_neg (by omega), show min 1 c = 1 by omega]; rfl
section
variable {P : Program} {wd : World} {K : PySem.W.Frag} {mg : Str → Option Value} {base : Heap} (B : Blt mg) (G : Gc mg) {Cm Cw Cn : Addr} (T : MK K mg Cm) (W : WK K mg Cw) (N : NK K mg Cn)
abbrev s80 : Stmt := top 80
abbrev N80 : List Str := ["_law_machine_here", "_law_web_here", "_law_first", "_law_steps_here", "_law_net", "_law_counts", "_law_deeds", "_law_tables", "_law_house", "_law_due", "_law_plain", "_law_count", "_law_tie"]
theorem sc80 : FnScope N80 ["_law_machine_here", "_law_web_here", "_law_first", "_law_steps_here", "_law_net", "_law_counts", "_law_deeds"] (defScope s80) := ⟨rfl, rfl, rfl, by decide +kernel, rfl, by decide +kernel, by decide +kernel⟩
abbrev RShown (Cm Cw Cn : Addr) : List D → D → Prop := fun ds d => ∃ (t : List (List Nat)) (n h : Nat) (ts : List Tie) (first : Nat) (y : D) (ys : List D) (ss : List Stp) (sts ars : List Nat) (sp : List Stp),
  ds = [machD Cm t n, webD Cw h ts, .int (first : Int), y, .ins Cn (netF Cm Cw ⟨t, n, h, ts, first⟩ sts ars sp), cD (bookOf h ts ss), .tup (nD (deedsOf ss))] ∧ MOk t n ∧ first < n ∧ WOk h ts ∧ SqD y ys ∧ Sts ys ss ∧ ss.length ≤ 19 ∧ (∀ s ∈ ss, sok h ts.length t.length s = true) ∧ Led t h ts first ss sts ars ∧ d = .bl true
include B T W N in
theorem ok80 {f : Addr} {fd : FuncData} (F : Df K mg "_law_is_shown" s80 f fd) (C72 : Cal P wd K mg base "_law_led" 1 ["_law_tables", "_law_first", "_law_deeds", "_law_counts"] (spD RLedL)) (C62 : Cal P wd K mg base "led_counts" 7 ["machine", "first", "deeds", "counts"] (spD (RLed Cm)))
    (C63 : Cal P wd K mg base "plain_state" 9 ["machine", "web", "first", "steps", "house"] (spD (RPlain Cm Cw))) : CalG P wd K mg base "_law_is_shown" 10 ["_law_machine_here", "_law_web_here", "_law_first", "_law_steps_here", "_law_net", "_law_counts", "_law_deeds"] (spD (RShown Cm Cw Cn)) := by
  refine calG_pure F.F sc80 F.g (F.F.binds fun _ _ _ _ _ _ us hl => match us, hl with | [_, _, _, _, _, _, _], _ => rfl) (fun ds d ⟨_, _, _, _, _, _, _, _, _, _, _, e, _⟩ => by rw [e]; rfl) ?_
  rintro cdv A outer s HH Er fm gd ds d ⟨t, n, h, ts, first, y, ys, ss, sts, ars, sp, rfl, om, of, w, sq, sts', l19, hok, led, rfl⟩ M0 H0 σ D0 c q
  have h12 := w.h12
  have t20 := w.t20
  have hok8 : ∀ s ∈ ss, sok h ts.length 8 s = true := fun s hs => sok_mono om.d8 (hok s hs)
  have wh := whole w (acts := (deedsOf ss).length) ss (Nat.le_refl _) hok8
  have bo : BkOk h ts (deedsOf ss).length (bookOf h ts ss) := wh.ok
  have p2 : 2 ^ ss.length ≤ 2 ^ 19 := Nat.pow_le_pow_right (by decide) l19
  have hd := deeds_lt hok
  have dl := deedsOf_len (ss := ss)
  have bh : ∀ v, ∀ x ∈ (bookOf h ts ss).hs.getD v [], x ≤ 1000000 := fun v x hx => by
    rcases List.getElem?_of_mem hx with ⟨j, hj⟩
    have e : ((bookOf h ts ss).hs.getD v []).getD j 0 = x := getD_of hj
    have : at2 (bookOf h ts ss).hs v j ≤ _ := wh.bh v j
    unfold at2 at this
    have : (2 : Nat) ^ 19 = 524288 := rfl
    omega
  have bt : ∀ v, ∀ x ∈ (bookOf h ts ss).tz.getD v [], x ≤ 1000000 := fun v x hx => by
    rcases List.getElem?_of_mem hx with ⟨j, hj⟩
    have e : ((bookOf h ts ss).tz.getD v []).getD j 0 = x := getD_of hj
    have : at2 (bookOf h ts ss).tz v j ≤ _ := wh.bt v j
    unfold at2 at this
    have : (2 : Nat) ^ 19 = 524288 := rfl
    omega
  have rows : ∀ v, v < h → (tT (bookOf h ts ss).hs)[v]? = some (.tup (nD ((bookOf h ts ss).hs.getD v []))) ∧ ((bookOf h ts ss).hs.getD v []).length = (deedsOf ss).length := fun v hv => by
    have hv' : v < (bookOf h ts ss).hs.length := by rw [bo.hl]; exact hv
    exact ⟨tT_at hv', bo.hr _ (getD_mem hv')⟩
  have rowt : ∀ i, i < ts.length → (tT (bookOf h ts ss).tz)[i]? = some (.tup (nD ((bookOf h ts ss).tz.getD i []))) ∧ ((bookOf h ts ss).tz.getD i []).length = (deedsOf ss).length := fun i hi => by
    have hi' : i < (bookOf h ts ss).tz.length := by rw [bo.tl]; exact hi
    exact ⟨tT_at hi', bo.tr _ (getD_mem hi')⟩
  have small : ∀ z, z < n → Shw (.int ((z : Nat) : Int)) := fun z hz => shw_int (by have := om.n12; have : (2 : Nat) ^ 20 = 1048576 := rfl; omega)
  refine b_cons (k_set fm 7 c (w_fld fm (w_nm 0 (fun _ => rfl) rfl) T.kl.cl T.tables rfl) (fun _ => rfl) fun σ M H c => ?_)
  refine b_cons (k_forB fm (G := Unit) (fun _ _ => True) (fun _ => []) (fun _ => [some (machD Cm t n), some (webD Cw h ts), some (.int (first : Int)), some y, some (.ins Cn (netF Cm Cw ⟨t, n, h, ts, first⟩ sts ars sp)), some (cD (bookOf h ts ss)), some (.tup (nD (deedsOf ss))), some (.tup (tT t)), none, none, none, none, none]) () (f1 8) c (i_rg1 fm B (w_fld fm (w_nm 1 (fun _ => rfl) rfl) W.kl.cl W.houses rfl)) trivial rfl (fun _ _ _ σ M H c => c) (fun i d h => (g_name fm 8 (fun _ => rfl))) (fun M1 H1 lf v d x σ M H hi hP c D1 e1 e2 kn => ?_) (fun x σ M H hP c => ?_) (fun _ => passes_of rfl))
  · obtain ⟨hv, rfl⟩ := rgD_get hi
    rw [Int.toNat_natCast] at hv
    rw [show (0 : Int) + (v : Int) = (v : Int) by omega] at c
    obtain ⟨r1, r2⟩ := rows v hv
    have es := led.e1 v hv
    have esn : ledc t first (deedsOf ss) ((bookOf h ts ss).hs.getD v []) < n := ledc_lt (s := first) om _ _ hd of
    have pl := plain_led (t := t) (s := first) (deedsOf ss) ((bookOf h ts ss).hs.getD v []) r2.symm
    have pln : ledc t first (deedsOf ss) (((bookOf h ts ss).hs.getD v []).map fun c => min 1 c) < n := ledc_lt (s := first) om _ _ hd of
    have hb := bh v
    have eP : run t first (plainRow ss ((bookOf h ts ss).hs.getD v [])) = ledc t first (deedsOf ss) (((bookOf h ts ss).hs.getD v []).map fun c => min 1 c) := pl
    refine b_cons (k_set fm 9 c (w_call fm C72 (a_cons (w_nm 7 (fun _ => rfl) rfl) (a_cons (w_nm 2 (fun _ => rfl) rfl) (a_cons (w_nm 6 (fun _ => rfl) rfl) (a_cons (w_ix fm (w_ix fm (w_nm 5 (fun _ => rfl) rfl) w_int qT rfl) (w_nm 8 (fun _ => rfl) rfl) qT (atI_of v r1)) a_nil)))) ⟨t, n, first, deedsOf ss, _, _, rfl, qT, om, of, hd, r2, hb, rfl⟩) (fun _ => rfl) fun σ M H c => ?_)
    refine b_cons (k_if (g := false) c (et_eq (t_pw (v_or (t_cmp (w_ix fm (w_fld fm (w_nm 4 (fun _ => rfl) rfl) N.kl.cl N.states rfl) (w_nm 8 (fun _ => rfl) rfl) qT (atI_of v (nD_at (by rw [led.l1]; exact hv)))) (w_nm 9 (fun _ => rfl) rfl) cm_neS) fun h1 => (v_or1 (t_cmp (w_repr fm gd B (w_call fm C62 (a_cons (w_nm 0 (fun _ => rfl) rfl) (a_cons (w_nm 2 (fun _ => rfl) rfl) (a_cons (w_nm 6 (fun _ => rfl) rfl) (a_cons (w_ix fm (w_ix fm (w_nm 5 (fun _ => rfl) rfl) w_int qT rfl) (w_nm 8 (fun _ => rfl) rfl) qT (atI_of v r1)) a_nil)))) ⟨t, n, first, deedsOf ss, _, rfl, om, of, hd, by omega, r2, rfl⟩) (.int _) (small _ esn)) (w_repr fm gd B (w_nm 9 (fun _ => rfl) rfl) (.int _) (small _ esn)) cm_neS)))) ?_) (fun hh M H c => nomatch hh) fun hh M H c => b_nil ?_)
    · rw [es, decide_eq_true rfl, decide_eq_true rfl]; rfl
    refine b_cons (k_set fm 10 c (w_call fm C72 (a_cons (w_nm 7 (fun _ => rfl) rfl) (a_cons (w_nm 2 (fun _ => rfl) rfl) (a_cons (w_nm 6 (fun _ => rfl) rfl) (a_cons (E.eq (w_lc fm [("_law_count", 11)] (blkOk_by (sc := defScope s80) (by decide +kernel)) (fun _ => rfl) (fun _ => true) min1D (f1 11) (i_sq fm (w_ix fm (w_ix fm (w_nm 5 (fun _ => rfl) rfl) w_int qT rfl) (w_nm 8 (fun _ => rfl) rfl) qT (atI_of v r1)) qT) (by rw [nD_len]; omega) (fun i d h => (cw_name (Fam.blk fm) 11 (fun _ => rfl) (by decide))) (fun i d h => ts_nil) (fun i d h hq => ?_)) (congrArg Ly.D.lst (keep_all.trans min1_row))) a_nil)))) ⟨t, n, first, deedsOf ss, _, _, rfl, qL, om, of, hd, by rw [List.length_map]; exact r2, fun x hx => ?_, rfl⟩) (fun _ => rfl) fun σ M H c => ?_)
    · obtain ⟨z, hz, rfl⟩ := nD_get h
      exact w_min2 (Fam.blk fm) B w_int (w_nm 11 (fun _ => rfl) rfl)
    · obtain ⟨z, hz, rfl⟩ := List.mem_map.mp hx
      omega
    refine b_one (k_if (g := false) c (et_eq (t_cmp (w_repr fm gd B (E.eq (w_call fm C63 (a_cons (w_nm 0 (fun _ => rfl) rfl) (a_cons (w_nm 1 (fun _ => rfl) rfl) (a_cons (w_nm 2 (fun _ => rfl) rfl) (a_cons (w_nm 3 (fun _ => rfl) rfl) (a_cons (w_nm 8 (fun _ => rfl) rfl) a_nil))))) ⟨t, n, h, ts, first, y, ys, ss, v, rfl, om, of, w, sq, sts', by omega, hok, hv, rfl⟩) (congrArg (fun z : Nat => Ly.D.int (z : Int)) eP)) (.int _) (small _ pln)) (w_repr fm gd B (w_nm 10 (fun _ => rfl) rfl) (.int _) (small _ pln)) cm_neS) ?_) (fun hh M H c => nomatch hh) fun hh M H c => b_nil ?_)
    · rw [decide_eq_true rfl]; rfl
    exact kn () _ _ _ trivial ((((c.forget 8).forget 9).forget 10).forget 11)
  · refine b_one (k_ret c (E.eq (w_all fm B (bs := (List.range ts.length).map fun _ => true) (w_lc fm [("_law_tie", 12)] (blkOk_by (sc := defScope s80) (by decide +kernel)) (fun _ => rfl) (fun _ => true) (fun _ => .bl true) (f1 12) (i_rg1 fm B (w_len fm B (w_fld fm (w_nm 1 (fun _ => rfl) rfl) W.kl.cl W.ties rfl) qT) (by rw [pT_len]; omega)) (by rw [rgD_len, Int.toNat_natCast, pT_len]; omega) (fun i d h => (cw_name (Fam.blk fm) 12 (fun _ => rfl) (by decide))) (fun i d h => ts_nil) (fun i d h hq => ?_)) ?_) ?_) fun v M H c r => q v _ _ M H c r)
    · obtain ⟨hi, rfl⟩ := rgD_get h
      rw [Int.toNat_natCast, pT_len] at hi
      rw [show (0 : Int) + (i : Int) = (i : Int) by omega]
      obtain ⟨r1, r2⟩ := rowt i hi
      refine E.eq (w_cmp (w_ix (Fam.blk fm) (w_fld (Fam.blk fm) (w_nm 4 (fun _ => rfl) rfl) N.kl.cl N.archives rfl) (w_nm 12 (fun _ => rfl) rfl) qT (atI_of i (nD_at (by rw [led.l2]; exact hi)))) (w_call (Fam.blk fm) C72 (a_cons (w_nm 7 (fun _ => rfl) rfl) (a_cons (w_nm 2 (fun _ => rfl) rfl) (a_cons (w_nm 6 (fun _ => rfl) rfl) (a_cons (w_ix (Fam.blk fm) (w_ix (Fam.blk fm) (w_nm 5 (fun _ => rfl) rfl) w_int qT rfl) (w_nm 12 (fun _ => rfl) rfl) qT (atI_of i r1)) a_nil)))) ⟨t, n, first, deedsOf ss, _, _, rfl, qT, om, of, hd, r2, bt i, rfl⟩) cm_eqS) ?_
      rw [led.e2 i hi, decide_eq_true rfl]
    · rw [keep_all, Int.toNat_natCast, pT_len]
      unfold rgD
      rw [List.map_map]; rw [List.map_map]
      rfl
    · rw [List.all_map]
      have : (List.range ts.length).all (id ∘ fun _ => true) = true := List.all_eq_true.mpr fun _ _ => rfl
      rw [this]
end
end Hb
/-! Ex3: several except clauses that name what they catch. -/
namespace Exm
open L2 PySem PyProof.Rows PySem.Spec
/-- behind a suite its name is gone -/
def Dz (i : Nat) (D : Ends) : Ends := { nx := fun σ H => D.nx (σ.set i none) H, rt := D.rt, bk := fun σ H => D.bk (σ.set i none) H, ct := fun σ H => D.ct (σ.set i none) H }
abbrev Suite : Type := Value × (Addr → Value → Option Addr → TS)
/-- what the clauses wish, one after the other -/
def wManyAs (K : PySem.W.Frag) (i : Nat) (W0 : WX) (D : Ends) : List Suite → WX
  | [] => W0
  | p :: ps => fun cls d σ H => ∃ hit, PySem.W.exmOne K cls p.1 = some hit ∧ (hit = true → ∀ e, H e = none → p.2 e cls d (Dz i D) (σ.set i (some (.ref e))) H) ∧ (hit = false → wManyAs K i W0 D ps cls d σ H)
inductive HdsAs (X : Cx) (n : Str) : List ExceptHandler → List Suite → Prop
  | nil : HdsAs X n [] []
  | cons {x : Str} {c : Value} {ts : Addr → Value → Option Addr → TS} {st : Stmt} {rest : List Stmt} {p1 p2 : Pos} {hds : List ExceptHandler} {l : List Suite} (nm : Names X x c)
      (su : ∀ (e : Addr) (oe : Obj) (cls : Value) (d : Option Addr) (pn : List (Addr × Obj)), Zc cls d oe → (∃ vs, oe.data = .fields vs) → PSs (X.suite e ((e, oe) :: pn)) (st :: rest) (ts e cls d)) (r : HdsAs X n hds l) :
      HdsAs X n (.ExceptHandler (some (.Name x p1)) (some n) (st :: rest) p2 :: hds) ((c, ts) :: l)
section
variable {X : Cx} {n : Str} {i : Nat} {body : List Stmt} {hd0 : ExceptHandler} {hds : List ExceptHandler} {l : List Suite} {pos : Pos} {tb : WX → TS} {W0 : WX}
theorem ps_try_manyAs (stk : X.stack = X.env :: X.outer) (frm : X.env.frame = some X.env.locals) (nd : X.N.Nodup) (at_ : X.N[i]? = some n) (loc : X.env.kindOf n = some .local) (tk : Takes X W0)
    (bd : ∀ (W : WX) (pn : List (Addr × Obj)) (xe : Value → Shared → Prop), Takes (X.tr pn xe) W → PassesOwn (model X.prog X.w) X.A X.env xe → PSs (X.tr pn xe) body (tb W)) (hh : HdsAs X n (hd0 :: hds) l) :
    PS X (.Try body (hd0 :: hds) [] [] pos) (fun D σ H => tb (wManyAs X.K i W0 D l) D σ H) := by
  refine ⟨fun pins s σ H D I hw => ?_⟩; have okX := I.ok
  have frames : X.A.frames = some (X.env :: X.outer) := by rw [okX.frames, stk]
  have hLoc : Loc X.env.scope n := .inl loc
  refine wpAny_Try_except (wpAny_mono ((bd (wManyAs X.K i W0 D l) (X.pn ++ pins) (fun e sA => wpAny (model X.prog X.w) X.A (noteFrame e X.env) (fun _ sB => wpAny (model X.prog X.w) X.A (setFlight e none) (fun _ sC =>
    wpAny (model X.prog X.w) X.A (handleBy e X.env (hd0 :: hds)) (SP X pins D) X.xe sC) X.xe sB) X.xe sA) (fun u sT xx => ?_) PassesOwn.looking).run [] s σ H D (I.toTry _) hw) (fun fl sE hsp => ?_) (fun e sE he => he))
  · obtain ⟨e, B, sI, pI, σT, HT, cls, d, rfl, J0, big, up, sky, ne, oss, gens, w⟩ := xx
    have J : Inv X pins σT HT sI := J0.ofTry okX
    have sk : Sky B (X.env :: X.outer) e (Zc cls d) X.env.locals sT.heap := by rw [← stk]; exact sky
    show wpAny (model X.prog X.w) X.A (noteFrame (.ref e) X.env) _ _ _
    refine Sky.land Zc.steady frames frm sk fun hp fl upL => ?_
    have JL : Inv X pins σT HT { sT with heap := hp } := J.landed big fl.1 (up.trans upL) oss gens
    obtain ⟨oL, vL, eL, zL, dL⟩ := fl.there
    have nFr : e ∉ frs (X.env :: X.outer) := fun hm => by
      obtain ⟨_, oo, eo, no⟩ := fl.2.2.1.mem hm
      rw [eL] at eo; cases eo
      exact no _ dL
    have nLoc : e ≠ X.env.locals := fun z => nFr (List.mem_filterMap.mpr ⟨X.env, List.mem_cons_self, by rw [frm, z]⟩)
    have nFs : e ∉ X.fs := fun hm => by
      obtain ⟨v, hv, q⟩ := List.mem_filterMap.mp hm
      exact nFr (List.mem_filterMap.mpr ⟨v, List.mem_cons_of_mem _ hv, q⟩)
    have SL := JL.suite eL dL ne nLoc nFs
    have walk : ∀ {hs : List ExceptHandler} {ps : List Suite}, HdsAs X n hs ps → wManyAs X.K i W0 D ps cls d σT HT → wpAny (model X.prog X.w) X.A (handleBy (.ref e) X.env hs) (SP X pins D) X.xe { sT with heap := hp } := by
      intro hs ps hk
      induction hk with
      | nil =>
        intro w
        refine wpAny_handleBy_nil ?_
        obtain ⟨_, _, _, oe, vs, Tb, oT, tsb, he, hz, hdd, h1, hr⟩ := id fl
        unfold PySem.passOn
        refine wpAny_bind (wpAny_field he hdd h1 ?_)
        rw [if_neg (show ¬ ((Value.ref Tb == Value.none) = true) from by simp)]
        have out : wpAny (model X.prog X.w) X.A (setFlight (.ref e) X.env.frame) (fun _ sF => wpAny (model X.prog X.w) X.A (throw (.ref e) : Sem Flow) (SP X pins D) X.xe sF) X.xe { sT with heap := hp } := by
          rw [frm]
          refine HandSPX.setFlight_upZ fl fun hq hhq upq => wpAny_throw (tk _ _ ?_)
          exact ⟨e, B, sI, pins, σT, HT, cls, d, rfl, J, big, (up.trans upL).trans upq, .inr (.inr (by rw [stk]; exact hhq)), ne, oss, gens, w⟩
        first
          | exact wpAny_bind (wpAny_pure (wpAny_bind out))
          | exact wpAny_bind out
      | @cons x c ts st rest p1 p2 hs2 l2 nm su r ih =>
        intro w
        obtain ⟨hit, hb, yes, no⟩ := w
        refine wpAny_handleBy_cons (codeAny_handlers_test ?_) (by intro q; cases q); have look : PySem.W.Looks (model X.prog X.w) hp (typeOf (.ref e)) cls := fun A Q Er z k q => wpAny_typeOf_ref (k _ _ eL) (by rw [zL.1]; exact q)
        have one := PySem.W.exm_one (M := model X.prog X.w) (JL.kIn) look hb
        have ld : ∀ {Q : Value → Shared → Prop} {Er : Value → Shared → Prop}, Q c { sT with heap := hp } → wpAny (model X.prog X.w) (X.A.mark (some (.ref e))) (eval (.Name x p1) X.env) Q Er { sT with heap := hp } := fun {Q Er} q => by
          obtain ⟨hg, hdbg, hm | ⟨hm, hv, hnn⟩⟩ := nm
          · exact ld_glob (X := X.suite e ((e, oL) :: (X.pn ++ pins))) SL hg hm q hdbg
          · exact ld_blt (X := X.suite e ((e, oL) :: (X.pn ++ pins))) SL hg hm hv q hnn hdbg
        refine ld (one.here ?_)
        cases hit with
        | true =>
          refine codeAny_handlers_suite_as ?_; refine HandSPX.lands_againZ fl fun hq flq upq => ?_
          have Jq : Inv X pins σT HT { sT with heap := hq } := J.landed big flq.1 ((up.trans upL).trans upq) oss gens
          obtain ⟨oq, vq, eq_, zq, dq⟩ := flq.there
          have Sq := Jq.suite eq_ dq ne nLoc nFs
          refine store_ok (X := X.suite e ((e, oq) :: (X.pn ++ pins))) (v := .ref e) Sq nd at_ hLoc rfl (fun sS SS => ?_) (.inr loc)
          refine wpAny_mono ((su e oq cls d (X.pn ++ pins) zq ⟨_, dq⟩).run [] sS _ HT _ SS (yes rfl e ne)) (fun f sR hsp => ?_) (fun _ _ z => False.elim z)
          have gone : ∀ {σR : L2.St} {HR : Hp} {Q : Shared → Prop}, Inv (X.suite e ((e, oq) :: (X.pn ++ pins))) [] σR HR sR → (∀ sZ, Inv X pins (σR.set i none) HR sZ → Q sZ) →
              wpAny (model X.prog X.w) X.A (do bindName X.env n .none; unbindBehindTheSuite X.env n p2) (fun _ sZ => Q sZ) X.xe sR := fun {σR HR Q} SR hq => gone_ok (SR.unsuite okX) nd at_ loc hq
          cases f with
          | next =>
            obtain ⟨σR, HR, SR, qR⟩ := hsp
            exact gone SR fun sZ JZ => ⟨_, _, JZ, qR⟩
          | brk =>
            obtain ⟨σR, HR, SR, qR⟩ := hsp
            exact gone SR fun sZ JZ => ⟨_, _, JZ, qR⟩
          | cont =>
            obtain ⟨σR, HR, SR, qR⟩ := hsp
            exact gone SR fun sZ JZ => ⟨_, _, JZ, qR⟩
          | ret u =>
            obtain ⟨vR, σR, HR, SR, rR, qR⟩ := hsp
            exact gone SR fun sZ JZ => ⟨_, _, _, JZ, rR, qR⟩
        | false =>
          show wpAny _ X.A (handleBy (.ref e) X.env hs2) _ _ _
          exact ih (no rfl)
    exact walk hh w
  · cases fl with
    | next =>
      obtain ⟨σE, HE, JE, q⟩ := hsp
      exact wpAny_execs_nil ⟨σE, HE, JE.ofTry okX, q⟩
    | brk =>
      obtain ⟨σE, HE, JE, q⟩ := hsp
      exact ⟨σE, HE, JE.ofTry okX, q⟩
    | cont =>
      obtain ⟨σE, HE, JE, q⟩ := hsp
      exact ⟨σE, HE, JE.ofTry okX, q⟩
    | ret u =>
      obtain ⟨vE, σE, HE, JE, r, q⟩ := hsp
      exact ⟨vE, σE, HE, JE.ofTry okX, r, q⟩
end
end Exm
/-! Ex4: what is refused, told as a list. -/
namespace Hb
open PySem PySem.Spec PyProof.Rows L2 Mc Ly Exm LamX
abbrev s78 : Stmt := top 78
abbrev N78 : List Str := ["_law_work", "error"]
theorem sc78 : FnScope N78 ["_law_work"] (defScope s78) := ⟨rfl, rfl, rfl, by decide +kernel, rfl, by decide +kernel, by decide +kernel⟩
/-- what is wished of an exception -/
def Wish (CB CH CS : Addr) (Q : VK) : XK := fun cls d H => ∃ (C : Addr) (w : Str) (f : Fl), (C, w, f) ∈ [(CB, ("steps" : Str), Fl.at_), (CH, ("house" : Str), Fl.house), (CS, ("state" : Str), Fl.state)] ∧ cls = .ref C ∧ ∃ (dd : Addr) (v : V), d = some dd ∧ H dd = some (.xd [(f.s, v)]) ∧ ∀ p, H p = none → Q (.ref p) (upd H p (.lst [.str w, v]))
/-- told: a call that raises, what comes of it -/
def TTbad (CB CH CS : Addr) : (XK → Hp → VK → Prop) → Hp → VK → Prop := fun tl H Q => tl (Wish CB CH CS Q) H (fun _ H' => ([] : List V).length ≤ sizeLine ∧ ∀ p, H' p = none → Q (.ref p) (upd H' p (.lst [])))
/-- the classes of exceptions told apart -/
structure Apart (K : PySem.W.Frag) (CB CH CS : Addr) : Prop where
  bb : PySem.W.exmOne K (.ref CB) (.ref CB) = some true
  hb : PySem.W.exmOne K (.ref CH) (.ref CB) = some false
  sb : PySem.W.exmOne K (.ref CS) (.ref CB) = some false
  hh : PySem.W.exmOne K (.ref CH) (.ref CH) = some true
  sh : PySem.W.exmOne K (.ref CS) (.ref CH) = some false
  ss : PySem.W.exmOne K (.ref CS) (.ref CS) = some true
theorem takes_len {X : Cx} {W : WX} (t : Takes X W) {n : Nat} (hn : X.N.length = n) : Takes X (fun cls d σ H => σ.length = n → W cls d σ H) := fun u sT ⟨a, B, sI, pins, σ, H, cls, d, e, I, nb, up, sky, na, os, ag, w⟩ =>
  t u sT ⟨a, B, sI, pins, σ, H, cls, d, e, I, nb, up, sky, na, os, ag, w (I.len.trans hn)⟩
theorem suite_ret {Y : Cx} {nm w a : Str} {f : Fl} {B NB newId initId : String} {tail : List Value} {C fI : Addr} (T : Exm.XT Y.prog Y.K Y.mg nm f B NB newId initId tail C fI) {e : Addr} {oe : Obj} {cls : Value} {d : Option Addr} {pn : List (Addr × Obj)} (hz : Zc cls d oe) (hf : ∃ vs, oe.data = .fields vs) {j : Nat} {p1 p2 p3 p4 p5 : Pos}
    (hN : Y.N[1]? = some a) (hv : Vis Y.env.scope a) (hd : (a == ("__debug__" : Str)) = false) (hcd : (a == ("__classdict__" : Str)) = false) (hb : attributeBase (.Name a p2) f.s Y.env (eval (.Name a p2) Y.env) = eval (.Name a p2) Y.env)
    (hs1 : starEach [.Constant (.str w) j p1, .Attribute (.Name a p2) f.s p3] (Y.suite e ((e, oe) :: pn)).env = (false, eval (.Constant (.str w) j p1) (Y.suite e ((e, oe) :: pn)).env) :: starEach [.Attribute (.Name a p2) f.s p3] (Y.suite e ((e, oe) :: pn)).env)
    (hs2 : starEach [.Attribute (.Name a p2) f.s p3] (Y.suite e ((e, oe) :: pn)).env = (false, eval (.Attribute (.Name a p2) f.s p3) (Y.suite e ((e, oe) :: pn)).env) :: starEach [] (Y.suite e ((e, oe) :: pn)).env) :
    PSs (Y.suite e ((e, oe) :: pn)) [.Return (some (.List [.Constant (.str w) j p1, .Attribute (.Name a p2) f.s p3] p4)) p5] (tRet (tLst (tCons (tC (.str w)) (tCons (tFldX C f.s e cls d (tVar 1)) tNil)))) :=
  pss_one (ps_ret (pe_lst (pa_cons pe_str (pa_cons (pe_fldX T hz hf (pe_var hN hv hd hcd) hb) pa_nil hs2) hs1)))
theorem bad_gives {X : Cx} {CB fB CH fH CS fS : Addr} (TB : XBS X.prog X.K X.mg CB fB) (TH : XNH X.prog X.K X.mg CH fH) (TS : XNS X.prog X.K X.mg CS fS) (ap : Apart X.K CB CH CS) {g : Addr} {cdg : Value} {q : Str} :
    GivesTo X N78 "_law_bad_steps" (defScope s78) g cdg (defBody s78) "_law_work" q (TTbad CB CH CS) := by
  intro f c' s H Q tl act hc h
  have nd : N78.Nodup := by decide +kernel
  refine ⟨_, pss_cons (ps_try_manyAs (X := (cxOf C8.CX0 X.prog X.w X.K X.mg X.base N78 "_law_bad_steps" (defScope s78) g cdg X.A X.stack s H C8.E0).nox) (i := 1) (n := "error") (W0 := fun _ _ _ _ => False)
      (tb := fun W D σ H => ∃ Ec : XK, (∀ cls d σ' H', Ec cls d H' → σ'.length = 2 → W cls d σ' H') ∧ σ[0]? = some (some (.ref f)) ∧ H c' = some (CodeO c' q) ∧ tl Ec H fun _ H' => D.nx σ H')
      rfl rfl nd rfl rfl LamX.takes0 (fun W pn xe tk _ => ?_)
      (.cons ⟨rfl, by decide, .inl TB.gC⟩ (fun e oe cls d pn hz hf => suite_ret (Y := (cxOf C8.CX0 X.prog X.w X.K X.mg X.base N78 "_law_bad_steps" (defScope s78) g cdg X.A X.stack s H C8.E0).nox) TB hz hf rfl (.inl rfl) (by decide) (by decide) rfl rfl rfl)
      (.cons ⟨rfl, by decide, .inl TH.gC⟩ (fun e oe cls d pn hz hf => suite_ret (Y := (cxOf C8.CX0 X.prog X.w X.K X.mg X.base N78 "_law_bad_steps" (defScope s78) g cdg X.A X.stack s H C8.E0).nox) TH hz hf rfl (.inl rfl) (by decide) (by decide) rfl rfl rfl)
      (.cons ⟨rfl, by decide, .inl TS.gC⟩ (fun e oe cls d pn hz hf => suite_ret (Y := (cxOf C8.CX0 X.prog X.w X.K X.mg X.base N78 "_law_bad_steps" (defScope s78) g cdg X.A X.stack s H C8.E0).nox) TS hz hf rfl (.inl rfl) (by decide) (by decide) rfl rfl rfl) .nil)))) (pss_one (ps_ret (pe_lst pa_nil))), ?_⟩
  · refine ⟨fun pins sT σ HT D I w => ?_⟩
    obtain ⟨Ec, h1, h2, h3, h4⟩ := w
    exact (pss_one (ps_expr (act _ pn xe Ec _ _ (takes_len (n := 2) tk rfl) h1))).run pins sT σ HT D I ⟨h2, h3, h4⟩
  · refine ⟨Wish CB CH CS Q, fun cls d σ' H' hw hl => ?_, rfl, hc, ?_⟩
    · obtain ⟨C, w, fl, hm, rfl, dd, v, rfl, hx, hq⟩ := hw
      have sl : ∀ e : Addr, (σ'.set 1 (some (V.ref e)))[1]? = some (some (.ref e)) := fun e => List.getElem?_set_self (by omega)
      simp only [List.mem_cons, List.not_mem_nil, or_false, Prod.mk.injEq] at hm
      rcases hm with ⟨rfl, rfl, rfl⟩ | ⟨rfl, rfl, rfl⟩ | ⟨rfl, rfl, rfl⟩
      · refine ⟨true, ap.bb, fun _ e he => ?_, (fun z => nomatch z)⟩
        exact ⟨.ref e, sl e, rfl, rfl, dd, v, rfl, hx, by show 2 ≤ sizeLine; decide, hq⟩
      · refine ⟨false, ap.hb, (fun z => nomatch z), fun _ => ⟨true, ap.hh, fun _ e he => ?_, (fun z => nomatch z)⟩⟩
        exact ⟨.ref e, sl e, rfl, rfl, dd, v, rfl, hx, by show 2 ≤ sizeLine; decide, hq⟩
      · refine ⟨false, ap.sb, (fun z => nomatch z), fun _ => ⟨false, ap.sh, (fun z => nomatch z), fun _ => ⟨true, ap.ss, fun _ e he => ?_, (fun z => nomatch z)⟩⟩⟩
        exact ⟨.ref e, sl e, rfl, rfl, dd, v, rfl, hx, by show 2 ≤ sizeLine; decide, hq⟩
    · exact h
end Hb
/-! Df23: lambdas handed over; the table of code objects meanwhile. -/
namespace Hb
open PySem L2 Mc Ly
/-! ### what is known, without tables -/
def strip (M : Hp) : Hp := fun b => match M b with
  | some (.tbl _) => none
  | o => o
theorem strip_some {M : Hp} {b : Addr} {o : HO} (h : strip M b = some o) : M b = some o ∧ ∀ ps, o ≠ .tbl ps := by
  unfold strip at h
  split at h
  · cases h
  · rename_i n
    exact ⟨h, fun ps z => n ps (by rw [h, z])⟩
theorem strip_of {M : Hp} {b : Addr} {o : HO} (h : M b = some o) (n : ∀ ps, o ≠ .tbl ps) : strip M b = some o := by
  unfold strip
  split
  · rename_i ps e
    rw [h] at e
    exact absurd (Option.some.inj e) (n ps)
  · exact h
theorem strip_none {M : Hp} {b : Addr} (h : M b = none) : strip M b = none := by
  unfold strip
  rw [h]
section
variable {M : Hp}
mutual
theorem dv_strip : ∀ {v : V} {d : D}, Dv M v d → Dv (strip M) v d
  | _, _, .raw v => .raw v
  | _, _, .lst h hs => .lst (strip_of h fun _ z => nomatch z) (dvs_strip hs)
  | _, _, .tup h hs => .tup (strip_of h fun _ z => nomatch z) (dvs_strip hs)
  | _, _, .ins h hs => .ins (strip_of h fun _ z => nomatch z) (dfs_strip hs)
theorem dvs_strip : ∀ {vs : List V} {ds : List D}, Dvs M vs ds → Dvs (strip M) vs ds
  | _, _, .nil => .nil
  | _, _, .cons h hs => .cons (dv_strip h) (dvs_strip hs)
theorem dfs_strip : ∀ {vs : List (Str × V)} {ds : List (Str × D)}, Dfs M vs ds → Dfs (strip M) vs ds
  | _, _, .nil => .nil
  | _, _, .cons h hs => .cons (dv_strip h) (dfs_strip hs)
end
theorem env_strip : ∀ {σ : L2.St} {ρ : Ev}, EnvD M σ ρ → EnvD (strip M) σ ρ
  | [], [], _ => trivial
  | s :: σ, none :: ρ, h => ⟨trivial, env_strip h.2⟩
  | s :: σ, some d :: ρ, h => ⟨let ⟨v, h1, h2⟩ := h.1; ⟨v, h1, dv_strip h2⟩, env_strip h.2⟩
  | [], _ :: _, h => h.elim
  | _ :: _, [], h => h.elim
theorem dks_strip {κ : Type} : ∀ {ps : List (κ × V)} {qs : List (κ × D)}, Dks M ps qs → Dks (strip M) ps qs
  | [], [], _ => trivial
  | _ :: _, _ :: _, h => ⟨⟨h.1.1, dv_strip h.1.2⟩, dks_strip h.2⟩
  | [], _ :: _, h => h.elim
  | _ :: _, [], h => h.elim
theorem oc_strip {o : HO} : ∀ {c : OC}, OCok M o c → OCok (strip M) o c
  | .l _, ⟨vs, h1, h2⟩ => ⟨vs, h1, dvs_strip h2⟩
  | .ins _ _, ⟨dx, fv, h1, h2⟩ => ⟨dx, fv, h1, dfs_strip h2⟩
  | .dk _, ⟨kv, h1, h2⟩ => ⟨kv, h1, dks_strip h2⟩
  | .dt _, ⟨kv, h1, h2⟩ => ⟨kv, h1, dks_strip h2⟩
  | .tp _, ⟨vs, h1, h2⟩ => ⟨vs, h1, dvs_strip h2⟩
/-- neither a table nor a code object -/
def Nx (o : HO) : Prop := (∀ ps, o ≠ .tbl ps) ∧ ∀ c q, o ≠ LamX.CodeO c q
theorem oc_nx {o : HO} : ∀ {c : OC}, OCok M o c → Nx o
  | .l _, ⟨_, h, _⟩ => by subst h; exact ⟨fun _ z => (nomatch z), fun _ _ z => by unfold LamX.CodeO at z; cases z⟩
  | .ins _ _, ⟨_, _, h, _⟩ => by subst h; exact ⟨fun _ z => (nomatch z), fun _ _ z => by unfold LamX.CodeO at z; cases z⟩
  | .dk _, ⟨_, h, _⟩ => by subst h; exact ⟨fun _ z => (nomatch z), fun _ _ z => by unfold LamX.CodeO at z; cases z⟩
  | .dt _, ⟨_, h, _⟩ => by subst h; exact ⟨fun _ z => (nomatch z), fun _ _ z => by unfold LamX.CodeO at z; cases z⟩
  | .tp _, ⟨_, h, _⟩ => by subst h; exact ⟨fun _ z => (nomatch z), fun _ _ z => by unfold LamX.CodeO at z; cases z⟩
end
section
variable {F : List Addr} {M0 H0 M H M' H' : Hp} {own own' : Own} {ρ ρ' : Ev} {σ σ' : L2.St} {Pt : Addr} {q : Str}
theorem Sd.exn (s : Sd own ρ σ M H) (e : LamX.ExtN H H') : Sd own ρ σ (strip M) H' :=
  ⟨fun b o h => let ⟨h1, h2⟩ := strip_some h; e b o (s.mh b o h1) h2, env_strip s.env, s.ow.nd, fun p hp => by
    obtain ⟨n, o, ho, ok⟩ := s.ow.at_ p hp
    exact ⟨strip_none n, o, e _ _ ho (oc_nx ok).1, oc_strip ok⟩⟩
theorem Sd.nx (s : Sd own ρ σ M H) : ∀ a ∈ own.map (·.1), ∀ o, H a = some o → Nx o := fun a ha o ho => by
  obtain ⟨p, hp, rfl⟩ := List.mem_map.mp ha
  obtain ⟨_, o', ho', ok⟩ := s.ow.at_ p hp
  rw [ho] at ho'
  rw [Option.some.inj ho']
  exact oc_nx ok
/-- on its own base -/
theorem Sd.c (s : Sd own ρ σ M H) : C (own.map (·.1)) M H own ρ σ M H := ⟨s, .refl, fun p hp => .inl (List.mem_map_of_mem hp), fun a ha => by
  obtain ⟨p, hp, rfl⟩ := List.mem_map.mp ha
  exact ⟨p.2, hp⟩⟩
theorem C.tab (c : C F M0 H0 own' ρ' σ' M' H') (t : LamX.TabS H0 Pt q) (nx : ∀ a ∈ F, ∀ o, H0 a = some o → Nx o) : LamX.TabS H' Pt q := by
  obtain ⟨ps, h1, h2, h3⟩ := t
  refine ⟨ps, c.bs.hh _ _ (fun hm => (nx _ hm _ h1).1 ps rfl) h1, h2, fun pos cv hc => ?_⟩
  obtain ⟨d, e, hd⟩ := h3 pos cv hc
  exact ⟨d, e, c.bs.hh _ _ (fun hm => (nx _ hm _ hd).2 _ _ rfl) hd⟩
end
/-! ### the contexts of a lambda's body -/
structure LI (X : Cx) (scope : Scope) (k : Nat) where
  A : Around
  outer : List Env
  s : Shared
  H : Hp
  f : Addr
  c : Addr
  room : Room k (A.deeper (LamX.lamEnv X scope s.heap.objs.size f c))
abbrev Zl (X : Cx) (scope : Scope) (Er : XK) (k : Nat) : LI X scope k → Cx := fun i => LamX.lamCx X i.A i.outer i.s i.H Er scope i.f i.c
theorem fam_lam {X : Cx} {scope : Scope} {Er : XK} {k : Nat} (nd : X.N.Nodup) : Fam (Zl X scope Er k) X.prog X.w X.K X.mg X.base X.N k := ⟨fun _ => rfl, fun _ => rfl, fun _ => rfl, fun _ => rfl, fun _ => rfl, fun _ => rfl, nd, fun _ => rfl, fun i => i.room⟩
theorem tk_lam {X : Cx} {scope : Scope} {Er : XK} {k : Nat} : Tk (Zl X scope Er k) Er := fun i => takes_of rfl rfl rfl rfl
/-! ### evaluations that may fill the table -/
def XR (Pt : Addr) (q : Str) (own : Own) (ρ : Ev) (te : TE) (d : D) : Prop := ∀ (σ : L2.St) (M H : Hp), Sd own ρ σ M H → LamX.TabS H Pt q → ∀ Q : VK, (∀ v M' H', LamX.ExtN H H' → Sd own ρ σ M' H' → LamX.TabS H' Pt q → Dv M' v d → Q v H') → te σ H Q
def XRT (Pt : Addr) (q : Str) (own : Own) (ρ : Ev) (tt : TT) (b : Bool) : Prop := ∀ (σ : L2.St) (M H : Hp), Sd own ρ σ M H → LamX.TabS H Pt q → ∀ Q : Bool → Hp → Prop, (∀ M' H', LamX.ExtN H H' → Sd own ρ σ M' H' → LamX.TabS H' Pt q → Q b H') → tt σ H Q
section
variable {ι : Type} {Z : ι → Cx} {own : Own} {ρ : Ev} {P : Program} {wd : World} {K : PySem.W.Frag} {mg : Str → Option Value} {base : Heap} {N : List Str} {k : Nat} (fm : Fam Z P wd K mg base N k) (gd : Gd Z) (B : Blt mg)
variable {a b e : Expr} {x y d : D} {pos p pf : Pos} {pq : PyData} {Pt : Addr} {q : Str} {st : Stmt} {rest body b1 b2 : List Stmt} {D : Ends} {σ : L2.St} {M H : Hp} {nm : Str}
include fm gd B in
theorem xr_repr (ha : XR Pt q own ρ (wE Z a) x) (hq : Py x pq) (sh : Shw pq) (hg : ∀ n, Gl (Z n) "repr" := by intro _; rfl) (he : ∀ n, starEach (a :: []) (Z n).env = (false, eval a (Z n).env) :: starEach [] (Z n).env := by intro _; rfl) (hpl : ∀ n, (backTo pos (starEach [] (Z n).env)).any (·.1) = false := by intro _; rfl) :
    XR Pt q own ρ (wE Z (.Call (.Name "repr" pf) [a] [] pos)) (.str pq.shown) := fun σ M H s tb Q k =>
  ⟨tCB (rRepr K) (wA Z [a]), fun n => pe_callB (fm.K n ▸ call_repr (g := gd n) (fm.room n).units) (hg n) (by rw [fm.mg]; exact B.repr) (by decide +kernel) (pa_w n) (by decide) (by decide) (he n) (hpl n),
    ⟨tCons (wE Z a) tNil, fun n => pa_cons (pe_w n) pa_nil (he n), ha σ M H s tb _ fun v M1 H1 ex s1 t1 r => ⟨v, pq, rfl, hq.dp s1.mh r, sh.s, hq.nodict, sh.d, Nat.le_trans sh.l (by decide), k _ M1 H1 ex s1 t1 (.raw _)⟩⟩⟩
theorem xr_cmp {op : CmpOp} {g : Bool} (ha : XR Pt q own ρ (wE Z a) x) (hb : E own ρ (wE Z b) y) (h : Cm Z op x y g) (hm : behindInMarks op b = false := by first | exact nomark _ | with_unfolding_all rfl) : XRT Pt q own ρ (wT Z (.Compare a [op] [b] pos)) g := by
  obtain ⟨r, h1, h2⟩ := h
  refine fun σ M H s tb Q k => ⟨tTest (tOp r (wE Z a) (wE Z b)), fun n => pt_cmpR (h1 n) (pe_w n) (pe_w n) hm, ha σ M H s tb _ fun v M1 H1 ex s1 t1 r1 => hb σ M1 H1 s1 _ fun w M2 H2 u2 r2 => h2 v w M2 H2 u2.mh (r1.mono u2.mm) r2 _ ⟨g, rfl, ?_⟩⟩
  exact k M2 H2 (ex.trans (.of u2.hh)) (s1.pure u2) (t1.ext u2.hh)
theorem k_ifR {t : Expr} {g : Bool} (s : Sd own ρ σ M H) (tb : LamX.TabS H Pt q) (h : XRT Pt q own ρ (wT Z t) g) (h1 : g = true → ∀ M' H', LamX.ExtN H H' → Sd own ρ σ M' H' → LamX.TabS H' Pt q → wB Z b1 D σ H') (h2 : g = false → ∀ M' H', LamX.ExtN H H' → Sd own ρ σ M' H' → LamX.TabS H' Pt q → wB Z b2 D σ H') : wS Z (.If t b1 b2 pos) D σ H :=
  ⟨_, fun n => ps_if (pt_w n) (pb_w n) (pb_w n), h σ M H s tb _ fun M1 H1 ex s1 t1 => by
    cases g with
    | true => exact h1 rfl M1 H1 ex s1 t1
    | false => exact h2 rfl M1 H1 ex s1 t1⟩
include fm in
/-- for name in (..), what is walked known -/
theorem k_forT {us : List V} (v : Nat) (s : Sd own ρ σ M H) (tb : LamX.TabS H Pt q) (he : E own ρ (wE Z e) (.tup (us.map Ly.D.raw))) (hN : ∀ n, (Z n).N[v]? = some nm)
    (hs : ∀ (i : Nat) (u : V) σ' M' H', us[i]? = some u → Sd own (ρ.set v (some (.raw u))) σ' M' H' → LamX.TabS H' Pt q → ∀ D' : Ends, D'.rt = D.rt → (∀ σ2 M2 H2, LamX.ExtN H' H2 → Sd own (ρ.set v none) σ2 M2 H2 → LamX.TabS H2 Pt q → D'.nx σ2 H2) → wB Z body D' σ' H')
    (hd : ∀ σ' M' H', Sd own (ρ.set v none) σ' M' H' → LamX.TabS H' Pt q → D.nx σ' H') (hp : ∀ n, PassesOwn (model (Z n).prog (Z n).w) (Z n).A (Z n).env (Z n).xe) (hl : ∀ n, Loc (Z n).env.scope nm := by intro _; first | exact Or.inl rfl | exact Or.inr rfl)
    (hf : ∀ n, (Z n).fn nm = true ∨ (Z n).env.scope.names.lookup nm = some .local := by intro _; first | exact .inl rfl | exact .inr rfl) (hfo : ∀ n x, foldedSetIterable e (Z n).env x = pure x := by intro _ _; rfl) : wS Z (.For (.Name nm p) e body [] pos) D σ H := by
  refine ⟨_, fun n => ps_for (hp n) (fm.calm n) (pi_w n) (pg_name (fm.N n ▸ fm.nd) (hN n) (hl n) (hf n)) (pb_w n) (hfo n), ?_⟩
  refine ⟨iTup K (wE Z e), fun n => fm.K n ▸ pi_tup (pe_w n), he σ M H s _ fun w M1 H1 u1 r1 => ?_⟩
  obtain ⟨a, vs, rfl, ha, rs⟩ := r1.tup_inv
  have ev := rs.raws_eq
  subst ev
  have hH := u1.mh _ _ ha
  refine ⟨a, rfl, ⟨_, .of hH⟩, ?_⟩
  have wk : Walk (Itt K a) vs.length (fun H => SqT K H a vs) (YAt vs) := walk_tup
  refine for_it wk (fun i σ' H' => (∃ M', Sd own (ρ.set v none) σ' M' H' ∧ LamX.TabS H' Pt q) ∧ H' a = some (.tup vs)) ⟨⟨M1, ⟨u1.mh, (s.pure u1).env.forget v, (s.pure u1).ow⟩, tb.ext u1.hh⟩, hH⟩ (fun i σ' H' _ ⟨_, h⟩ => .of h) (fun i x σ' H' H'' hi ⟨⟨M', s', t'⟩, h'⟩ y => ?_) (fun σ' H' ⟨⟨M', s', t'⟩, _⟩ => hd σ' M' H' s' t')
  obtain ⟨e1, e2⟩ := y
  subst e1
  have s2 : Sd own (ρ.set v (some (.raw x))) (σ'.set v (some x)) M' H'' := ⟨s'.mh, by
    have := s'.env.set (.raw x) v
    rw [List.set_set] at this
    exact this, s'.ow⟩
  exact hs i x _ M' H'' e2 s2 t' _ rfl fun σ2 M2 H2 ex s3 t3 => ⟨⟨M2, s3, t3⟩, ex _ _ h' fun _ z => nomatch z⟩
end
/-! ### the def that is handed a lambda -/
structure Bad (P : Program) (K : PySem.W.Frag) (mg : Str → Option Value) (CB CH CS : Addr) : Prop where
  b : ∃ f, XBS P K mg CB f
  h : ∃ f, XNH P K mg CH f
  s : ∃ f, XNS P K mg CS f
  ap : Apart K CB CH CS
section
variable {Z : Unit → Cx} {own : Own} {ρ : Ev} {P : Program} {wd : World} {K : PySem.W.Frag} {mg : Str → Option Value} {base : Heap} {N : List Str} {k : Nat} (fm : Fam Z P wd K mg base N k)
variable {CB CH CS g : Addr} {fd : FuncData} {Pt c : Addr} {p lpos pos : Pos} {params : Arguments} {body : Expr} {scope : Scope} {x : D}
include fm in
theorem xr_bad (F78 : Df K mg "_law_bad_steps" s78 g fd) (bad : Bad P K mg CB CH CS) (TB : LamX.TabB base mg c Pt) (hcode : (Z ()).env.code = .ref c) {kk : Nat} (hk : kk + 2 ≤ k) (L : LamX.LamS (Z ()).env.scope scope) (hdef : defaultsOf params (Z ()).env = ([], []))
    (hbind : ∀ (q : Str) (cl : List (Str × Addr)) (pm cv ctv : Value), bindArgs (PySem.W.kla_fn "<lambda>" q params body scope cl pm cv ctv) ⟨[], []⟩ = pure []) {Cc : Addr} {w : Str} {f : Exm.Fl} (hm : (Cc, w, f) ∈ [(CB, ("steps" : Str), Exm.Fl.at_), (CH, ("house" : Str), Exm.Fl.house), (CS, ("state" : Str), Exm.Fl.state)])
    (hz : ∀ (W : XK) (M1 H1 : Hp), Wx W M1 H1 Cc f.s x → EZ M1 H1 own ρ (wE (Zl (Z ()) scope W kk) body)) (hg : Gl (Z ()) "_law_bad_steps" := by rfl) :
    XR Pt ((Z ()).env.qual ++ "<lambda>") own ρ (wE Z (.Call (.Name "_law_bad_steps" p) [.Lambda params body scope lpos] [] pos)) (.lst [.str w, x]) := fun σ M H s tb Q k2 => by
  obtain ⟨oc, od, kV, doc, pm, an, cdv, ct, osl, e, lk, hcd⟩ := F78.F.ex
  subst e
  obtain ⟨fB, xb⟩ := bad.b
  obtain ⟨fH, xh⟩ := bad.h
  obtain ⟨fS, xs⟩ := bad.s
  have eP := fm.P ()
  have eK := fm.K ()
  have eM := fm.mg ()
  have eB := fm.base ()
  have hb : Binds K (PySem.W.fnOf "_law_bad_steps" "_law_bad_steps" (defArgs s78) (defBody s78) (defScope s78) .none kV doc pm an cdv ct) ["_law_work"] [] := F78.F.binds fun _ _ _ _ _ _ us hl => match us, hl with | [_], _ => rfl
  refine ⟨LamX.tLam [(Pt, (Z ()).env.qual ++ "<lambda>")] (TTbad CB CH CS) (fun W => wE (Zl (Z ()) scope W kk) body), fun _ => ?_, fun p hp => ?_, fun H1 eN T1 => ?_⟩
  · have hG := bad_gives (X := Z ()) (CB := CB) (CH := CH) (CS := CS) (by rw [eP, eK, eM]; exact xb) (by rw [eP, eK, eM]; exact xh) (by rw [eP, eK, eM]; exact xs) (by rw [eK]; exact bad.ap) (g := g) (cdg := cdv) (q := (Z ()).env.qual ++ "<lambda>")
    exact LamX.pe_lamcall hg (by rw [eM]; exact F78.g) (by rw [eK]; exact F78.F.kp) (by rw [eK]; exact lk) (by rw [eK]; exact hcd) (by rw [eK]; exact hb) sc78 rfl (.inl rfl) hG (by rw [eB, eM]; exact TB) hcode List.mem_cons_self (fun p hp _ => by rw [List.mem_singleton.mp hp]) ((fm.room ()).mono hk) L hdef hbind
      (fun A outer s H W f c' hr => pe_w (Z := Zl (Z ()) scope W kk) ⟨A, outer, s, H, f, c', hr⟩)
  · rw [List.mem_singleton.mp hp]; exact tb
  · have s1 := Sd.exn s eN
    have t1 : LamX.TabS H1 Pt ((Z ()).env.qual ++ "<lambda>") := T1 _ List.mem_cons_self
    refine hz (Wish CB CH CS Q) (strip M) H1 (fun M' H' d v u hd rv => ⟨Cc, w, f, hm, rfl, d, v, rfl, hd, fun p hp => ?_⟩) σ (strip M) H1 s1 (.refl s1.mh) _
    have u2 : Pu (strip M) H1 (upd M' p (.lst [.str w, v])) (upd H' p (.lst [.str w, v])) := u.trans (Pu.newM u.mh hp)
    exact k2 _ _ _ (eN.trans (.of u2.hh)) (s1.pure u2) (t1.ext u2.hh) (.lst upd_same (.cons (.raw _) (.cons (rv.mono (same_new (same_back u.mh hp))) .nil)))
end
end Hb
/-! Ly20: calls by keywords alone, in the parameters' order turned round; calls of a name that holds a def. -/
namespace Hb
open PySem L2 Mc Ly
theorem vals_rev : ∀ {vs : List V} {us : List Value}, Vals vs us → Vals vs.reverse us.reverse
  | _, _, .nil => .nil
  | _, _, .cons r rs => by
    rw [List.reverse_cons]; rw [List.reverse_cons]
    exact (vals_rev rs).append (.cons r .nil)
section
variable {ι : Type} {Z : ι → Cx} {own : Own} {ρ : Ev} {P : Program} {wd : World} {K : PySem.W.Frag} {mg : Str → Option Value} {base : Heap} {N : List Str} {k : Nat} (fm : Fam Z P wd K mg base N k)
variable {a b e : Expr} {es : List Expr} {x y d : D} {ds : List D} {pos p pf kpos : Pos} {nm : Str} {kws : List Keyword} {kn : Option Str}
def wK (Z : ι → Cx) (kws : List Keyword) : TA := fun σ H Q => ∃ t : TA, (∀ i, PK (Z i) kws t) ∧ t σ H Q
theorem pk_w (i : ι) : PK (Z i) kws (wK Z kws) := ⟨fun pos pins s σ H Q I ⟨_, h, q⟩ => (h i).run pos pins s σ H Q I q⟩
theorem kw_nil : EA own ρ (wK Z []) [] := fun σ M H s Q q => ⟨tNil, fun _ => pk_nil, ea_nil σ M H s Q q⟩
theorem kw_cons (h : E own ρ (wE Z e) d) (hr : EA own ρ (wK Z kws) ds) : EA own ρ (wK Z (⟨kn, e, kpos⟩ :: kws)) (d :: ds) := fun σ M H s Q q => ⟨tCons (wE Z e) (wK Z kws), fun n => pk_cons (pe_w n) (pk_w n), ea_cons h hr σ M H s Q q⟩
include fm in
/-- f(k = v, ..), the parameters in the order turned round -/
theorem w_callR {R : List Ly.D → Ly.D → Prop} {k' : Nat} {ps ks : List Str} {f : Addr} {fd : FuncData} {st : Stmt} (F : Df K mg nm st f fd) (c : CalX P wd K mg base nm k' ps (spD R) f fd)
    (hb : ∀ (kV doc pm : Value) (an : Option Addr) (cdv ct : Value) (us : List Value), us.length = ks.length → bindArgs (PySem.W.fnOf nm nm (defArgs st) (defBody st) (defScope st) .none kV doc pm an cdv ct) ⟨[], ks.zip us⟩ = pure (ps.zip us.reverse))
    (ha : EA own ρ (wK Z kws) ds) (hl : ds.length = ks.length) (h : R ds.reverse d) (hk : k' ≤ k := by decide) (hg : ∀ n, Gl (Z n) nm := by intro _; rfl) (hdb : (nm == ("__debug__" : Str)) = false := by decide)
    (hall : ∀ n, (backToKw pos (keywordEach kws (Z n).env)).all (·.1.isSome) = true := by intro _; rfl) (hks : ∀ n, (backToKw pos (keywordEach kws (Z n).env)).filterMap (·.1) = ks := by intro _; rfl)
    (hpl : ∀ n, ((backTo pos (starEach [] (Z n).env)).any (·.1) || (backToKw pos (keywordEach kws (Z n).env)).any (·.1.isNone)) = false := by intro _; rfl) : E own ρ (wE Z (.Call (.Name nm p) [] kws pos)) d := by
  refine E.wz (t := fun σ H Q => wK Z kws σ H fun zs H1 => zs.length = ks.length ∧ spD R zs.reverse H1 Q E0) (fun σ M H s Q q => ha σ M H s _ fun zs M1 H1 u r => ⟨r.length.trans hl, M1, ds.reverse, d, u.mh, r.reverse, h, fun v M2 H2 u2 r2 => q v M2 H2 (u.trans u2) r2⟩) fun n => ?_
  have G' : FnOk (Z n).prog (Z n).w (Z n).K (Z n).mg (Z n).base (L2.CX (Z n).prog (Z n).w) k f fd ps (spD R) := by
    rw [fm.P n, fm.w n, fm.K n, fm.mg n, fm.base n]; exact c.ok.mono hk
  have hkp : PySem.W.keepIn (Z n).K (.ref f) = true := by rw [fm.K]; exact c.kp
  refine ⟨fun pins s σ H Q I hw => wpAny_Call_Name_kw (ld_glob I (hg n) (by rw [fm.mg]; exact c.g) ?_ hdb)⟩
  refine PySem.W.callWith_KW0 (h₀ := (Z n).base) I.ok.mod.kin hkp (hall n) (thn ((pk_w n).run pos pins s σ H _ I hw) fun ws s2 ⟨zs, H2, I2, rz, l1, q2⟩ => ⟨I2.kIn, ?_⟩) (hpl n)
  rw [hks n]
  have lw : ws.length = ks.length := by rw [← rz.length]; exact l1
  obtain ⟨oc, od, kV, doc, pm, an, cdv, ct, osl, e, lk, hcd⟩ := F.F.ex
  subst e
  have bt : BindsTo s2 (PySem.W.fnOf nm nm (defArgs st) (defBody st) (defScope st) .none kV doc pm an cdv ct) ⟨[], ks.zip ws⟩ (ps.zip ws.reverse) := fun M A E Q q => by
    rw [hb kV doc pm an cdv ct ws lw]; exact wpAny_pure q
  refine wpAny_call (codeAny_mono (G'.run (Z n).A (Z n).stack s2 H2 ⟨[], ks.zip ws⟩ ws.reverse zs.reverse Q E0 (fm.room n) I2.env0 bt (vals_rev rz) q2) fun w s3 hw => ?_)
  match w, hw with
  | .error e, hw => exact passL pins σ H2 s2 e s3 I2 hw
  | .ok (.ret u), hw => exact I2.after hw
variable {M0 H0 : Hp}
include fm in
/-- x(..) that raises, x a name that holds a def -/
theorem z_callL {R : List Ly.D → Addr → Str → Ly.D → Prop} {W : XK} {k' : Nat} {ps : List Str} {Cx : Addr} {f : Str} {g : Addr} {fd : FuncData} (v : Nat) (G : FnOk P wd K mg base (L2.CX P wd) k' g fd ps (spX R)) (hkp : PySem.W.keepIn K (.ref g) = true) (hb : Binds K fd ps []) (hv : ρ[v]? = some (some (.ref g))) (tk : Tk Z W) (ha : EA own ρ (wA Z (e :: es)) ds) (hR : R ds Cx f x) (hW : Wx W M0 H0 Cx f x) (hk : k' ≤ k) (hN : ∀ n, (Z n).N[v]? = some nm) (hvis : ∀ n, Vis (Z n).env.scope nm)
    (hdb : (nm == ("__debug__" : Str)) = false := by decide) (hcd : (nm == ("__classdict__" : Str)) = false := by decide)
    (he : ∀ n, starEach (e :: es) (Z n).env = (false, eval e (Z n).env) :: starEach es (Z n).env := by intro _; rfl) (hpl : ∀ n, (backTo pos (starEach es (Z n).env)).any (·.1) = false := by intro _; rfl) : EZ M0 H0 own ρ (wE Z (.Call (.Name nm p) (e :: es) [] pos)) := by
  refine EZ.wz (t := tCallL v g (spX R) [] W (wA Z (e :: es))) (fun σ M H s u Q => ?_) fun n => ?_
  · obtain ⟨w, h1, h2⟩ := s.env.get hv
    refine ⟨by rw [h1, h2.raw_eq], ha σ M H s _ fun vs M1 H1 u1 r => ?_⟩
    rw [List.append_nil]
    exact ⟨M1, ds, Cx, f, x, u1.mh, r, hR, fun M' H' d v u2 hd rv => hW M' H' d v ((u.trans u1).trans u2) hd rv⟩
  · have G' : FnOk (Z n).prog (Z n).w (Z n).K (Z n).mg (Z n).base (L2.CX (Z n).prog (Z n).w) k g fd ps (spX R) := by
      rw [fm.P n, fm.w n, fm.K n, fm.mg n, fm.base n]; exact G.mono hk
    exact pe_callL G' (fm.room n) (hN n) (hvis n) (by rw [fm.K]; exact hkp) (by rw [fm.K]; exact hb) .nil (passes_call (tk n) fun _ _ _ _ h => h) (pa_w n) hdb hcd (he n) (hpl n)
end
end Hb
/-! Df24: what the law rests on; its first lines. -/
namespace Hb
open PySem L2 Mc Ly
abbrev s81 : Stmt := top 81
abbrev N81 : List Str := ["_law_script", "_law_deal", "_law_tables", "_law_first", "_law_many", "_law_ties", "_law_machine_here", "_law_web_here", "_law_steps_here", "_law_net", "_law_places", "_law_ahead", "_law_at", "_law_done", "_law_step", "_law_counts", "_law_deeds", "_law_one", "_law_odd", "_law_bent", "_law_work"]
theorem sc81 : FnScope N81 ["_law_script"] (defScope s81) := ⟨rfl, rfl, rfl, by decide +kernel, rfl, by decide +kernel, by decide +kernel⟩
/-- all that the law calls -/
structure LE (P : Program) (wd : World) (K : PySem.W.Frag) (mg : Str → Option Value) (base : Heap) (Cm Cw Cn CB CH CS : Addr) : Prop where
  B : Blt mg
  T : MK K mg Cm
  W : WK K mg Cw
  N : NK K mg Cn
  dealt : Cal P wd K mg base "_law_dealt" 1 ["_law_script"] (spScr K)
  any : CAny P wd K mg base
  of_ : COf P wd K mg base
  mach : Cal P wd K mg base "_law_machine" 3 ["_law_deal"] (spN PreMa PostMa)
  web : Cal P wd K mg base "_law_web" 3 ["_law_deal", "_law_most"] (spN PreWb PostWb)
  stps : Cal P wd K mg base "_law_steps" 2 ["_law_deal", "_law_many", "_law_ties", "_law_deeds", "_law_length"] (spN PreSt PostSt)
  far : CalG P wd K mg base "_law_far_right" 9 ["_law_deal"] (spN PreFar PostFar)
  mkM : CalI P wd K mg base Cm 6 ["self", "tables"] (spO (RMach Cm))
  mkW : CWeb P wd K mg base Cw
  mkN : CalI P wd K mg base Cn 5 ["self", "machine", "web", "first"] (spO (RNet Cm Cw Cn))
  do_ : CalM P wd K mg base Cn "do" 5 ["self", "house", "deed"] (spO (RDo Cm Cw Cn))
  meet : CalM P wd K mg base Cn "meet" 6 ["self", "tie"] (spO (RMeet Cm Cw Cn))
  k58 : ∃ f fd, Df K mg "counts_after" s58 f fd ∧ CalX P wd K mg base "counts_after" 7 ["web", "steps"] (spD (RBk Cw cD)) f fd
  k55 : ∃ f fd, Df K mg "act_deeds" s55 f fd ∧ CalX P wd K mg base "act_deeds" 7 ["web", "steps"] (spD (RWs Cw fun ss => .tup (nD (deedsOf ss)))) f fd
  k60 : ∃ f fd, Df K mg "heard_after" s60 f fd ∧ CalX P wd K mg base "heard_after" 8 ["web", "steps"] (spD (RBk Cw hD)) f fd
  k63 : ∃ f fd, Df K mg "plain_state" s63 f fd ∧ CalX P wd K mg base "plain_state" 9 ["machine", "web", "first", "steps", "house"] (spD (RPlain Cm Cw)) f fd
  follow : Cal P wd K mg base "_law_follow" 1 ["_law_ties", "_law_step", "_law_ahead", "_law_behind", "_law_acts"] (spD RFollow)
  booked : Cal P wd K mg base "_law_are_booked" 2 ["_law_many", "_law_ties", "_law_places", "_law_houses", "_law_archives"] (spD RBooked)
  above : Cal P wd K mg base "_law_are_above" 1 ["_law_many", "_law_ties", "_law_houses", "_law_archives"] (spD RAbove)
  heard : CalG P wd K mg base "_law_is_heard" 1 ["_law_heard", "_law_houses", "_law_archives"] (spD RHeard)
  shown : CalG P wd K mg base "_law_is_shown" 10 ["_law_machine_here", "_law_web_here", "_law_first", "_law_steps_here", "_law_net", "_law_counts", "_law_deeds"] (spD (RShown Cm Cw Cn))
  z58 : Cal P wd K mg base "counts_after" 7 ["web", "steps"] (spX (ZWs Cw CB))
  z55 : Cal P wd K mg base "act_deeds" 7 ["web", "steps"] (spX (ZWs Cw CB))
  z60 : Cal P wd K mg base "heard_after" 8 ["web", "steps"] (spX (ZWs Cw CB))
  z63 : Cal P wd K mg base "plain_state" 6 ["machine", "web", "first", "steps", "house"] (spX (ZPlain Cm Cw CS CB CH))
  bad : Bad P K mg CB CH CS
  f78 : ∃ g fd, Df K mg "_law_bad_steps" s78 g fd
section
variable {P : Program} {wd : World} {K : PySem.W.Frag} {mg : Str → Option Value} {base : Heap} {Cm Cw Cn CB CH CS : Addr} (L : LE P wd K mg base Cm Cw Cn CB CH CS)
include L
theorem LE.c58 : Cal P wd K mg base "counts_after" 7 ["web", "steps"] (spD (RBk Cw cD)) := let ⟨_, _, _, c⟩ := L.k58; c.cal
theorem LE.c55 : Cal P wd K mg base "act_deeds" 7 ["web", "steps"] (spD (RWs Cw fun ss => .tup (nD (deedsOf ss)))) := let ⟨_, _, _, c⟩ := L.k55; c.cal
theorem LE.c60 : Cal P wd K mg base "heard_after" 8 ["web", "steps"] (spD (RBk Cw hD)) := let ⟨_, _, _, c⟩ := L.k60; c.cal
theorem LE.c63 : Cal P wd K mg base "plain_state" 9 ["machine", "web", "first", "steps", "house"] (spD (RPlain Cm Cw)) := let ⟨_, _, _, c⟩ := L.k63; c.cal
end
section
variable {ι : Type} {Z : ι → Cx} {own : Own} {ρ : Ev} {P : Program} {wd : World} {K : PySem.W.Frag} {mg : Str → Option Value} {base : Heap} {N : List Str} {k : Nat} (fm : Fam Z P wd K mg base N k) (gd : Gd Z)
variable {a b e : Expr} {pos p pf : Pos} {nm : Str} {I : Own → Prop} {Ta Tb : Bool → Prop} {D : Ends} {F : List Addr} {M0 H0 M H : Hp} {σ : L2.St} {Pq : Ly.D → Own → Prop} {g0 : Dl} {rest : Own}
theorem vt_and2 (h1 : VT I ρ (wT Z a) Ta) (h2 : VT I ρ (wT Z b) Tb) : VT I ρ (wT Z (.BoolOp .And [a, b] pos)) (fun t => t = false ∨ Tb t) := fun own hi =>
  XT.wz (t := tAnd (wT Z a) (wT Z b)) (xt_and (Pa := fun b o => Ta b ∧ I o) (h1 own hi) (fun o ⟨t1, i1⟩ F M0 H0 σ M H c Q q => h2 o i1 F M0 H0 σ M H c Q fun b' o' M' H' ⟨t2, i2⟩ c' s => q b' o' M' H' ⟨.inr t2, i2⟩ c' s) (fun o ⟨_, i1⟩ => ⟨.inl rfl, i1⟩)) fun n => (pw_and (pt_w n) (pw_and1 (pt_w n))).pt
theorem vt_not (h : VT I ρ (wT Z a) Ta) : VT I ρ (wT Z (.UnaryOp .Not a pos)) (fun t => Ta (!t)) := fun own hi =>
  XT.wz (t := tNot (wT Z a)) (fun F M0 H0 σ M H c Q q => h own hi F M0 H0 σ M H c _ fun b o M' H' ⟨t1, i1⟩ c' s => q (!b) o M' H' ⟨by show Ta (!(!b)); rw [Bool.not_not]; exact t1, i1⟩ c' s) fun n => pt_not (pt_w n)
theorem vt_val {g : Bool} (h : V_ I ρ (wE Z e) (fun d => d = .bl g)) (he : ∀ n whole, isTrue e (Z n).env whole = (do let v ← whole; standAt e.pos; holding [v] (truthy v)) := by intro _ _; rfl) : VT I ρ (wT Z e) (fun t => t = g) := fun own hi =>
  XT.wz (t := tB (wE Z e)) (fun F M0 H0 σ M H c Q q => h own hi F M0 H0 σ M H c _ fun v d o M' H' ⟨e1, i1⟩ c' s r => by
    subst e1
    exact ⟨g, r.raw_eq, q g o M' H' ⟨rfl, i1⟩ c' s⟩) fun n => pt_val (pe_w n) (he n)
include fm gd in
theorem v_far (C77 : CalG P wd K mg base "_law_far_right" 9 ["_law_deal"] (spN PreFar PostFar)) (h1 : ∀ own, ID g0 rest own → E own ρ (wE Z e) (.ref g0.a)) (hk : 9 ≤ k := by decide) (hg : ∀ n, Gl (Z n) "_law_far_right" := by intro _; rfl)
    (he : ∀ n, starEach (e :: []) (Z n).env = (false, eval e (Z n).env) :: starEach [] (Z n).env := by intro _; rfl) (hpl : ∀ n, (backTo pos (starEach [] (Z n).env)).any (·.1) = false := by intro _; rfl) :
    V_ (ID g0 rest) ρ (wE Z (.Call (.Name "_law_far_right" p) [e] [] pos)) (fun d => d = .bl true) := fun own hi =>
  xG_callN fm gd C77 (EA.xa (a_cons (h1 own hi) a_nil he)) (fun ds o ⟨e, e'⟩ => by
    subst e e'
    obtain ⟨g, ok, ea0, el0, rfl⟩ := hi
    exact ⟨g, g.own, rest, .refl _, ⟨by rw [ea0], rfl, ok⟩, fun d o' ⟨g', e, ok', ea, el, eo⟩ => ⟨e, g', ok', ea.trans ea0, el.trans el0, by rw [eo]⟩⟩) hk hg (by decide) he hpl
include fm in
/-- name = e, e told of one place -/
theorem k_setAt (v : Nat) (h : ∀ Q : VK, (∀ w d o M' H', Pq d o → C F M0 H0 o ρ σ M' H' → Dv M' w d → Q w H') → wE Z e σ H Q) (hN : ∀ n, (Z n).N[v]? = some nm) (k : ∀ d o σ' M' H', Pq d o → C F M0 H0 o (ρ.set v (some d)) σ' M' H' → D.nx σ' H') (hl : ∀ n, Loc (Z n).env.scope nm := by intro _; first | exact Or.inl rfl | exact Or.inr rfl)
    (hf : ∀ n, (Z n).fn nm = true ∨ (Z n).env.scope.names.lookup nm = some .local := by intro _; first | exact .inl rfl | exact .inr rfl) (hs : ∀ n, swapsWith e (some (.Name nm p)) pos.line (Z n).env = pure false := by intro _; rfl) : wS Z (.Assign [.Name nm p] e pos) D σ H :=
  ⟨tAsg (wE Z e) (gName v), fun n => ps_set (fm.N n ▸ fm.nd) (hN n) (hl n) (pe_w n) (hs n) (hf n), h (fun w H1 => D.nx (σ.set v (some w)) H1) fun w d o M' H' pq c r => k d o _ M' H' pq (c.set r v)⟩
include fm in
/-- the deal is made of the script -/
theorem call_scr (c65 : Cal P wd K mg base "_law_dealt" 1 ["_law_script"] (spScr K)) {x : Addr} {ns : List Int} (ha : E [] ρ (wE Z a) (.raw (.ref x))) (c : C [] M0 H0 [] ρ σ M H) (hs : SqL K H x (ns.map V.int)) (hk : 1 ≤ k := by decide) (hg : ∀ n, Gl (Z n) "_law_dealt" := by intro _; rfl)
    (he : ∀ n, starEach (a :: []) (Z n).env = (false, eval a (Z n).env) :: starEach [] (Z n).env := by intro _; rfl) (hpl : ∀ n, (backTo pos (starEach [] (Z n).env)).any (·.1) = false := by intro _; rfl) :
    ∀ Q : VK, (∀ w d o M' H', PostDl ns d o → C [] M0 H0 o ρ σ M' H' → Dv M' w d → Q w H') → wE Z (.Call (.Name "_law_dealt" p) [a] [] pos) σ H Q := fun Q q => by
  obtain ⟨f, fd, G, hm, hkp, hb⟩ := c65.ex
  refine ⟨tCall (spScr K) [] E0 (wA Z [a]), fun n => ?_, a_cons ha a_nil he σ M H c.sd _ fun vs M1 H1 u r => ?_⟩
  · have G' : FnOk (Z n).prog (Z n).w (Z n).K (Z n).mg (Z n).base (L2.CX (Z n).prog (Z n).w) k f fd ["_law_script"] (spScr K) := by
      rw [fm.P n, fm.w n, fm.K n, fm.mg n, fm.base n]; exact G.mono hk
    exact pe_call G' (fm.room n) (hg n) (by rw [fm.mg]; exact hm) (by rw [fm.K]; exact hkp) (by rw [fm.K]; exact hb) .nil passL (pa_w n) (by decide) (he n) (hpl n)
  · obtain ⟨v, rfl, r1⟩ := r.one
    have c1 : C [] M0 H0 ([] ++ []) ρ σ M1 H1 := c.pure u
    refine ⟨x, ns, M1, by rw [r1.raw_eq]; rfl, u.mh, u.hh.seq hs, fun w d o M' H' hp po r2 => q w d o M' H' hp ?_ r2⟩
    have c2 := c1.frame po
    rw [List.append_nil] at c2
    exact c2
end
end Hb
/-! Df25: the law's loop over the steps. -/
namespace Hb
open PySem L2 Mc Ly
theorem Booked.of {h acts : Nat} {ts : List Tie} {ss : List Stp} (wh : Whole h ts acts ss) {a v : Nat} (e : (placesOf ss)[a]? = some v) : Booked h ts (bookAt h ts acts ss).hs (bookAt h ts acts ss).tz v a := by
  obtain ⟨_, c⟩ := wh.col a v e
  refine ⟨c.sum, sumI_zero fun i _ hp => ?_, sumI_zero fun i hi hp => ?_⟩
  · rw [Bool.not_eq_true', decide_eq_false_iff_not] at hp
    exact c.zh i hp
  · rw [Bool.not_eq_true', decide_eq_false_iff_not] at hp
    exact c.zt i _ (getD_at hi) hp
abbrev Z81 (P : Program) (wd : World) (K : PySem.W.Frag) (mg : Str → Option Value) (base : Heap) (f : Addr) (cdv : Value) (A : Around) (outer : List Env) (s : Shared) (H : Hp) (Er : XK) : Unit → Cx := Zm P wd K mg base N81 "law" s81 f cdv A outer s H Er
/-- the loop's body -/
def lb81 : List Stmt := match (defBody s81).getD 8 (.Pass ⟨0, 0, 0, 0⟩) with
  | .For _ _ b _ _ => b
  | _ => []
section
variable {P : Program} {wd : World} {K : PySem.W.Frag} {mg : Str → Option Value} {base : Heap} {Cm Cw Cn CB CH CS : Addr} (L : LE P wd K mg base Cm Cw Cn CB CH CS)
variable {fl : Addr} {cdv : Value} {A : Around} {outer : List Env} {sh : Shared} {HH : Hp} {Er : XK}
variable (fm : Fam (Z81 P wd K mg base fl cdv A outer sh HH Er) P wd K mg base N81 10) (gd : Gd (Z81 P wd K mg base fl cdv A outer sh HH Er))
variable {t : List (List Nat)} {n h first : Nat} {ts : List Tie} {ss : List Stp} (cm : CMach t n first) (w : WOk h ts)
include L fm gd cm w in
theorem lr81 {bk : List Stp} {st : Stp} (l19 : (bk ++ [st]).length ≤ 19) (hok : ∀ x ∈ bk ++ [st], sok h ts.length t.length x = true) {sts ars : List Nat} (led : Led t h ts first (bk ++ [st]) sts ars) {pl net scr deal : Addr} {own : Own} {i : Nat} {F : List Addr} {M0 H0 M H : Hp} {σ : L2.St} {D0 : Ends}
    (c : C F M0 H0 ((pl, .l (nD (placesOf (bk ++ [st])))) :: (net, .ins Cn (netF Cm Cw ⟨t, n, h, ts, first⟩ sts ars (bk ++ [st]))) :: own) [some (.ref scr), some (.ref deal), some (.lst (tL t)), some (.int (first : Int)), some (.int (h : Int)), some (.lst (pL ts)), some (machD Cm t n), some (webD Cw h ts), some (.lst (ss.map stT)), some (.ref net), some (.ref pl), some (cD (bookOf h ts bk)), some (.int (i : Int)), some (.lst ((bk ++ [st]).map stT)), some (stT st), none, none, none, none, none, none] σ M H)
    (kn : ∀ σ2 M2 H2, C F M0 H0 ((pl, .l (nD (placesOf (bk ++ [st])))) :: (net, .ins Cn (netF Cm Cw ⟨t, n, h, ts, first⟩ sts ars (bk ++ [st]))) :: own) [some (.ref scr), some (.ref deal), some (.lst (tL t)), some (.int (first : Int)), some (.int (h : Int)), some (.lst (pL ts)), some (machD Cm t n), some (webD Cw h ts), some (.lst (ss.map stT)), some (.ref net), some (.ref pl), some (cD (bookOf h ts (bk ++ [st]))), none, none, none, none, none, none, none, none, none] σ2 M2 H2 → D0.nx σ2 H2) :
    wB (Z81 P wd K mg base fl cdv A outer sh HH Er) (lb81.drop 2) D0 σ H := by
  obtain ⟨f58, fd58, F58, K58⟩ := L.k58
  have B := L.B
  have om := cm.ok
  have d8 := om.d8
  have h12 := w.h12
  have t20 := w.t20
  have hok8 : ∀ x ∈ bk ++ [st], sok h ts.length 8 x = true := fun x hx => sok_mono d8 (hok x hx)
  have sa : StA Cw h ts (.lst ((bk ++ [st]).map stT)) (bk ++ [st]) := ⟨⟨_, qL, sts_map _⟩, by omega, hok8⟩
  have sT : StA Cw h ts (.tup ((bk ++ [st]).map stT)) (bk ++ [st]) := ⟨⟨_, qT, sts_map _⟩, by omega, hok8⟩
  have wh := whole w (acts := (deedsOf (bk ++ [st])).length) (bk ++ [st]) (Nat.le_refl _) hok8
  have bo : BkOk h ts (deedsOf (bk ++ [st])).length (bookOf h ts (bk ++ [st])) := wh.ok
  have dl := deedsOf_len (ss := bk ++ [st])
  have pll := placesOf_len (bk ++ [st])
  have hd := deeds_lt hok
  have bkd : ∀ a v, (placesOf (bk ++ [st]))[a]? = some v → Booked h ts (bookOf h ts (bk ++ [st])).hs (bookOf h ts (bk ++ [st])).tz v a := fun a v e => Booked.of wh e
  refine b_cons (k_set fm 15 c (w_if (t_cmp (w_nm 12 (fun _ => rfl) rfl) w_int cm_gt) (fun _ => w_call fm L.c58 (a_cons (w_nm 7 (fun _ => rfl) rfl) (a_cons (w_nm 13 (fun _ => rfl) rfl) a_nil)) ⟨h, ts, _, bk ++ [st], rfl, w, sa, rfl⟩) fun _ => w_callR fm (ks := ["steps", "web"]) F58 K58 (fun _ _ _ _ _ _ us hl => match us, hl with | [_, _], _ => rfl) (kw_cons (w_nm 13 (fun _ => rfl) rfl) (kw_cons (w_nm 7 (fun _ => rfl) rfl) kw_nil)) rfl ⟨h, ts, _, bk ++ [st], rfl, w, sa, rfl⟩) (fun _ => rfl) fun σ M H c => ?_)
  refine b_cons (k_set fm 16 c (w_call fm L.c55 (a_cons (w_nm 7 (fun _ => rfl) rfl) (a_cons (w_tuple fm B (w_nm 13 (fun _ => rfl) rfl) qL) a_nil)) ⟨h, ts, _, bk ++ [st], rfl, sT, rfl⟩) (fun _ => rfl) fun σ M H c => ?_)
  have shr : Shw (.tuple (pyN (deedsOf (bk ++ [st])))) := shw_row (fun x hx => by have := hd x hx; have : (2 : Nat) ^ 20 = 1048576 := rfl; omega) (by omega)
  refine b_cons (k_if (g := false) c (et_eq (t_cmp (w_repr fm gd B (w_nm 16 (fun _ => rfl) rfl) (.tup (py_nD _)) shr) (w_repr fm gd B (E.eq (w_tuple fm B (w_lc fm [("_law_one", 17)] (blkOk_by (sc := defScope s81) (by decide +kernel)) (fun _ => rfl) isDo thirdD (f1 17) (i_sq fm (w_nm 13 (fun _ => rfl) rfl) qL) (by rw [List.length_map]; omega) (fun i d h => (cw_name (Fam.blk fm) 17 (fun _ => rfl) (by decide))) (fun i d h => ?_) (fun i d h hq => ?_)) qL) (congrArg Ly.D.tup (keep_deeds (bk ++ [st])))) (.tup (py_nD _)) shr) cm_neS) ?_) (fun hh M H c => nomatch hh) fun hh M H c => b_nil ?_)
  · obtain ⟨s, hs, rfl⟩ := stT_get h
    obtain ⟨x, hx, ex⟩ := st_first s
    refine et_eq (ts_one (t_cmp (w_ix (Fam.blk fm) (w_nm 17 (fun _ => rfl) rfl) w_int qT hx) w_str cm_eqS)) ?_
    rw [ex]; exact (isDo_st s).symm
  · obtain ⟨s, hs, rfl⟩ := stT_get h
    have hq : isAct s = true := (isDo_st s).symm.trans hq
    cases s with
    | act h d => exact w_ix (Fam.blk fm) (w_nm 17 (fun _ => rfl) rfl) w_int qT rfl
    | meet t => cases hq
  · rw [decide_eq_true rfl]; rfl
  refine b_cons (k_if (g := false) c (et_see (.set (.same _) (i := 10) rfl (.l (k := 0) rfl (.same _)) rfl) (et_eq (t_pw (v_or (t_not (t_val (w_call fm L.follow (a_cons (w_nm 5 (fun _ => rfl) rfl) (a_cons (w_nm 14 (fun _ => rfl) rfl) (a_cons (w_nm 11 (fun _ => rfl) rfl) (a_cons (w_nm 15 (fun _ => rfl) rfl) (a_cons (w_len fm B (w_nm 10 (fun _ => rfl) rfl) qL) a_nil))))) ⟨h, ts, bk, st, by rw [nD_len, pll]; rfl, w, hok8, by omega, rfl⟩))) fun _ => (v_or1 (t_not (t_val (w_call fm L.booked (a_cons (w_nm 4 (fun _ => rfl) rfl) (a_cons (w_nm 5 (fun _ => rfl) rfl) (a_cons (w_nm 10 (fun _ => rfl) rfl) (a_cons (w_ix fm (w_nm 15 (fun _ => rfl) rfl) w_int qT rfl) (a_cons (w_ix fm (w_nm 15 (fun _ => rfl) rfl) w_int qT rfl) a_nil))))) ⟨h, ts, _, placesOf (bk ++ [st]), _, _, rfl, qL, h12, t20, by omega, bo.hl, bo.tl, fun r hr => (bo.hr r hr).trans pll.symm, fun r hr => (bo.tr r hr).trans pll.symm, bkd, rfl⟩)))))) rfl)) (fun hh M H c => nomatch hh) fun hh M H c => b_nil ?_)
  refine b_cons (k_if (g := false) c (et_eq (t_pw (v_or (t_not (t_val (w_call fm L.above (a_cons (w_nm 4 (fun _ => rfl) rfl) (a_cons (w_nm 5 (fun _ => rfl) rfl) (a_cons (w_ix fm (w_nm 15 (fun _ => rfl) rfl) w_int qT rfl) (a_cons (w_ix fm (w_nm 15 (fun _ => rfl) rfl) w_int qT rfl) a_nil)))) ⟨h, ts, _, bookOf h ts (bk ++ [st]), rfl, w, bo, by omega, rfl⟩))) fun _ => (v_or1 (t_not (t_val (wG_call fm gd L.heard (a_cons (w_call fm L.c60 (a_cons (w_nm 7 (fun _ => rfl) rfl) (a_cons (w_nm 13 (fun _ => rfl) rfl) a_nil)) ⟨h, ts, _, bk ++ [st], rfl, w, sa, rfl⟩) (a_cons (w_ix fm (w_nm 15 (fun _ => rfl) rfl) w_int qT rfl) (a_cons (w_ix fm (w_nm 15 (fun _ => rfl) rfl) w_int qT rfl) a_nil))) ⟨h, ts, _, bookOf h ts (bk ++ [st]), rfl, w, bo, by omega, rfl⟩)))))) rfl) (fun hh M H c => nomatch hh) fun hh M H c => b_nil ?_)
  refine b_cons (k_if (g := false) c (et_see (.set (.same _) (i := 9) rfl (.ins (k := 1) rfl (.same _)) rfl) (et_eq (t_not (t_val (wG_call fm gd L.shown (a_cons (w_nm 6 (fun _ => rfl) rfl) (a_cons (w_nm 7 (fun _ => rfl) rfl) (a_cons (w_nm 3 (fun _ => rfl) rfl) (a_cons (w_nm 13 (fun _ => rfl) rfl) (a_cons (w_nm 9 (fun _ => rfl) rfl) (a_cons (w_nm 15 (fun _ => rfl) rfl) (a_cons (w_nm 16 (fun _ => rfl) rfl) a_nil))))))) ⟨t, n, h, ts, first, _, _, bk ++ [st], sts, ars, bk ++ [st], rfl, om, cm.lt, w, qL, sts_map _, l19, hok, led, rfl⟩))) rfl)) (fun hh M H c => nomatch hh) fun hh M H c => b_nil ?_)
  refine b_one (k_set fm 11 c (w_nm 15 (fun _ => rfl) rfl) (fun _ => rfl) fun σ M H c => ?_)
  exact kn _ _ _ ((((((c.forget 12).forget 13).forget 14).forget 15).forget 16).forget 17)
end
end Hb
/-! Df26: the law's loop. -/
namespace Hb
open PySem L2 Mc Ly

section
variable {P : Program} {wd : World} {K : PySem.W.Frag} {mg : Str → Option Value} {base : Heap} {Cm Cw Cn CB CH CS : Addr} (L : LE P wd K mg base Cm Cw Cn CB CH CS)
variable {fl : Addr} {cdv : Value} {A : Around} {outer : List Env} {sh : Shared} {HH : Hp} {Er : XK}
variable (fm : Fam (Z81 P wd K mg base fl cdv A outer sh HH Er) P wd K mg base N81 10) (gd : Gd (Z81 P wd K mg base fl cdv A outer sh HH Er))
variable {t : List (List Nat)} {n h first : Nat} {ts : List Tie} {ss : List Stp} (cm : CMach t n first) (w : WOk h ts)
include L fm gd cm w in
theorem lp81 (l19 : ss.length ≤ 19) (hok : ∀ x ∈ ss, sok h ts.length t.length x = true) {pl net scr deal : Addr} {own : Own} {M0 H0 M H : Hp} {σ : L2.St} {D0 : Ends}
    (c : C [] M0 H0 ((pl, .l []) :: (net, .ins Cn (netF Cm Cw ⟨t, n, h, ts, first⟩ (List.replicate h first) (List.replicate ts.length first) [])) :: own) [some (.ref scr), some (.ref deal), some (.lst (tL t)), some (.int (first : Int)), some (.int (h : Int)), some (.lst (pL ts)), some (machD Cm t n), some (webD Cw h ts), some (.lst (ss.map stT)), some (.ref net), some (.ref pl), some (cD (bookOf h ts [])), none, none, none, none, none, none, none, none, none] σ M H)
    (kn : ∀ σ2 M2 H2, C [] M0 H0 own [some (.ref scr), some (.ref deal), some (.lst (tL t)), some (.int (first : Int)), some (.int (h : Int)), some (.lst (pL ts)), some (machD Cm t n), some (webD Cw h ts), some (.lst (ss.map stT)), none, none, none, none, none, none, none, none, none, none, none, none] σ2 M2 H2 → D0.nx σ2 H2) :
    wS (Z81 P wd K mg base fl cdv A outer sh HH Er) ((defBody s81).getD 8 (.Pass ⟨0, 0, 0, 0⟩)) D0 σ H := by
  have B := L.B
  have om := cm.ok
  refine (k_forB fm (G := List Nat × List Nat × Nat) (fun i x => x.2.2 = i ∧ Led t h ts first (ss.take i) x.1 x.2.1) (fun x => (pl, .l (nD (placesOf (ss.take x.2.2)))) :: (net, .ins Cn (netF Cm Cw ⟨t, n, h, ts, first⟩ x.1 x.2.1 (ss.take x.2.2))) :: own) (fun x => [some (.ref scr), some (.ref deal), some (.lst (tL t)), some (.int (first : Int)), some (.int (h : Int)), some (.lst (pL ts)), some (machD Cm t n), some (webD Cw h ts), some (.lst (ss.map stT)), some (.ref net), some (.ref pl), some (cD (bookOf h ts (ss.take x.2.2))), none, none, none, none, none, none, none, none, none]) (List.replicate h first, List.replicate ts.length first, 0) (f1 12) c (i_rg1 fm B (w_len fm B (w_nm 8 (fun _ => rfl) rfl) qL) (by rw [List.length_map]; omega)) ⟨rfl, Led.start⟩ rfl (fun _ _ _ σ M H c => c) (fun i d h => (g_name fm 12 (fun _ => rfl))) (fun M1 H1 lf i d x σ M H hi hP c D1 e1 e2 k2 => ?_) (fun x σ M H hP c => ?_) (fun _ => passes_of rfl))
  · obtain ⟨hl, rfl⟩ := rgD_get hi
    rw [Int.toNat_natCast, List.length_map] at hl
    rw [show (0 : Int) + (i : Int) = (i : Int) by omega] at c
    obtain ⟨sts, ars, j⟩ := x
    obtain ⟨ej, led⟩ := hP
    have ej : j = i := ej
    subst ej
    have led : Led t h ts first (ss.take j) sts ars := led
    obtain ⟨st, hst⟩ : ∃ st, ss[j]? = some st := ⟨_, List.getElem?_eq_getElem hl⟩
    have etk : ss.take (j + 1) = ss.take j ++ [st] := by rw [List.take_add_one, hst]; rfl
    have hok1 : ∀ x ∈ ss.take j, sok h ts.length t.length x = true := fun x hx => hok x (List.mem_of_mem_take hx)
    have hokT : ∀ x ∈ ss.take j ++ [st], sok h ts.length t.length x = true := fun x hx => hok x (List.mem_of_mem_take (etk ▸ hx))
    have ltk : (ss.take j).length = j := by rw [List.length_take]; omega
    have ltT : (ss.take j ++ [st]).length ≤ 19 := by rw [List.length_append, ltk]; show j + 1 ≤ 19; omega
    have hsm := hok st (List.mem_of_getElem? hst)
    have ecut : slD none (some ((j : Int) + 1)) (.lst (ss.map stT)) = .lst ((ss.take j ++ [st]).map stT) := by
      show D.lst (cutD (ss.map stT) none (some (((j + 1 : Nat) : Int)))) = _
      rw [cut_to (by rw [List.length_map]; omega), ← List.map_take, etk]
    generalize hbk : ss.take j = bk at *
    refine b_cons (k_par fm 13 14 c (EA.xa (a_cons (E.eq (w_sl fm (w_nm 8 (fun _ => rfl) rfl) o_none (o_some (i := (j : Int) + 1) (E.eq (x := addD (.int (j : Int)) (.int 1)) (w_add (x := .int (j : Int)) (y := .int 1) fm (w_nm 12 (fun _ => rfl) rfl) w_int trivial) rfl)) qL) ecut) (a_cons (w_ix fm (w_nm 8 (fun _ => rfl) rfl) (w_nm 12 (fun _ => rfl) rfl) qL (atI_of j (by rw [List.getElem?_map, hst]; rfl))) a_nil))) (fun _ => rfl) (fun _ => rfl) ?_)
    rintro ds o ⟨rfl, rfl⟩
    refine ⟨_, _, rfl, fun σ M H c => ?_⟩
    have fin : ∀ (sts' ars' : List Nat) σ M H, Led t h ts first (bk ++ [st]) sts' ars' → C (((pl, OC.l (nD (placesOf bk))) :: (net, OC.ins Cn (netF Cm Cw ⟨t, n, h, ts, first⟩ sts ars bk)) :: own).map (·.1)) M1 H1 ((pl, .l (nD (placesOf (bk ++ [st])))) :: (net, .ins Cn (netF Cm Cw ⟨t, n, h, ts, first⟩ sts' ars' (bk ++ [st]))) :: own) [some (.ref scr), some (.ref deal), some (.lst (tL t)), some (.int (first : Int)), some (.int (h : Int)), some (.lst (pL ts)), some (machD Cm t n), some (webD Cw h ts), some (.lst (ss.map stT)), some (.ref net), some (.ref pl), some (cD (bookOf h ts bk)), some (.int (j : Int)), some (.lst ((bk ++ [st]).map stT)), some (stT st), none, none, none, none, none, none] σ M H → wB (Z81 P wd K mg base fl cdv A outer sh HH Er) (lb81.drop 2) D1 σ H := fun sts' ars' σ M H ld c =>
      lr81 L fm gd cm w ltT hokT ld c fun σ2 M2 H2 c2 => k2 (sts', ars', j + 1) _ _ _ ⟨rfl, by rw [etk]; exact ld⟩ (by
        show C _ _ _ ((pl, .l (nD (placesOf (ss.take (j + 1))))) :: (net, .ins Cn (netF Cm Cw ⟨t, n, h, ts, first⟩ sts' ars' (ss.take (j + 1)))) :: own) _ _ _ _
        rw [etk]
        exact c2)
    obtain ⟨x, hx, ex⟩ := st_first st
    have ns := led.st om cm.lt hok1
    refine b_cons (k_if c (t_cmp (w_ix fm (w_nm 14 (fun _ => rfl) rfl) w_int qT hx) w_str cm_eqS) (fun hh M H c => ?_) fun hh M H c => ?_)
    · rw [ex] at hh
      cases st with
      | meet i => cases hh
      | act v k =>
        have o : (decide (v < h) && decide (k < t.length)) = true := hsm
        rw [Bool.and_eq_true, decide_eq_true_eq, decide_eq_true_eq] at o
        have p1 : placesOf (bk ++ [Stp.act v k]) = placesOf bk ++ [v] := placesOf_append _ _
        refine b_cons (k_drop c (x_meth fm (kk := 1) (d := .int (step t (sts.getD v 0) k : Nat)) (o1 := [(net, .ins Cn (netF Cm Cw ⟨t, n, h, ts, first⟩ sts ars bk))]) (o2 := (pl, .l (nD (placesOf bk))) :: own) (o1' := [(net, .ins Cn (netF Cm Cw ⟨t, n, h, ts, first⟩ (sts.set v (step t (sts.getD v 0) k)) ars (bk ++ [.act v k])))]) L.N.kl.cl L.do_ (w_nm 9 (fun _ => rfl) rfl) rfl rfl (a_cons (w_ix fm (w_nm 14 (fun _ => rfl) rfl) w_int qT rfl) (a_cons (w_ix fm (w_nm 14 (fun _ => rfl) rfl) w_int qT rfl) a_nil)) (.swap _ _ _) ⟨⟨t, n, h, ts, first⟩, net, sts, ars, bk, v, k, rfl, rfl, ⟨om, w, cm.lt⟩, ns, by omega, o.1, o.2, rfl, rfl⟩) ?_)
        rintro d o' M H ⟨rfl, rfl⟩ c
        refine b_one (k_app fm c (kk := 1) (w_nm 10 (fun _ => rfl) rfl) rfl (E.x (w_ix fm (w_nm 14 (fun _ => rfl) rfl) w_int qT rfl)) ?_)
        rintro d o' ⟨rfl, rfl⟩
        refine ⟨1, _, rfl, by rw [nD_len, placesOf_len]; have := deedsOf_len (ss := bk); omega, fun M H c => ?_⟩
        refine fin _ _ _ M _ (led.act w (fun s hs => sok_mono om.d8 (hok1 s hs)) o.1) ?_
        rw [p1, ← nD_snoc]
        exact c.perm (.swap _ _ _)
    · rw [ex] at hh
      cases st with
      | act v k => cases hh
      | meet i =>
        have o : decide (i < ts.length) = true := hsm
        have hi : ts[i]? = some (ts.getD i (0, 0)) := getD_at (of_decide_eq_true o)
        generalize ts.getD i (0, 0) = p at hi
        have p1 : placesOf (bk ++ [Stp.meet i]) = placesOf bk := (placesOf_append _ _).trans (List.append_nil _)
        obtain ⟨b, td, ld⟩ := led.meet cm w hok1 hi
        refine b_one (k_drop c (x_meth fm (kk := 1) (d := .int (b : Nat)) (o1 := [(net, .ins Cn (netF Cm Cw ⟨t, n, h, ts, first⟩ sts ars bk))]) (o2 := (pl, .l (nD (placesOf bk))) :: own) (o1' := [(net, .ins Cn (netF Cm Cw ⟨t, n, h, ts, first⟩ ((sts.set p.1 b).set p.2 b) (ars.set i b) (bk ++ [.meet i])))]) L.N.kl.cl L.meet (w_nm 9 (fun _ => rfl) rfl) rfl rfl (a_cons (w_ix fm (w_nm 14 (fun _ => rfl) rfl) w_int qT rfl) a_nil) (.swap _ _ _) ⟨⟨t, n, h, ts, first⟩, net, sts, ars, bk, i, b, p, rfl, rfl, ⟨om, w, cm.lt⟩, ns, by omega, hi, td, rfl, rfl⟩) ?_)
        rintro d o' M H ⟨rfl, rfl⟩ c
        refine fin _ _ _ M _ ld ?_
        rw [p1]
        exact c.perm (.swap _ _ _)
  · obtain ⟨sts, ars, j⟩ := x
    have c := C.drop (F := []) c (fun h => nomatch h)
    have c := C.drop (F := []) c (fun h => nomatch h)
    exact kn _ _ _ (((c.forget 9).forget 10).forget 11)
end
end Hb
/-! Df27: behind the law's loop. -/
namespace Hb
open PySem L2 Mc Ly
def OddD (d : D) : Prop := d = .non ∨ d = .int (-1) ∨ d = .str "0" ∨ d = .bl true ∨ d = .int 99
theorem odd_of {d : D} {n : Nat} (h : OddD d) (hn : n ≤ 12) : odd n d := by
  rcases h with rfl | rfl | rfl | rfl | rfl
  · exact ⟨⟨_, .non⟩, rfl⟩
  · exact ⟨⟨_, .int _⟩, rfl⟩
  · exact ⟨⟨_, .str _⟩, rfl⟩
  · exact ⟨⟨_, .bl _⟩, rfl⟩
  · refine ⟨⟨_, .int _⟩, ?_⟩
    show (decide ((0 : Int) ≤ 99) && decide ((99 : Int) < (n : Int))) = false
    rw [decide_eq_false (show ¬ ((99 : Int) < (n : Int)) by omega), Bool.and_false]
theorem odd_py {d : D} (h : OddD d) : ∃ p, Py d p ∧ Shw (.list [.str "state", p]) ∧ Shw (.list [.str "house", p]) := by
  rcases h with rfl | rfl | rfl | rfl | rfl
  · exact ⟨_, .non, ⟨by decide +kernel, by decide +kernel, by decide +kernel⟩, ⟨by decide +kernel, by decide +kernel, by decide +kernel⟩⟩
  · exact ⟨_, .int _, ⟨by decide +kernel, by decide +kernel, by decide +kernel⟩, ⟨by decide +kernel, by decide +kernel, by decide +kernel⟩⟩
  · exact ⟨_, .str _, ⟨by decide +kernel, by decide +kernel, by decide +kernel⟩, ⟨by decide +kernel, by decide +kernel, by decide +kernel⟩⟩
  · exact ⟨_, .bl _, ⟨by decide +kernel, by decide +kernel, by decide +kernel⟩, ⟨by decide +kernel, by decide +kernel, by decide +kernel⟩⟩
  · exact ⟨_, .int _, ⟨by decide +kernel, by decide +kernel, by decide +kernel⟩, ⟨by decide +kernel, by decide +kernel, by decide +kernel⟩⟩
theorem XRT.eq {Pt : Addr} {q : Str} {own : Own} {ρ : Ev} {tt : TT} {g g' : Bool} (h : XRT Pt q own ρ tt g) (e : g = g') : XRT Pt q own ρ tt g' := e ▸ h
theorem FnOk.ex {P : Program} {wd : World} {K : PySem.W.Frag} {mg : Str → Option Value} {base : Heap} {x : Str} {k k' : Nat} {ps : List Str} {sp : Sp} (c : Cal P wd K mg base x k ps sp) (hk : k ≤ k') : ∃ f fd, FnOk P wd K mg base (L2.CX P wd) k' f fd ps sp ∧ mg x = some (.ref f) ∧ PySem.W.keepIn K (.ref f) = true ∧ Binds K fd ps [] :=
  let ⟨f, fd, G, h⟩ := c.ex
  ⟨f, fd, G.mono hk, h⟩
section
variable {P : Program} {wd : World} {K : PySem.W.Frag} {mg : Str → Option Value} {base : Heap} {Cm Cw Cn CB CH CS : Addr} (L : LE P wd K mg base Cm Cw Cn CB CH CS)
variable {fl cL Pt : Addr} {A : Around} {outer : List Env} {sh : Shared} {HH : Hp} {Er : XK} (TB : LamX.TabB base mg cL Pt)
variable (fm : Fam (Z81 P wd K mg base fl (.ref cL) A outer sh HH Er) P wd K mg base N81 10) (gd : Gd (Z81 P wd K mg base fl (.ref cL) A outer sh HH Er))
variable {t : List (List Nat)} {n h first : Nat} {ts : List Tie} {ss : List Stp} (om : MOk t n) (hf : first < n) (w : WOk h ts)
include L fm gd om hf w TB in
/-- the odd ones -/
theorem lo81 (l19 : ss.length ≤ 19) {scr : Addr} {g : Dl} {od : D} (ho : OddD od) {M H : Hp} {σ : L2.St} {D0 : Ends}
    (s : Sd (g.own ++ []) [some (.ref scr), some (.ref g.a), some (.lst (tL t)), some (.int (first : Int)), some (.int (h : Int)), some (.lst (pL ts)), some (machD Cm t n), some (webD Cw h ts), some (.lst (ss.map stT)), none, none, none, none, none, none, none, none, none, some od, none, none] σ M H)
    (tb : LamX.TabS H Pt ((Z81 P wd K mg base fl (.ref cL) A outer sh HH Er ()).env.qual ++ "<lambda>")) (hok : ∀ x ∈ ss, sok h ts.length t.length x = true)
    (kn : ∀ σ2 M2 H2, Sd (g.own ++ []) [some (.ref scr), some (.ref g.a), some (.lst (tL t)), some (.int (first : Int)), some (.int (h : Int)), some (.lst (pL ts)), some (machD Cm t n), some (webD Cw h ts), some (.lst (ss.map stT)), none, none, none, none, none, none, none, none, none, some od, none, none] σ2 M2 H2 → LamX.TabS H2 Pt ((Z81 P wd K mg base fl (.ref cL) A outer sh HH Er ()).env.qual ++ "<lambda>") → wB (Z81 P wd K mg base fl (.ref cL) A outer sh HH Er) ((defBody s81).drop 12) D0 σ2 H2) :
    wB (Z81 P wd K mg base fl (.ref cL) A outer sh HH Er) ((defBody s81).drop 10) D0 σ H := by
  have B := L.B
  obtain ⟨g78, fd78, F78⟩ := L.f78
  obtain ⟨p, hp, sh1, sh2⟩ := odd_py ho
  have nd := fm.nd
  refine b_cons (k_ifR (g := false) s tb (XRT.eq (xr_cmp (xr_repr fm gd B (xr_bad fm F78 L.bad TB rfl (kk := 8) (by decide) (show LamX.LamS (defScope s81) _ from LamX.lamS_by (by decide +kernel)) rfl (fun _ _ _ _ _ => rfl) (Cc := CS) (w := "state") (f := .state) (x := od) (List.mem_cons_of_mem _ (List.mem_cons_of_mem _ List.mem_cons_self)) (fun W M1 H1 hW => z_call (fam_lam nd) L.z63 tk_lam (a_cons (w_nm 6 (fun _ => rfl) rfl) (a_cons (w_nm 7 (fun _ => rfl) rfl) (a_cons (w_nm 18 (fun _ => rfl) rfl) (a_cons (w_nm 8 (fun _ => rfl) rfl) (a_cons (w_nm 18 (fun _ => rfl) rfl) a_nil))))) ⟨t, n, h, ts, od, _, od, rfl, .inl ⟨odd_of ho om.n12, rfl, rfl, rfl⟩⟩ hW)) (.lst (.cons (.str _) (.cons hp .nil))) sh1) (w_repr fm gd B (w_lst (a_cons w_str (a_cons (w_nm 18 (fun _ => rfl) rfl) a_nil)) (show 2 ≤ 100000 by decide)) (.lst (.cons (.str _) (.cons hp .nil))) sh1) cm_neS) (by rw [decide_eq_true rfl]; rfl)) (fun hh => nomatch hh) fun _ M H ex s tb => b_nil ?_)
  refine b_cons (k_ifR (g := false) s tb (XRT.eq (xr_cmp (xr_repr fm gd B (xr_bad fm F78 L.bad TB rfl (kk := 8) (by decide) (show LamX.LamS (defScope s81) _ from LamX.lamS_by (by decide +kernel)) rfl (fun _ _ _ _ _ => rfl) (Cc := CH) (w := "house") (f := .house) (x := od) (List.mem_cons_of_mem _ List.mem_cons_self) (fun W M1 H1 hW => z_call (fam_lam nd) L.z63 tk_lam (a_cons (w_nm 6 (fun _ => rfl) rfl) (a_cons (w_nm 7 (fun _ => rfl) rfl) (a_cons (w_nm 3 (fun _ => rfl) rfl) (a_cons (w_nm 8 (fun _ => rfl) rfl) (a_cons (w_nm 18 (fun _ => rfl) rfl) a_nil))))) ⟨t, n, h, ts, .int (first : Int), _, od, rfl, .inr ⟨first, ss, rfl, hf, .inr ⟨⟨_, qL, sts_map ss⟩, by omega, hok, odd_of ho w.h12, rfl, rfl, rfl⟩⟩⟩ hW)) (.lst (.cons (.str _) (.cons hp .nil))) sh2) (w_repr fm gd B (w_lst (a_cons w_str (a_cons (w_nm 18 (fun _ => rfl) rfl) a_nil)) (show 2 ≤ 100000 by decide)) (.lst (.cons (.str _) (.cons hp .nil))) sh2) cm_neS) (by rw [decide_eq_true rfl]; rfl)) (fun hh => nomatch hh) fun _ M H ex s tb => b_nil ?_)
  exact kn σ M H s tb
end
end Hb
/-! Df28: the law's last lines. -/
namespace Hb
open PySem L2 Mc Ly
theorem eqv_same {p : PyData} (h : SeqAt.shaped p = true) (c : p.canLay0 = true) : (!PyData.eqv p p) = false := by rw [SeqAt.eqv_refl _ c]; rfl
theorem steps_lay {n : Nat} : (PyData.list [.str "steps", .int (n : Int)]).canLay0 = true := by
  have h : (PyData.str "steps").canLay0 = true := by decide +kernel
  show ((PyData.str "steps").canLay0 && (true && true)) = true
  rw [h]; rfl
theorem steps_py {n : Nat} : SeqAt.shaped (.list [.str "steps", .int (n : Int)]) = true ∧ (PyData.list [.str "steps", .int (n : Int)]).canLay0 = true := ⟨shaped_of ⟨steps_lay, by show max 0 (max 0 0) + 1 ≤ 3; decide⟩, steps_lay⟩
def BadX (d : D) : Prop := d = .int 8 ∨ d = .non ∨ d = .int (-1)
theorem bent_of {h k : Nat} {ts : List Tie} {ss : List Stp} {b x : D} {a : Nat} (sb : SqD b [.str "do", .int (a : Int), x]) (tx : ∃ T, TyD x T) (hb : isBelow (k : Int) x = false) (l : ss.length < 400) (hok : ∀ s ∈ ss, sok h ts.length k s = true) : Bent h ts k (.lst (ss.map stT ++ [b])) ss :=
  ⟨let ⟨T, tx⟩ := tx; ⟨_, b, x, a, T, qL, sts_map ss, sb, tx, by rw [hb, Bool.and_false]⟩, l, hok⟩
theorem badX_ty {x : D} (h : BadX x) : (∃ T, TyD x T) ∧ isBelow ((8 : Nat) : Int) x = false := by
  rcases h with rfl | rfl | rfl
  · exact ⟨⟨_, .int _⟩, rfl⟩
  · exact ⟨⟨_, .non⟩, rfl⟩
  · exact ⟨⟨_, .int _⟩, rfl⟩
section
variable {P : Program} {wd : World} {K : PySem.W.Frag} {mg : Str → Option Value} {base : Heap} {Cm Cw Cn CB CH CS : Addr} (L : LE P wd K mg base Cm Cw Cn CB CH CS)
variable {fl cL Pt : Addr} {A : Around} {outer : List Env} {sh : Shared} {HH : Hp} {Er : XK} (TB : LamX.TabB base mg cL Pt)
variable (fm : Fam (Z81 P wd K mg base fl (.ref cL) A outer sh HH Er) P wd K mg base N81 10) (gd : Gd (Z81 P wd K mg base fl (.ref cL) A outer sh HH Er))
variable {t : List (List Nat)} {n h first : Nat} {ts : List Tie} {ss : List Stp} (om : MOk t n) (hf : first < n) (w : WOk h ts)
include L fm gd om hf w TB in
/-- the same answers, however they are asked -/
theorem lz81 (l19 : ss.length ≤ 19) (hok : ∀ x ∈ ss, sok h ts.length t.length x = true) {own : Own} {x0 x1 x18 x19 : Option D} {F : List Addr} {M0 H0 M H : Hp} {σ : L2.St} {D0 : Ends}
    (c : C F M0 H0 own [x0, x1, some (.lst (tL t)), some (.int (first : Int)), some (.int (h : Int)), some (.lst (pL ts)), some (machD Cm t n), some (webD Cw h ts), some (.lst (ss.map stT)), none, none, none, none, none, none, none, none, none, x18, x19, none] σ M H)
    (kn : ∀ H', D0.rt (.bl true) H') : wB (Z81 P wd K mg base fl (.ref cL) A outer sh HH Er) ((defBody s81).drop 16) D0 σ H := by
  have B := L.B
  obtain ⟨f60, fd60, F60, K60⟩ := L.k60
  obtain ⟨f55, fd55, F55, K55⟩ := L.k55
  obtain ⟨f63, fd63, F63, K63⟩ := L.k63
  have hok8 : ∀ x ∈ ss, sok h ts.length 8 x = true := fun x hx => sok_mono om.d8 (hok x hx)
  have sa : StA Cw h ts (.lst (ss.map stT)) ss := ⟨⟨_, qL, sts_map _⟩, by omega, hok8⟩
  have sT : StA Cw h ts (.tup (ss.map stT)) ss := ⟨⟨_, qT, sts_map _⟩, by omega, hok8⟩
  have h1 := w.h1
  have ly : ∀ l : List Nat, (PyData.tuple (pyN l)).canLay0 = true ∧ (PyData.tuple (pyN l)).depth ≤ 3 := fun l => ⟨(lay_nD l).1, by show PyData.depthAll (pyN l) + 1 ≤ 3; rw [(lay_nD l).2]; decide⟩
  refine b_cons (k_if (g := false) c (et_eq (t_pw (v_or (t_cmp (w_callR fm (ks := ["steps", "web"]) F60 K60 (fun _ _ _ _ _ _ us hl => match us, hl with | [_, _], _ => rfl) (kw_cons (w_tuple fm B (w_nm 8 (fun _ => rfl) rfl) qL) (kw_cons (w_nm 7 (fun _ => rfl) rfl) kw_nil)) rfl ⟨h, ts, _, ss, rfl, w, sT, rfl⟩) (w_call fm L.c60 (a_cons (w_nm 7 (fun _ => rfl) rfl) (a_cons (w_nm 8 (fun _ => rfl) rfl) a_nil)) ⟨h, ts, _, ss, rfl, w, sa, rfl⟩) (cm_neP fm py_cD py_cD (shaped_of lay_cD) (shaped_of lay_cD))) fun _ => v_or1 (t_cmp (w_callR fm (ks := ["steps", "web"]) F55 K55 (fun _ _ _ _ _ _ us hl => match us, hl with | [_, _], _ => rfl) (kw_cons (w_tuple fm B (w_nm 8 (fun _ => rfl) rfl) qL) (kw_cons (w_nm 7 (fun _ => rfl) rfl) kw_nil)) rfl ⟨h, ts, _, ss, rfl, sT, rfl⟩) (w_call fm L.c55 (a_cons (w_nm 7 (fun _ => rfl) rfl) (a_cons (w_nm 8 (fun _ => rfl) rfl) a_nil)) ⟨h, ts, _, ss, rfl, sa, rfl⟩) (cm_neP fm (.tup (py_nD _)) (.tup (py_nD _)) (shaped_of (ly _)) (shaped_of (ly _)))))) ?_) (fun hh M H c => nomatch hh) fun hh M H c => b_nil ?_)
  · rw [SeqAt.eqv_refl _ lay_cD.1, SeqAt.eqv_refl _ (ly _).1]; rfl
  refine b_cons (k_if (g := false) c (et_eq (t_cmp (w_callR fm (ks := ["house", "steps", "first", "web", "machine"]) F63 K63 (fun _ _ _ _ _ _ us hl => match us, hl with | [_, _, _, _, _], _ => rfl) (kw_cons w_int (kw_cons (w_tuple fm B (w_nm 8 (fun _ => rfl) rfl) qL) (kw_cons (w_nm 3 (fun _ => rfl) rfl) (kw_cons (w_nm 7 (fun _ => rfl) rfl) (kw_cons (w_nm 6 (fun _ => rfl) rfl) kw_nil))))) rfl ⟨t, n, h, ts, first, _, _, ss, 0, rfl, om, hf, w, qT, sts_map _, by omega, hok, by omega, rfl⟩) (w_call fm L.c63 (a_cons (w_nm 6 (fun _ => rfl) rfl) (a_cons (w_nm 7 (fun _ => rfl) rfl) (a_cons (w_nm 3 (fun _ => rfl) rfl) (a_cons (w_nm 8 (fun _ => rfl) rfl) (a_cons w_int a_nil))))) ⟨t, n, h, ts, first, _, _, ss, 0, rfl, om, hf, w, qL, sts_map _, by omega, hok, by omega, rfl⟩) cm_neS) ?_) (fun hh M H c => nomatch hh) fun hh M H c => b_nil ?_)
  · rw [decide_eq_true rfl]; rfl
  have sb : StA Cw h ts (.lst [.lst [.str "do", .int ((h - 1 : Nat) : Int), .int 7]]) [.act (h - 1) 7] := ⟨⟨_, qL, rfl, fun i s e => by
    match i, e with
    | 0, e => cases e; exact ⟨_, rfl, qL⟩
    | i + 1, e => cases e⟩, by show 1 ≤ 400; decide, fun s hs => by
    rw [List.mem_singleton.mp hs]
    show (decide (h - 1 < h) && decide (7 < 8)) = true
    rw [decide_eq_true (show h - 1 < h by omega)]; rfl⟩
  have s7 : Shw (.tuple [.int 7]) := ⟨by decide +kernel, by decide +kernel, by decide +kernel⟩
  refine b_one (k_ret c (E.eq (w_cmp (w_repr fm gd B (q := .tuple [.int 7]) (w_call fm L.c55 (a_cons (w_nm 7 (fun _ => rfl) rfl) (a_cons (E.eq (w_lst (a_cons (w_lst (a_cons w_str (a_cons (w_sub (w_nm 4 (fun _ => rfl) rfl) w_int) (a_cons w_int a_nil))) (show 3 ≤ 100000 by decide)) a_nil) (show 1 ≤ 100000 by decide)) (show Ly.D.lst [.lst [.str "do", .int ((h : Int) - 1), .int 7]] = .lst [.lst [.str "do", .int ((h - 1 : Nat) : Int), .int 7]] from by rw [show ((h - 1 : Nat) : Int) = (h : Int) - 1 by omega])) a_nil)) ⟨h, ts, _, [.act (h - 1) 7], rfl, sb, rfl⟩) (.tup (.cons (.int 7) .nil)) s7) (w_repr fm gd B (w_tup (a_cons w_int a_nil) (show 1 ≤ 100000 by decide)) (.tup (.cons (.int 7) .nil)) s7) cm_eqS) (congrArg Ly.D.bl (decide_eq_true rfl))) fun v M H c r => by rw [r.raw_eq]; exact kn H)
include L fm gd om hf w TB in
/-- steps that are none -/
theorem lx81 (l19 : ss.length ≤ 19) (hok : ∀ x ∈ ss, sok h ts.length t.length x = true) {own : Own} {x0 x1 x18 : Option D} {x : D} {a : Nat} (bx : BadX x) {M H : Hp} {σ : L2.St} {D0 : Ends}
    (s : Sd own [x0, x1, some (.lst (tL t)), some (.int (first : Int)), some (.int (h : Int)), some (.lst (pL ts)), some (machD Cm t n), some (webD Cw h ts), some (.lst (ss.map stT)), none, none, none, none, none, none, none, none, none, x18, some (.lst (ss.map stT ++ [.tup [.str "do", .int (a : Int), x]])), none] σ M H)
    (tb : LamX.TabS H Pt ((Z81 P wd K mg base fl (.ref cL) A outer sh HH Er ()).env.qual ++ "<lambda>"))
    (kn : ∀ H', D0.rt (.bl true) H') : wB (Z81 P wd K mg base fl (.ref cL) A outer sh HH Er) ((defBody s81).drop 13) D0 σ H := by
  have B := L.B
  obtain ⟨g78, fd78, F78⟩ := L.f78
  have nd := fm.nd
  have hok8 : ∀ x ∈ ss, sok h ts.length 8 x = true := fun x hx => sok_mono om.d8 (hok x hx)
  obtain ⟨f58, fd58, G58, m58, k58, b58⟩ := FnOk.ex L.z58 (show 7 ≤ 8 by decide)
  obtain ⟨f55, fd55, G55, m55, k55, b55⟩ := FnOk.ex L.z55 (show 7 ≤ 8 by decide)
  obtain ⟨f60, fd60, G60, m60, k60, b60⟩ := FnOk.ex L.z60 (show 8 ≤ 8 by decide)
  have key : ∀ u ∈ [V.ref f58, V.ref f55, V.ref f60], ∃ g fd, u = .ref g ∧ FnOk P wd K mg base (L2.CX P wd) 8 g fd ["web", "steps"] (spX (ZWs Cw CB)) ∧ PySem.W.keepIn K (.ref g) = true ∧ Binds K fd ["web", "steps"] [] := fun u hu => by
    obtain rfl | hu := List.mem_cons.mp hu
    · exact ⟨f58, fd58, rfl, G58.mono (by decide), k58, b58⟩
    obtain rfl | hu := List.mem_cons.mp hu
    · exact ⟨f55, fd55, rfl, G55.mono (by decide), k55, b55⟩
    rw [List.mem_singleton.mp hu]
    exact ⟨f60, fd60, rfl, G60, k60, b60⟩
  obtain ⟨tx, hx⟩ := badX_ty bx
  refine b_cons (k_forT fm (us := [V.ref f58, V.ref f55, V.ref f60]) 20 s tb (w_tup (a_cons (w_glob fm m58 rfl) (a_cons (w_glob fm m55 rfl) (a_cons (w_glob fm m60 rfl) a_nil))) (show 3 ≤ 100000 by decide)) (fun _ => rfl) (fun i u σ M H hi s tb D1 e1 k2 => ?_) (fun σ M H s tb => ?_) (fun _ => passes_of rfl))
  · obtain ⟨g, fd, rfl, G, hk, hb⟩ := key u (List.mem_of_getElem? hi)
    refine b_one (k_ifR (g := false) s tb (XRT.eq (xr_cmp (xr_bad fm F78 L.bad TB rfl (kk := 8) (by decide) (show LamX.LamS (defScope s81) _ from LamX.lamS_by (by decide +kernel)) rfl (fun _ _ _ _ _ => rfl) (Cc := CB) (w := "steps") (f := .at_) (x := .int (ss.length : Nat)) List.mem_cons_self (fun W M1 H1 hW => z_callL (fam_lam nd) 20 G hk hb rfl tk_lam (a_cons (w_nm 7 (fun _ => rfl) rfl) (a_cons (w_nm 19 (fun _ => rfl) rfl) a_nil)) ⟨h, ts, _, ss, rfl, bent_of qT tx hx (by omega) hok8, rfl, rfl, rfl⟩ hW (by decide) (fun _ => rfl) (fun _ => Or.inr (Or.inr rfl)))) (w_lst (a_cons w_str (a_cons (E.eq (y := .int (ss.length : Nat)) (w_len fm B (w_nm 8 (fun _ => rfl) rfl) qL) (by rw [List.length_map])) a_nil)) (show 2 ≤ 100000 by decide)) (cm_neP fm (.lst (.cons (.str _) (.cons (.int _) .nil))) (.lst (.cons (.str _) (.cons (.int _) .nil))) steps_py.1 steps_py.1)) (eqv_same steps_py.1 steps_py.2)) (fun hh => nomatch hh) fun _ M H ex s tb => b_nil ?_)
    exact k2 σ M H ex ⟨s.mh, s.env.forget 20, s.ow⟩ tb
  refine b_cons (k_set fm 19 (Sd.c s) (w_add fm (x := .lst (ss.map stT)) (y := .lst [.lst [.str "do", .int 0, .int (t.length : Nat)]]) (w_nm 8 (fun _ => rfl) rfl) (w_lst (a_cons (w_lst (a_cons w_str (a_cons w_int (a_cons (E.eq (y := .int (t.length : Nat)) (w_len fm B (w_nm 2 (fun _ => rfl) rfl) qL) (by rw [tL_len])) a_nil))) (show 3 ≤ 100000 by decide)) a_nil) (show 1 ≤ 100000 by decide)) (show (ss.map stT).length + 1 ≤ 100000 by rw [List.length_map]; omega)) (fun _ => rfl) fun σ M2 H2 c => ?_)
  have tb := C.tab c tb (Sd.nx s)
  have s := c.sd
  refine b_cons (k_ifR (g := false) s tb (XRT.eq (xr_cmp (xr_bad fm F78 L.bad TB rfl (kk := 8) (by decide) (show LamX.LamS (defScope s81) _ from LamX.lamS_by (by decide +kernel)) rfl (fun _ _ _ _ _ => rfl) (Cc := CB) (w := "steps") (f := .at_) (x := .int (ss.length : Nat)) List.mem_cons_self (fun W M1 H1 hW => z_call (fam_lam nd) L.z63 tk_lam (a_cons (w_nm 6 (fun _ => rfl) rfl) (a_cons (w_nm 7 (fun _ => rfl) rfl) (a_cons (w_nm 3 (fun _ => rfl) rfl) (a_cons (w_nm 19 (fun _ => rfl) rfl) (a_cons w_non a_nil))))) ⟨t, n, h, ts, .int (first : Int), _, .non, rfl, .inr ⟨first, ss, rfl, hf, .inl ⟨bent_of (a := 0) (x := .int (t.length : Nat)) qL ⟨_, .int _⟩ (by
    show (decide ((0 : Int) ≤ ((t.length : Nat) : Int)) && decide (((t.length : Nat) : Int) < ((t.length : Nat) : Int))) = false
    rw [decide_eq_false (show ¬ (((t.length : Nat) : Int) < ((t.length : Nat) : Int)) by omega), Bool.and_false]) (by omega) hok, rfl, rfl, rfl⟩⟩⟩ hW)) (w_lst (a_cons w_str (a_cons (E.eq (y := .int (ss.length : Nat)) (w_len fm B (w_nm 8 (fun _ => rfl) rfl) qL) (by rw [List.length_map])) a_nil)) (show 2 ≤ 100000 by decide)) (cm_neP fm (.lst (.cons (.str _) (.cons (.int _) .nil))) (.lst (.cons (.str _) (.cons (.int _) .nil))) steps_py.1 steps_py.1)) (eqv_same steps_py.1 steps_py.2)) (fun hh => nomatch hh) fun _ M H ex s tb => b_nil ?_)
  exact lz81 L TB fm gd om hf w l19 hok (Sd.c s) kn
end
end Hb
/-! Df29: the law's body. -/
namespace Hb
open PySem L2 Mc Ly
section
variable {P : Program} {wd : World} {K : PySem.W.Frag} {mg : Str → Option Value} {base : Heap} {Cm Cw Cn CB CH CS : Addr} (L : LE P wd K mg base Cm Cw Cn CB CH CS)
variable {fl cL Pt : Addr} {A : Around} {outer : List Env} {sh : Shared} {HH : Hp} {Er : XK} (TB : LamX.TabB base mg cL Pt)
variable (fm : Fam (Z81 P wd K mg base fl (.ref cL) A outer sh HH Er) P wd K mg base N81 10) (gd : Gd (Z81 P wd K mg base fl (.ref cL) A outer sh HH Er))
section
variable {t : List (List Nat)} {n h first : Nat} {ts : List Tie} {ss : List Stp} (om : MOk t n) (hf : first < n) (w : WOk h ts)
include L fm gd om hf w TB in
theorem lq81 (l19 : ss.length ≤ 19) (hok : ∀ x ∈ ss, sok h ts.length t.length x = true) {scr : Addr} {g : Dl} (ok : DlOk g) {M0 H0 M H : Hp} {σ : L2.St} {D0 : Ends}
    (c : C [] M0 H0 (g.own ++ []) [some (.ref scr), some (.ref g.a), some (.lst (tL t)), some (.int (first : Int)), some (.int (h : Int)), some (.lst (pL ts)), some (machD Cm t n), some (webD Cw h ts), some (.lst (ss.map stT)), none, none, none, none, none, none, none, none, none, none, none, none] σ M H)
    (tb : LamX.TabS H0 Pt ((Z81 P wd K mg base fl (.ref cL) A outer sh HH Er ()).env.qual ++ "<lambda>"))
    (kn : ∀ H', D0.rt (.bl true) H') : wB (Z81 P wd K mg base fl (.ref cL) A outer sh HH Er) ((defBody s81).drop 9) D0 σ H := by
  have B := L.B
  have h1 := w.h1
  refine b_cons (k_setX fm 18 c (V_.run (v_of fm L.of_ (g0 := g) (rest := []) (Pa := OddD) (fun own hi => w_nm 1 (fun _ => rfl) rfl) (Pl := fun xs => xs = [.non, .int (-1), .str "0", .bl true, .int 99]) (V_.imp (V_.of fun own hi => w_lst (a_cons w_non (a_cons (w_neg w_int) (a_cons w_str (a_cons w_bl (a_cons w_int a_nil))))) (show 5 ≤ 100000 by decide)) fun d e => ⟨_, e, rfl⟩) (fun xs e => by
      subst e
      refine ⟨by show 1 ≤ 5; decide, by show 5 ≤ 1000; decide, fun z hz => ?_⟩
      simp only [List.mem_cons, List.not_mem_nil, or_false] at hz
      exact hz)) ⟨g, ok, rfl, rfl, rfl⟩) (fun _ => rfl) ?_)
  rintro od o σ M H ⟨ho, g1, ok1, ea1, el1, rfl⟩ c
  have tb1 := C.tab c tb (fun _ z => nomatch z)
  have s := c.sd
  rw [← ea1] at s
  refine lo81 L TB fm gd om hf w l19 ho s tb1 hok fun σ M H s tb => ?_
  refine b_cons (k_setX fm 19 (Sd.c s) (V_.run (v_cat (fun own hi => w_nm 8 (fun _ => rfl) rfl) (v_lst (va_cons (v_tup (va_cons (V_.of fun own hi => w_str) (va_cons (V_.of fun own hi => w_sub (w_nm 4 (fun _ => rfl) rfl) w_int) (va_cons (v_of fm L.of_ (g0 := g1) (rest := []) (Pa := BadX) (fun own hi => w_nm 1 (fun _ => rfl) rfl) (Pl := fun xs => xs = [.int 8, .non, .int (-1)]) (V_.imp (V_.of fun own hi => w_lst (a_cons w_int (a_cons w_non (a_cons (w_neg w_int) a_nil))) (show 3 ≤ 100000 by decide)) fun d e => ⟨_, e, rfl⟩) (fun xs e => by
      subst e
      refine ⟨by show 1 ≤ 3; decide, by show 3 ≤ 1000; decide, fun z hz => ?_⟩
      simp only [List.mem_cons, List.not_mem_nil, or_false] at hz
      exact hz)) va_nil))) (fun ds ⟨x, r, e, _, y, r2, e2, _, z, r3, e3, _, e4⟩ => by rw [e, e2, e3, e4]; show 3 ≤ 100000; decide)) va_nil) (fun ds ⟨x, r, e, _, e2⟩ => by rw [e, e2]; show 1 ≤ 100000; decide)) (fun ys ⟨x, r, e, _, e2⟩ => by rw [e, e2, List.length_map]; show ss.length + 1 ≤ 100000; omega)) ⟨g1, ok1, rfl, rfl, rfl⟩) (fun _ => rfl) ?_)
  rintro d o σ M2 H2 ⟨⟨ys, rfl, b, rb, rfl, ⟨es, rfl, y1, r1, rfl, rfl, y2, r2, rfl, rfl, x, r3, rfl, bx, rfl⟩, rfl⟩, g2, ok2, ea2, el2, rfl⟩ c
  have tb := C.tab c tb (Sd.nx s)
  have s := c.sd
  rw [show (h : Int) - 1 = ((h - 1 : Nat) : Int) by omega] at s
  exact lx81 L TB fm gd om hf w l19 hok bx s tb kn
end
end
end Hb
/-! Df30: the law's body, whole. -/
namespace Hb
open PySem L2 Mc Ly
theorem flat_tT (n : Nat) : (List.replicate n [D.tup []]).flatten = tT (List.replicate n []) := by
  rw [flat_one]
  unfold tT
  rw [List.map_replicate]
  rfl
section
variable {P : Program} {wd : World} {K : PySem.W.Frag} {mg : Str → Option Value} {base : Heap} {Cm Cw Cn CB CH CS : Addr} (L : LE P wd K mg base Cm Cw Cn CB CH CS)
variable {fl cL Pt : Addr} {A : Around} {outer : List Env} {sh : Shared} {HH : Hp} {Er : XK} (TB : LamX.TabB base mg cL Pt)
variable (fm : Fam (Z81 P wd K mg base fl (.ref cL) A outer sh HH Er) P wd K mg base N81 10) (gd : Gd (Z81 P wd K mg base fl (.ref cL) A outer sh HH Er))
section
variable {t : List (List Nat)} {n h first : Nat} {ts : List Tie} (cm : CMach t n first) (l3 : t.length ≤ 3) (w : WOk h ts)
include L fm gd cm l3 w TB in
/-- from the pair of machine and web on -/
theorem lm81 {scr : Addr} {g : Dl} (ok : DlOk g) {M0 H0 M H : Hp} {σ : L2.St} {D0 : Ends}
    (c : C [] M0 H0 (g.own ++ []) [some (.ref scr), some (.ref g.a), some (.lst (tL t)), some (.int (first : Int)), some (.int (h : Int)), some (.lst (pL ts)), none, none, none, none, none, none, none, none, none, none, none, none, none, none, none] σ M H)
    (tb : LamX.TabS H0 Pt ((Z81 P wd K mg base fl (.ref cL) A outer sh HH Er ()).env.qual ++ "<lambda>"))
    (kn : ∀ H', D0.rt (.bl true) H') : wB (Z81 P wd K mg base fl (.ref cL) A outer sh HH Er) ((defBody s81).drop 4) D0 σ H := by
  have B := L.B
  have om := cm.ok
  have h1 := w.h1
  have h12 := w.h12
  have t20 := w.t20
  refine b_cons (k_asgX (f := f2 6 7) (Pq := fun d o => ∃ ma wa, d = .tup [.ref ma, .ref wa] ∧ o = (wa, .ins Cw [("ties", .tup (pT ts)), ("houses", .int (h : Int))]) :: (ma, .ins Cm [("tables", .tup (tT t)), ("deeds", .int t.length), ("states", .int n)]) :: (g.own ++ [])) c (X.imp (x_tupX (Pa := fun ds o => ∃ ma wa, ds = [.ref ma, .ref wa] ∧ o = (wa, .ins Cw [("ties", .tup (pT ts)), ("houses", .int (h : Int))]) :: (ma, .ins Cm [("tables", .tup (tT t)), ("deeds", .int t.length), ("states", .int n)]) :: (g.own ++ []))
    (XA.imp (xa_cn (Pr := fun x r o => ∃ ma wa, x = .ref ma ∧ r = [.ref wa] ∧ o = (wa, .ins Cw [("ties", .tup (pT ts)), ("houses", .int (h : Int))]) :: (ma, .ins Cm [("tables", .tup (tT t)), ("deeds", .int t.length), ("states", .int n)]) :: (g.own ++ []))
      (x_make fm L.T.kl L.mkM (Pq := fun d o => ∃ ma, d = .ref ma ∧ o = (ma, .ins Cm [("tables", .tup (tT t)), ("deeds", .int t.length), ("states", .int n)]) :: (g.own ++ [])) (EA.xa (a_cons (w_nm 2 (fun _ => rfl) rfl) a_nil)) (fun ds o ⟨e1, e2⟩ x => by
        subst e1 e2
        exact ⟨_, ⟨t, n, x, rfl, rfl, om, rfl, rfl⟩, x, rfl, rfl⟩))
      (fun x o ⟨ma, e1, e2⟩ => by
        subst e1 e2
        refine XA.imp (xa_one (x_make fm L.W.kl L.mkW (Pq := fun d o => ∃ wa, d = .ref wa ∧ o = (wa, .ins Cw [("ties", .tup (pT ts)), ("houses", .int (h : Int))]) :: (ma, .ins Cm [("tables", .tup (tT t)), ("deeds", .int t.length), ("states", .int n)]) :: (g.own ++ [])) (EA.xa (a_cons (w_nm 4 (fun _ => rfl) rfl) (a_cons (w_nm 5 (fun _ => rfl) rfl) a_nil))) (fun ds o ⟨e1, e2⟩ x => by
          subst e1 e2
          exact ⟨_, ⟨h, ts, x, rfl, rfl, w, rfl, rfl⟩, x, rfl, rfl⟩))) ?_
        rintro r o' ⟨y, rfl, wa, rfl, rfl⟩
        exact ⟨ma, wa, rfl, rfl, rfl⟩))
      (fun ds o ⟨x, r, o1, e, _, ma, wa, e1, e2, e3⟩ => ⟨ma, wa, by rw [e, e1, e2], e3⟩))
    (fun ds o ⟨ma, wa, e, _⟩ => by rw [e]; show 2 ≤ 100000; decide)) (fun d o ⟨ds, e, ma, wa, e1, e2⟩ => ⟨ma, wa, by rw [e, e1], e2⟩)) (fun d o ⟨ma, wa, e, _⟩ => by
      subst e
      exact g_tup fm (g_cons fm 6 (fun _ => rfl) (g_cons fm 7 (fun _ => rfl) g_nil))) ?_)
  rintro d o σ M H ⟨ma, wa, rfl, rfl⟩ c
  obtain ⟨M1, c1, s1, d1⟩ := C.frz c (fun z => nomatch z) rfl
  obtain ⟨M2, c2, s2, d2⟩ := C.frz c1 (fun z => nomatch z) rfl
  have c3 := c2.again (i := 7) (d := .ref wa) (d' := webD Cw h ts) rfl fun v r => by rw [r.raw_eq]; exact d1.mono s2
  have c := c3.again (i := 6) (d := .ref ma) (d' := machD Cm t n) rfl fun v r => by rw [r.raw_eq]; exact d2
  clear c1 c2 c3
  -- steps
  refine b_cons (k_setX fm 8 c (x_callN fm L.stps (Pq := fun d o => ∃ (ss : List Stp) (g' : Dl), d = .lst (ss.map stT) ∧ ss.length ≤ 19 ∧ (∀ s ∈ ss, sok h ts.length t.length s = true) ∧ DlOk g' ∧ g'.a = g.a ∧ o = g'.own ++ [])
    (xa_e (w_nm 1 (fun _ => rfl) rfl) (xa_e (w_nm 4 (fun _ => rfl) rfl) (xa_e (w_nm 5 (fun _ => rfl) rfl) (xa_e (E.eq (y := .int (t.length : Nat)) (w_len fm B (w_nm 2 (fun _ => rfl) rfl) qL) (by rw [tL_len])) (xa_one (V_.run (v_of fm L.of_ (g0 := g) (rest := []) (Pa := fun d => ∃ k : Nat, k ≤ 13 ∧ d = .int (k : Int)) (fun own hi => w_nm 1 (fun _ => rfl) rfl) (Pl := fun xs => xs = [.int 1, .int 6, .int 13]) (V_.imp (V_.of fun own hi => w_lst (a_cons w_int (a_cons w_int (a_cons w_int a_nil))) (show 3 ≤ 100000 by decide)) fun d e => ⟨_, e, rfl⟩) (fun xs e => by
      subst e
      refine ⟨by show 1 ≤ 3; decide, by show 3 ≤ 1000; decide, fun z hz => ?_⟩
      simp only [List.mem_cons, List.not_mem_nil, or_false] at hz
      rcases hz with rfl | rfl | rfl
      · exact ⟨1, by decide, rfl⟩
      · exact ⟨6, by decide, rfl⟩
      · exact ⟨13, by decide, rfl⟩)) ⟨g, ok, rfl, rfl, rfl⟩)))))) (fun ds o ⟨r1, e1, r2, e2, r3, e3, r4, e4, x, e5, ⟨k, k13, ex⟩, g1, ok1, ea1, el1, eo⟩ => by
      subst e1 e2 e3 e4 e5 ex eo
      refine ⟨⟨g1, h, ts, t.length, k⟩, g1.own, [], .refl _, ⟨by show [D.ref g.a, _, _, _, _] = [D.ref g1.a, _, _, _, _]; rw [ea1], rfl, ok1, h1, h12, t20, om.d1, by show t.length ≤ 8; omega, by show k ≤ 400; omega⟩, ?_⟩
      rintro d o ⟨ss, g', rfl, hl, hok, ok', ea, el', rfl⟩
      exact ⟨ss, g', rfl, by have : ss.length = k := hl; omega, hok, ok', ea.trans ea1, rfl⟩)) (fun _ => rfl) ?_)
  rintro d o σ M H ⟨ss, g2, rfl, l19, hok, ok2, ea2, rfl⟩ c
  have hok8 : ∀ x ∈ ([] : List Stp), sok h ts.length 8 x = true := fun _ z => nomatch z
  have sa : StA Cw h ts (.lst []) [] := ⟨⟨[], qL, rfl, fun i s e => nomatch e⟩, by show 0 ≤ 400; decide, hok8⟩
  -- a net, places, counts
  refine b_cons (k_par3 fm 9 10 11 c (XA.imp (xa_cn (Pr := fun x r o => ∃ na pl, x = .ref na ∧ r = [.ref pl, cD (bookOf h ts [])] ∧ o = (pl, .l []) :: (na, .ins Cn (netF Cm Cw ⟨t, n, h, ts, first⟩ (List.replicate h first) (List.replicate ts.length first) [])) :: (g2.own ++ []))
    (x_make fm L.N.kl L.mkN (Pq := fun d o => ∃ na, d = .ref na ∧ o = (na, .ins Cn (netF Cm Cw ⟨t, n, h, ts, first⟩ (List.replicate h first) (List.replicate ts.length first) [])) :: (g2.own ++ [])) (EA.xa (a_cons (w_nm 6 (fun _ => rfl) rfl) (a_cons (w_nm 7 (fun _ => rfl) rfl) (a_cons (w_nm 3 (fun _ => rfl) rfl) a_nil)))) (fun ds o ⟨e1, e2⟩ x => by
      subst e1 e2
      exact ⟨_, ⟨⟨t, n, h, ts, first⟩, x, rfl, rfl, ⟨om, w, cm.lt⟩, rfl, rfl⟩, x, rfl, rfl⟩))
    (fun x o ⟨na, e1, e2⟩ => by
      subst e1 e2
      refine XA.imp (xa_cn (Pr := fun y r o => ∃ pl, y = .ref pl ∧ r = [cD (bookOf h ts [])] ∧ o = (pl, .l []) :: (na, .ins Cn (netF Cm Cw ⟨t, n, h, ts, first⟩ (List.replicate h first) (List.replicate ts.length first) [])) :: (g2.own ++ [])) (EN.xn (n_lst a_nil)) (fun y o ⟨pl, e1, e2⟩ => by
        subst e1 e2
        refine XA.imp (EA.xa (a_cons (w_call fm L.c58 (a_cons (w_nm 7 (fun _ => rfl) rfl) (a_cons (w_lst a_nil) a_nil)) ⟨h, ts, _, [], rfl, w, sa, rfl⟩) a_nil)) ?_
        rintro r o ⟨rfl, rfl⟩
        exact ⟨pl, rfl, rfl, rfl⟩)) ?_
      rintro r o ⟨y, r', o1, rfl, _, pl, rfl, rfl, rfl⟩
      exact ⟨na, pl, rfl, rfl, rfl⟩)) (P' := fun ds o => ∃ na pl, ds = [.ref na, .ref pl, cD (bookOf h ts [])] ∧ o = (pl, .l []) :: (na, .ins Cn (netF Cm Cw ⟨t, n, h, ts, first⟩ (List.replicate h first) (List.replicate ts.length first) [])) :: (g2.own ++ [])) (fun ds o ⟨x, r, o1, e, _, na, pl, e1, e2, e3⟩ => ⟨na, pl, by rw [e, e1, e2], e3⟩)) (fun _ => rfl) (fun _ => rfl) (fun _ => rfl) ?_)
  rintro ds o ⟨na, pl, rfl, rfl⟩
  refine ⟨_, _, _, rfl, fun σ M H c => ?_⟩
  refine b_cons (k_if (g := false) c (et_eq (t_cmp (w_nm 11 (fun _ => rfl) rfl) (E.eq (w_tup (a_cons (w_mul (x := .tup [.tup []]) (y := .int (h : Int)) fm (w_tup (a_cons (w_tup a_nil) a_nil) (show 1 ≤ 100000 by decide)) (w_nm 4 (fun _ => rfl) rfl) ⟨by simp, by omega, by omega, by show 1 ≤ 1000; decide⟩) (a_cons (w_mul (x := .tup [.tup []]) (y := .int (ts.length : Int)) fm (w_tup (a_cons (w_tup a_nil) a_nil) (show 1 ≤ 100000 by decide)) (E.eq (y := .int (ts.length : Int)) (w_len fm B (w_nm 5 (fun _ => rfl) rfl) qL) (by rw [pL_len])) ⟨by simp, by omega, by omega, by show 1 ≤ 1000; decide⟩) a_nil)) (show 2 ≤ 100000 by decide)) (y := .tup [.tup (tT (List.replicate h [])), .tup (tT (List.replicate ts.length []))]) (by
      show D.tup [.tup (List.replicate ((h : Int)).toNat [D.tup []]).flatten, .tup (List.replicate ((ts.length : Int)).toNat [D.tup []]).flatten] = _
      rw [Int.toNat_natCast, Int.toNat_natCast, flat_tT, flat_tT])) (cm_neP fm (p := pyC (List.replicate h []) (List.replicate ts.length [])) py_cD py_cD (shaped_of lay_cD) (shaped_of lay_cD))) ?_) (fun hh M H c => nomatch hh) fun hh M H c => b_nil ?_)
  · rw [SeqAt.eqv_refl _ lay_cD.1]; rfl
  refine b_cons (lp81 L fm gd cm w l19 hok c fun σ M H c => ?_)
  rw [← ea2] at c
  exact lq81 L TB fm gd om cm.lt w l19 hok ok2 c tb kn
end
include L fm gd TB in
theorem la81 {scr : Addr} {ns : List Int} {M0 H0 : Hp} {σ : L2.St} {D0 : Ends} (c : C [] M0 H0 [] (startD N81.length [.ref scr]) σ M0 H0) (hs : SqL K H0 scr (ns.map V.int))
    (tb : LamX.TabS H0 Pt ((Z81 P wd K mg base fl (.ref cL) A outer sh HH Er ()).env.qual ++ "<lambda>"))
    (kn : ∀ H', D0.rt (.bl true) H') : wB (Z81 P wd K mg base fl (.ref cL) A outer sh HH Er) (defBody s81) D0 σ H0 := by
  have B := L.B
  refine b_cons (k_setAt fm 1 (call_scr fm L.dealt (w_nm 0 (fun _ => rfl) rfl) c hs) (fun _ => rfl) ?_)
  rintro d o σ M H ⟨g, ok, rfl, rfl⟩ c
  rw [← List.append_nil (Dl.own g)] at c
  refine b_cons (k_ifX c (VT.run (vt_and2 (vt_cmp (v_any fm L.any (m := 16) (g0 := g) (rest := []) (fun own hi => w_nm 1 (fun _ => rfl) rfl) (fun own hi => w_int) (by decide) (by decide)) (VI.of fun own hi => w_int) cI_eq).2 (vt_not (vt_val (v_far fm gd L.far (fun own hi => w_nm 1 (fun _ => rfl) rfl))))) ⟨g, ok, rfl, rfl, rfl⟩) (fun o M H ⟨h1, _⟩ c => ?_) ?_)
  · exfalso
    rcases h1 with z | z <;> exact absurd z (by decide)
  rintro o M H ⟨_, g1, ok1, ea1, el1, rfl⟩ c
  refine b_nil ?_
  refine b_cons (k_asgX (f := f2 2 3) c (x_callN fm L.mach (Pq := fun d o => ∃ t n first g', d = .tup [.lst (tL t), .int ((first : Nat) : Int)] ∧ CMach t n first ∧ t.length ≤ 3 ∧ DlOk g' ∧ g'.a = g.a ∧ o = g'.own ++ []) (EA.xa (a_cons (w_nm 1 (fun _ => rfl) rfl) a_nil)) (fun ds o ⟨e1, e2⟩ => by
      subst e1 e2
      refine ⟨g1, g1.own, [], .refl _, ⟨by show [D.ref g.a] = [D.ref g1.a]; rw [ea1], rfl, ok1⟩, ?_⟩
      rintro d o ⟨t, n, first, g', rfl, cm, l3, ok', ea', el', rfl⟩
      exact ⟨t, n, first, g', rfl, cm, l3, ok', ea'.trans ea1, rfl⟩)) (fun d o ⟨t, n, first, g', e, _⟩ => by
      subst e
      exact g_tup fm (g_cons fm 2 (fun _ => rfl) (g_cons fm 3 (fun _ => rfl) g_nil))) ?_)
  rintro d o σ M H ⟨t, n, first, g2, rfl, cm, l3, ok2, ea2, rfl⟩ c
  rw [← ea2] at c
  refine b_cons (k_asgX (f := f2 4 5) c (x_callN fm L.web (Pq := fun d o => ∃ (h : Nat) (ts : List Tie) (g' : Dl), d = .tup [.int (h : Int), .lst (pL ts)] ∧ WOk h ts ∧ DlOk g' ∧ g'.a = g2.a ∧ o = g'.own ++ []) (xa_e (w_nm 1 (fun _ => rfl) rfl) (xa_one (V_.run (v_of fm L.of_ (g0 := g2) (rest := []) (Pa := fun d => ∃ k : Nat, 1 ≤ k ∧ k ≤ 12 ∧ d = .int (k : Int)) (fun own hi => w_nm 1 (fun _ => rfl) rfl) (Pl := fun xs => xs = [.int 5, .int 5, .int 12]) (V_.imp (V_.of fun own hi => w_lst (a_cons w_int (a_cons w_int (a_cons w_int a_nil))) (show 3 ≤ 100000 by decide)) fun d e => ⟨_, e, rfl⟩) (fun xs e => by
      subst e
      refine ⟨by show 1 ≤ 3; decide, by show 3 ≤ 1000; decide, fun z hz => ?_⟩
      simp only [List.mem_cons, List.not_mem_nil, or_false] at hz
      rcases hz with rfl | rfl | rfl
      · exact ⟨5, by decide, by decide, rfl⟩
      · exact ⟨5, by decide, by decide, rfl⟩
      · exact ⟨12, by decide, by decide, rfl⟩)) ⟨g2, ok2, rfl, rfl, rfl⟩))) (fun ds o ⟨r1, e1, x, e5, ⟨k, k1, k12, ex⟩, g3, ok3, ea3, el3, eo⟩ => by
      subst e1 e5 ex eo
      refine ⟨(g3, k), g3.own, [], .refl _, ⟨by show [D.ref g2.a, _] = [D.ref g3.a, _]; rw [ea3], rfl, ok3, k1, k12⟩, ?_⟩
      rintro d o ⟨h, ts, g', rfl, w, ok', ea', el', rfl⟩
      exact ⟨h, ts, g', rfl, w, ok', ea'.trans ea3, rfl⟩)) (fun d o ⟨h, ts, g', e, _⟩ => by
      subst e
      exact g_tup fm (g_cons fm 4 (fun _ => rfl) (g_cons fm 5 (fun _ => rfl) g_nil))) ?_)
  rintro d o σ M H ⟨h, ts, g4, rfl, w, ok4, ea4, rfl⟩ c
  rw [← ea4] at c
  exact lm81 L TB fm gd cm l3 w ok4 c tb kn
end
end Hb
/-! Df31: the law's promise, kept from the caller's state on. -/
namespace Hb
open PySem PySem.Spec PyProof.Rows L2 Mc Ly
/-- asked: a list of whole numbers, an empty table; told: True -/
def spLaw (K : PySem.W.Frag) (Pt : Addr) : Sp := fun vs H Q _ => ∃ (a : Addr) (ns : List Int), vs = [.ref a] ∧ SqL K H a (ns.map V.int) ∧ H Pt = some (.tbl #[]) ∧ ∀ H', Q (.bl true) H'
theorem tab_new {H : Hp} {Pt : Addr} {q : Str} (h : H Pt = some (.tbl #[])) : LamX.TabS H Pt q := ⟨#[], h, trivial, fun pos cv z => by cases z⟩
theorem law_ok {P : Program} {wd : World} {K : PySem.W.Frag} {mg : Str → Option Value} {base : Heap} {Cm Cw Cn CB CH CS : Addr} (L : LE P wd K mg base Cm Cw Cn CB CH CS) {cL Pt : Addr} (TB : LamX.TabB base mg cL Pt) {f : Addr} {fd : FuncData} (F : Df K mg "law" s81 f fd) (hc : fd.code = .ref cL) :
    FnOkG P wd K mg base 11 f fd ["_law_script"] (spLaw K Pt) := by
  obtain ⟨oc, od, kV, doc, pm, an, cdv, ct, osl, e, lk, hcd⟩ := F.F.ex
  subst e
  have hc : cdv = .ref cL := hc
  subst hc
  refine ⟨fun vs H Q Er h => ?_, fun A outer s H args us vs Q Er g hr e0 hb r hs => LamX.run_ofS lk hcd sc81 hr e0 hb r ?_ fun hr2 => ?_⟩
  · obtain ⟨a, ns, rfl, _⟩ := h
    rfl
  · obtain ⟨a, ns, rfl, _⟩ := hs
    rfl
  · obtain ⟨a, ns, rfl, hsq, htb, q⟩ := hs
    refine ⟨_, pb_w (Z := Z81 P wd K mg base f (.ref cL) A outer s H Er) (), ?_⟩
    exact la81 (scr := a) (ns := ns) (M0 := fun _ => none) L TB ⟨fun _ => rfl, fun _ => rfl, fun _ => rfl, fun _ => rfl, fun _ => rfl, fun _ => rfl, sc81.nd, fun _ => rfl, fun _ => hr2⟩ (fun _ => g) (Ly.C.mk (Ly.Sd.mk (fun _ _ z => nomatch z) (EnvD.start (Dvs.cons (.raw _) .nil) N81) OwnOk.nil) .refl (fun _ z => nomatch z) (fun _ z => nomatch z)) hsq (tab_new htb) q
/-! ### the caller's state -/
structure En (K : PySem.W.Frag) (mg mb : Str → Option Value) (a cL Pt : Addr) (s1 : Shared) (vs : List Value) (ns : List Int) : Prop where
  kin : K.In s1.heap
  glob : s1.heap.Ns mainGlobals mg
  blt : s1.heap.Ns builtinsNs mb
  bltIs : ∀ x : Str, x ≠ "__name__" → mb x = bootBuiltins x
  lim : s1.heap.NoLimit
  gens : s1.gens = #[]
  tab : s1.heap.get? Pt = some { cls := .none, data := .fields #[] }
  out : K.lookup Pt = none
  code : PySem.W.CodeHd s1.heap cL Pt
  bm : ∃ (m : Addr) (ob : Obj), mg "__builtins__" = some (.ref m) ∧ m ≠ builtinsNs ∧ s1.heap.get? m = some ob ∧ ob.cls = .type "module" ∧ ob.dict = some builtinsNs ∧ ob.data = .plain
  scr : s1.heap.get? a = some { cls := .type "list", data := .seq vs.toArray }
  whole : IntsAre vs ns
  len : ns.length ≤ sizeLine
/-- what is told apart at the start: the empty table; the script, where the written part does not hold it -/
def hpE (Pt a : Addr) (vs : List Value) (ns : List Int) (t : Bool) : Hp := fun b => bif decide (b = Pt) then some (.tbl #[]) else bif t && decide (b = a) then some (.frz { cls := .type "list", data := .seq vs.toArray } (.lst (ns.map V.int))) else none
section
variable {Pt a : Addr} {vs : List Value} {ns : List Int} {t : Bool}
theorem hpE_tab : hpE Pt a vs ns t Pt = some (.tbl #[]) := by unfold hpE; rw [decide_eq_true rfl]; rfl
theorem hpE_off {b : Addr} (h1 : b ≠ Pt) (h2 : t = true → b ≠ a) : hpE Pt a vs ns t b = none := by
  unfold hpE
  rw [decide_eq_false h1]
  cases t with
  | false => rfl
  | true => rw [decide_eq_false (h2 rfl)]; rfl
theorem hpE_scr (h : a ≠ Pt) : hpE Pt a vs ns true a = some (.frz { cls := .type "list", data := .seq vs.toArray } (.lst (ns.map V.int))) := by
  unfold hpE
  rw [decide_eq_false h, decide_eq_true rfl]; rfl
/-- nothing else is told -/
theorem hpE_cases {b : Addr} {u : HO} (h : hpE Pt a vs ns t b = some u) : (b = Pt ∧ u = .tbl #[]) ∨ (b = a ∧ t = true ∧ u = .frz { cls := .type "list", data := .seq vs.toArray } (.lst (ns.map V.int))) := by
  by_cases h1 : b = Pt
  · subst h1
    rw [hpE_tab] at h
    exact .inl ⟨rfl, (Option.some.inj h).symm⟩
  · by_cases h2 : t = true ∧ b = a
    · obtain ⟨rfl, rfl⟩ := h2
      rw [hpE_scr h1] at h
      exact .inr ⟨rfl, rfl, (Option.some.inj h).symm⟩
    · rw [hpE_off h1 fun z y => h2 ⟨z, y⟩] at h
      cases h
end
section
variable {K : PySem.W.Frag} {mg mb : Str → Option Value} {a cL Pt : Addr} {s1 : Shared} {vs : List Value} {ns : List Int} (E : En K mg mb a cL Pt s1 vs ns)
include E
theorem En.ne : a ≠ Pt := fun z => by
  have h := E.scr
  rw [z, E.tab] at h
  have h' : (Data.fields #[] : Data) = .seq vs.toArray 0 := congrArg Obj.data (Option.some.inj h)
  cases h'
/-- what is neither a list nor an empty table is not told -/
theorem En.off {t : Bool} {b : Addr} {o : Obj} (e : s1.heap.get? b = some o) (h1 : ∀ xs n, o.data ≠ .seq xs n) (h2 : o.data ≠ .fields #[]) : hpE Pt a vs ns t b = none := by
  refine hpE_off (fun z => ?_) fun _ z => ?_
  · subst z
    rw [E.tab] at e
    exact h2 (congrArg Obj.data (Option.some.inj e)).symm
  · subst z
    rw [E.scr] at e
    exact h1 _ _ (congrArg Obj.data (Option.some.inj e)).symm
theorem En.stay {t : Bool} {b : Addr} {o : Obj} (e : s1.heap.get? b = some o) (h1 : ∀ xs n, o.data ≠ .seq xs n) (h2 : o.data ≠ .fields #[]) : (hidT s1.heap (hpE Pt a vs ns t)).get? b = some o := hidT_get e (E.off e h1 h2)
theorem En.names {t : Bool} {b : Addr} {m : Str → Option Value} (h : s1.heap.Ns b m) : (hidT s1.heap (hpE Pt a vs ns t)).Ns b m := by
  obtain ⟨o, es, ep, e, d, r⟩ := h
  exact ⟨o, es, ep, E.stay e (fun xs n z => by rw [d] at z; cases z) (fun z => by rw [d] at z; cases z), d, r⟩
theorem En.frag {t : Bool} (ht : t = true → K.lookup a = none) : K.In (hidT s1.heap (hpE Pt a vs ns t)) := fun b o e => by
  refine hidT_get (E.kin b o e) (hpE_off (fun z => ?_) fun z y => ?_)
  · subst z; rw [E.out] at e; cases e
  · subst y; rw [ht z] at e; cases e
theorem En.tb {t : Bool} : LamX.TabB (hidT s1.heap (hpE Pt a vs ns t)) mg cL Pt := by
  refine ⟨?_, ?_, fun z => ?_⟩
  · obtain ⟨o, us, file, tf, flags, tg, inF, text, tt, h, c1, c2, c3, c4⟩ := E.code
    refine ⟨o, us, file, tf, flags, tg, inF, text, tt, E.stay h (fun xs n z => by rw [c2] at z; cases z) (fun z => ?_), c1, c2, c3, c4⟩
    have z2 := c2.symm.trans z
    cases z2
    simp at c3
  · obtain ⟨m, ob, b1, b2, b3, b4, b5, b6⟩ := E.bm
    refine ⟨m, ob, b1, b2, fun z => ?_, fun z => ?_, E.stay b3 (fun xs n z => by rw [b6] at z; cases z) (fun z => by rw [b6] at z; cases z), b4, b5, b6⟩
    · obtain ⟨o, es, ep, e, d, _⟩ := E.glob
      rw [← z, b3] at e
      cases e
      rw [b6] at d
      cases d
    · subst z
      rw [E.tab] at b3
      cases b3
      cases b6
  · obtain ⟨o, es, ep, e, d, _⟩ := E.glob
    rw [z, E.tab] at e
    cases e
    cases d
theorem En.told {P : Program} {w : World} {t : Bool} : HOk P w (hpE Pt a vs ns t) s1.heap := fun b u h => by
  rcases hpE_cases h with ⟨rfl, rfl⟩ | ⟨rfl, _, rfl⟩
  · exact E.tab
  · exact ⟨E.scr, by rw [List.length_map]; exact E.len, vs, _, vals_ints E.whole, E.scr⟩
theorem En.list : ∃ t : Bool, (t = true → K.lookup a = none) ∧ SqL K (hpE Pt a vs ns t) a (ns.map V.int) := by
  cases h : K.lookup a with
  | none => exact ⟨true, fun _ => rfl, .inl (.inr ⟨_, hpE_scr E.ne⟩)⟩
  | some o =>
    have e := E.kin a o h
    rw [E.scr] at e
    cases e
    refine ⟨false, (fun z => nomatch z), .inr ⟨_, vs.toArray, _, h, rfl, rfl, rfl, ?_, vals_ints E.whole⟩⟩
    rw [List.size_toArray, E.whole.length]; exact E.len
/-- the law's call, from the caller's state on -/
theorem En.call {P : Program} {w : World} {fa : Addr} {fd : FuncData} (hr : Room 11 callerA) (F : ∀ base : Heap, K.In base → base.Ns mainGlobals mg → LamX.TabB base mg cL Pt → FnOkG P w K mg base 11 fa fd ["_law_script"] (spLaw K Pt)) (hb : ∀ (s : Shared) (u : Value), BindsTo s fd ⟨[u], []⟩ [("_law_script", u)]) :
    codeAny (model P w) callerA (.call (.ref fa) ⟨[.ref a], []⟩) (fun r s' => r = .ok (.ret (.bool true)) ∧ OldK s1.heap s'.heap ∧ s'.os = s1.os ∧ AllBare s'.gens) s1 := by
  obtain ⟨t, ht, hsq⟩ := E.list
  have lim : (hidT s1.heap (hpE Pt a vs ns t)).NoLimit := by
    obtain ⟨mc, l1, l2⟩ := E.lim
    exact ⟨mc, E.names l1, l2⟩
  have md : L2.Mod K mg (hidT s1.heap (hpE Pt a vs ns t)) := ⟨E.frag ht, E.names E.glob, ⟨mb, E.names E.blt, E.bltIs⟩, lim⟩
  have G := F _ (E.frag ht) (E.names E.glob) E.tb
  have e0 : Env0 P w K mg (hidT s1.heap (hpE Pt a vs ns t)) callerA [] s1 (hpE Pt a vs ns t) :=
    { frames := rfl, mod := md, bs := fun b o e => of_hidT e, bsz := Nat.le_of_eq (hidT_size _ _), funs := trivial, frf := fun b hb => (List.not_mem_nil (a := b) hb).elim, hok := E.told, bare := .of_eq E.gens }
  have run := G.go callerA [] s1 (hpE Pt a vs ns t) ⟨[.ref a], []⟩ [.ref a] [.ref a] (fun v _ => v = .bl true) (fun _ _ _ => False) rfl hr e0 (hb s1 (.ref a)) (.cons rfl .nil) ⟨a, ns, rfl, hsq, hpE_tab, fun _ => rfl⟩
  refine codeAny_mono run fun r s2 h => ?_
  match r, h with
  | .error u, h =>
    rcases h with ⟨_, _, _, _, _, _, _, _, _, _, _, _, z⟩
    exact z.elim
  | .ok (.ret u), h =>
    obtain ⟨v, H2, os, bare, un, ok2, ru, hv⟩ := h
    have hv : v = .bl true := hv
    subst hv
    have ru : u = Value.bool true := ru
    subst ru
    obtain ⟨more, hm⟩ := un.tbls Pt #[] hpE_tab
    have gr : s2.heap.get? Pt = some { cls := .none, data := .fields (#[] ++ more) } := ok2 Pt _ hm
    have same : ∀ b o, b ≠ Pt → s1.heap.get? b = some o → s2.heap.get? b = some o := fun b o hn e => by
      cases hq : hpE Pt a vs ns t b with
      | none => exact un.keep b o e hq (fun z => nomatch (show b ∈ ([] : List Addr) from z)) fun z => nomatch z
      | some x =>
        rcases hpE_cases hq with ⟨z, _⟩ | ⟨rfl, _, rfl⟩
        · exact absurd z hn
        · obtain ⟨g2, _⟩ := ok2 _ _ (un.frzs _ _ _ hq)
          rw [E.scr] at e
          cases e
          exact g2
    refine ⟨rfl, OldK.mk (fun b o e => ?_) (fun b o e => ?_), os, bare⟩
    · by_cases hn : b = Pt
      · subst hn
        rw [E.tab] at e
        cases e
        exact .inr (.inl ⟨(E.code.tab E.tab).isCodeTable, rfl, #[], more, rfl, gr⟩)
      · exact .inl (same b o hn e)
    · by_cases hn : b = Pt
      · subst hn; exact ⟨_, gr⟩
      · exact ⟨o, same b o hn e⟩
end
end Hb
/-! HdC: all promises, from what the head tells. -/
namespace Hq
open PySem PySem.Spec PyProof.Rows L2 Mc Ly Hb
theorem fun_ofD {K : PySem.W.Frag} {x q : Str} {st : Stmt} {f : Addr} {fd : FuncData} {kws : List (Str × V)} (F : FunD K x q (defArgs st) (defBody st) (defScope st) [] kws f fd) : L2.Fun K x q st f fd := by
  obtain ⟨⟨oc, od, dV, kV, doc, pm, an, cdv, ct, osl, e, lk, cd, dfl, _⟩, kp⟩ := F
  rcases dfl with ⟨_, rfl⟩ | ⟨z, _⟩
  · exact ⟨⟨oc, od, kV, doc, pm, an, cdv, ct, osl, e, lk, cd⟩, kp⟩
  · exact absurd rfl z
section
variable {K : PySem.W.Frag} {h : Heap} {mg : Str → Option Value} (X : K.In h) (G : h.Ns mainGlobals mg) (c : He.SaysD faL fnL K)
include X G c
theorem df_of (i j : Nat) {x : Str} {st : Stmt} (h1 : fnL[i]? = some (dT x st)) (h2 : faL[j]? = some (.glo x)) : ∃ fd, Df K mg x st (He.ga K x) fd := by
  obtain ⟨fd, F⟩ := c.def_ i h1
  exact ⟨fd, fun_ofD F, He.glo_ok X G (c.fact j h2)⟩
omit X G in
theorem mf_of (i : Nat) {cl x q : Str} {st : Stmt} (h1 : fnL[i]? = some (dM cl x q st)) : ∃ fd, L2.Fun K x q st (He.ma K (He.ga K cl) x) fd := by
  obtain ⟨fd, F⟩ := c.def_ i h1
  exact ⟨fd, fun_ofD F⟩

theorem blt_of : Blt mg := { len := He.free_ok X G (c.fact 56 rfl), isinstance := He.free_ok X G (c.fact 57 rfl), all := He.free_ok X G (c.fact 58 rfl), tuple := He.free_ok X G (c.fact 59 rfl), list := He.free_ok X G (c.fact 60 rfl), range := He.free_ok X G (c.fact 61 rfl), enumerate := He.free_ok X G (c.fact 62 rfl), zip := He.free_ok X G (c.fact 63 rfl), sum := He.free_ok X G (c.fact 64 rfl), max := He.free_ok X G (c.fact 65 rfl), min := He.free_ok X G (c.fact 66 rfl), abs := He.free_ok X G (c.fact 67 rfl), int := He.free_ok X G (c.fact 68 rfl), bool := He.free_ok X G (c.fact 69 rfl), str := He.free_ok X G (c.fact 70 rfl), repr := He.free_ok X G (c.fact 71 rfl), sorted := He.free_ok X G (c.fact 72 rfl) }
theorem gc_of : Gc mg := { MOST_DEEDS := He.int_ok X G (c.fact 74 rfl), MOST_STATES := He.int_ok X G (c.fact 75 rfl), MOST_HOUSES := He.int_ok X G (c.fact 76 rfl), MOST_TIES := He.int_ok X G (c.fact 77 rfl), MOST_ROW := He.int_ok X G (c.fact 78 rfl), MOST_STEPS := He.int_ok X G (c.fact 79 rfl), DO := He.str_ok X G (c.fact 80 rfl), MEET := He.str_ok X G (c.fact 81 rfl) }
theorem machineK : MK K mg (He.ga K "Machine") := { kl := ⟨He.cls_ok (c.fact 82 rfl), He.glo_ok X G (c.fact 49 rfl)⟩, tables := He.noat_ok (c.fact 84 rfl), deeds := He.noat_ok (c.fact 85 rfl), states := He.noat_ok (c.fact 86 rfl) }
theorem webK : WK K mg (He.ga K "Web") := { kl := ⟨He.cls_ok (c.fact 87 rfl), He.glo_ok X G (c.fact 50 rfl)⟩, ties := He.noat_ok (c.fact 89 rfl), houses := He.noat_ok (c.fact 90 rfl) }
theorem netK : NK K mg (He.ga K "Net") := { kl := ⟨He.cls_ok (c.fact 91 rfl), He.glo_ok X G (c.fact 51 rfl)⟩, machine := He.noat_ok (c.fact 93 rfl), web := He.noat_ok (c.fact 94 rfl), first := He.noat_ok (c.fact 95 rfl), states := He.noat_ok (c.fact 96 rfl), archives := He.noat_ok (c.fact 97 rfl), steps := He.noat_ok (c.fact 98 rfl) }
theorem bookK : BK K mg (He.ga K "Book") := { kl := ⟨He.cls_ok (c.fact 99 rfl), He.glo_ok X G (c.fact 52 rfl)⟩, web := He.noat_ok (c.fact 101 rfl), acted := He.noat_ok (c.fact 102 rfl), houses := He.noat_ok (c.fact 103 rfl), ties := He.noat_ok (c.fact 104 rfl) }
omit X G in
theorem apart_of : Apart K (He.ga K "BadSteps") (He.ga K "NoHouse") (He.ga K "NoState") := ⟨He.exm_ok (c.fact 108 rfl), He.exm_ok (c.fact 109 rfl), He.exm_ok (c.fact 110 rfl), He.exm_ok (c.fact 111 rfl), He.exm_ok (c.fact 112 rfl), He.exm_ok (c.fact 113 rfl)⟩
end
/-! ### own exceptions -/
theorem sameO_ok {a b : Option (Option Value)} (h : sameO a b = true) : a = b := of_decide_eq_true h
theorem sameB_ok {a b : Option Bool} (h : sameB a b = true) : a = b := of_decide_eq_true h
theorem clsB_ok {K : PySem.W.Frag} {C : Addr} {tail : List Value} {newId : String} (h : clsB K C tail newId = true) :
    ∃ nm q N bs bm sn sub ab col dd k0 k1 k2 k3 k5, K.lookup C = some (PySem.excClassObj nm q C N bs bm true sn sub ab col dd k0 k1 k2 k3 k5 newId) ∧ Exm.refsX tail bm = true := by
  unfold clsB at h
  split at h
  · rename_i q
    obtain ⟨h1, h2⟩ := and_both h
    obtain ⟨h3, h4⟩ := and_both h2
    obtain ⟨h5, h6⟩ := and_both h4
    have e1 := of_decide_eq_true h1
    have e2 := of_decide_eq_true h3
    have e3 := of_decide_eq_true h5
    subst e1 e2 e3
    exact ⟨_, _, _, _, _, _, _, _, _, _, _, _, _, _, _, q, h6⟩
  · cases h
theorem iniB_ok {K : PySem.W.Frag} {C fI : Addr} {file qual : Str} {A : Arguments} {Bd : List Stmt} {S : Scope} (h : iniB K C fI file qual = true)
    (e : (match K.lookup fI with
      | some ⟨_, _, .func fd, _⟩ => some (fd.name, fd.qualname, fd.params, fd.body, fd.scope, fd.globals, fd.closure.map (·.1), fd.builtins)
      | _ => none : FnC) = some (("__init__" : Str), qual, A, FuncBody.stmts Bd, S, mainGlobals, [("__class__" : Str)], builtinsNs)) :
    ∃ (oc : Value) (od : Option Addr) (doc pm : Value) (an : Option Addr) (ct : Value) (osl : Array (Option Value)) (cc cda : Addr) (cl : Value) (cld : Option Addr) (csl : Array (Option Value)) (ccl : Value) (cdd : Option Addr) (ccs : Array (Option Value)) (vs : Array Value) (tf : Tok),
      K.lookup fI = some ⟨oc, od, .func (PySem.W.ksFn "__init__" qual A Bd S .none .none doc pm an (.ref cda) ct cc), osl⟩ ∧ PySem.W.codeIn K (.ref cda) qual = true ∧ K.lookup cda = some ⟨ccl, cdd, .fields vs, ccs⟩ ∧ vs[2]? = some (.str file tf) ∧ K.lookup cc = some ⟨cl, cld, .cell (some (.ref C)), csl⟩ := by
  unfold iniB at h
  split at h
  · rename_i q
    rw [q] at e
    simp only [Option.some.injEq, Prod.mk.injEq, List.map_cons, List.map_nil, List.cons.injEq, and_true] at e
    obtain ⟨e1, e2, e3, e4, e5, e6, e7, e8⟩ := e
    subst e1 e2 e3 e4 e5 e6 e7 e8
    obtain ⟨h1, h2⟩ := and_both h
    obtain ⟨h3, h4⟩ := and_both h2
    split at h3
    · rename_i q2
      split at h3
      · rename_i q3
        split at h4
        · rename_i q4
          have f1 := of_decide_eq_true h3
          have f2 := of_decide_eq_true h4
          subst f1 f2
          exact ⟨_, _, _, _, _, _, _, _, _, _, _, _, _, _, _, _, _, q, h1, q2, q3, q4⟩
        · cases h4
      · cases h3
    · cases h3
  · cases h
abbrev PQ : Program := PySem.Challenge.pw_houseslessties_k16_whole_books_at_every
theorem xt_of {K : PySem.W.Frag} {mg : Str → Option Value} {e : ExD} {NB : String} (hx : Exm.XB e.B NB e.newId e.initId e.tail) (hp : (parts K e).all id = true) (hs : statB K = true) (hsup : mg "super" = none) (hg : mg e.nm = some (.ref (He.ga K e.nm))) (hk : PySem.W.keepIn K (.ref (He.ga K e.nm)) = true) (hv : fnC K e = e.val)
    (sh : ∃ (msg : Str) (j : Nat) (p1 p2 q1 q2 q3 q4 q5 q6 q7 q8 q9 q10 : Pos), defArgs e.st = Exm.iA e.f p1 p2 ∧ defBody e.st = Exm.iB e.f msg j q1 q2 q3 q4 q5 q6 q7 q8 q9 q10 ∧ defScope e.st = Exm.iS e.f ∧
      ∀ (cda cc L fI : Addr), ∃ pl : Sem Bool, PySem.eval (.Call (.Attribute (.Call (.Name "super" q1) [] [] q2) "__init__" q3) [.Constant (.str msg) j q4] [] q5) (PySem.W.ksEnv e.qual (Exm.iS e.f) L fI (.ref cda) cc) = (do
        let ov ← attributeBase (.Call (.Name "super" q1) [] [] q2) "__init__" (PySem.W.ksEnv e.qual (Exm.iS e.f) L fI (.ref cda) cc) (PySem.eval (.Call (.Name "super" q1) [] [] q2) (PySem.W.ksEnv e.qual (Exm.iS e.f) L fI (.ref cda) cc))
        standAt q3.atName
        let (fv, first) ← holding [ov] (getMethod ov "__init__" pl)
        callWith q5 fv first (backTo q5 (starEach [.Constant (.str msg) j q4] (PySem.W.ksEnv e.qual (Exm.iS e.f) L fI (.ref cda) cc))) [])) :
    Exm.XT PQ K mg e.nm e.f e.B NB e.newId e.initId e.tail (He.ga K e.nm) (He.ma K (He.ga K e.nm) "__init__") := by
  unfold parts at hp
  simp only [List.all_cons, List.all_nil, id_eq, Bool.and_eq_true, and_true] at hp
  obtain ⟨k1, k2, k3, k4, k5, k6, k7, k8, k9, k10, k11, k12, k13, k14⟩ := hp
  obtain ⟨msg, j, p1, p2, q1, q2, q3, q4, q5, q6, q7, q8, q9, q10, s1, s2, s3, s4⟩ := sh
  have hv' : fnC K e = some (("__init__" : Str), e.qual, defArgs e.st, FuncBody.stmts (defBody e.st), defScope e.st, mainGlobals, [("__class__" : Str)], builtinsNs) := hv
  unfold fnC at hv'
  obtain ⟨oc, od, doc, pm, an, ct, osl, cc, cda, cl, cld, csl, ccl, cdd, ccs, vs, tf, g1, g2, g3, g4, g5⟩ := iniB_ok k14 hv'
  rw [s1, s2, s3] at g1
  exact { base := hx, gC := hg, noS := hsup, cls := clsB_ok k1, sa := sameO_ok k2, ga := sameO_ok k3, gg := sameO_ok k4, noN := sameO_ok k5, iC := sameO_ok k6, tC := of_decide_eq_true k7, kC := hk, exC := sameB_ok k8, tyC := of_decide_eq_true k9, hdC := k10, up := sameO_ok k11, hB := sameB_ok k12, opq := sameO_ok hs, slf := sameB_ok k13, top := (by decide +kernel), fn := ⟨oc, od, doc, pm, an, ct, osl, e.qual, msg, j, p1, p2, q1, q2, q3, q4, q5, q6, q7, q8, q9, q10, cc, cda, cl, cld, csl, ccl, cdd, ccs, vs, _, tf, g1, g2, g3, g4, beq_self_eq_true _, g5, fun L => s4 cda cc L _⟩ }
section
variable {K : PySem.W.Frag} {h : Heap} {mg : Str → Option Value} (X : K.In h) (G : h.Ns mainGlobals mg) (c : SaysY h K)
include c in
theorem ex_parts {e : ExD} (he : e ∈ exL) : (parts K e).all id = true ∧ statB K = true := by
  obtain ⟨h1, h2⟩ := and_both c.ex
  exact ⟨List.all_eq_true.mp h2 e he, h1⟩
include c in
theorem ex_ini (i : Nat) {e : ExD} (he : exL[i]? = some e) : fnC K e = e.val := by
  have z : (exL.map (fnC K))[i]? = (exL.map ExD.val)[i]? := by rw [c.ini]
  rw [List.getElem?_map, List.getElem?_map, he] at z
  exact Option.some.inj z
include X G c
theorem xtB : XBS PQ K mg (He.ga K "BadSteps") (He.ma K (He.ga K "BadSteps") "__init__") :=
  xt_of (e := xB) Exm.xbV (ex_parts c List.mem_cons_self).1 (ex_parts c List.mem_cons_self).2 (He.free_ok X G (c.d.fact 73 rfl)) (He.glo_ok X G (c.d.fact 53 rfl)) (He.keep_ok (c.d.fact 114 rfl)) (ex_ini c 0 rfl) ⟨_, _, _, _, _, _, _, _, _, _, _, _, _, _, rfl, rfl, rfl, fun _ _ _ _ => ⟨_, rfl⟩⟩
theorem xtH : XNH PQ K mg (He.ga K "NoHouse") (He.ma K (He.ga K "NoHouse") "__init__") :=
  xt_of (e := xH) Exm.xbK (ex_parts c (List.mem_cons_of_mem _ List.mem_cons_self)).1 (ex_parts c List.mem_cons_self).2 (He.free_ok X G (c.d.fact 73 rfl)) (He.glo_ok X G (c.d.fact 54 rfl)) (He.keep_ok (c.d.fact 115 rfl)) (ex_ini c 1 rfl) ⟨_, _, _, _, _, _, _, _, _, _, _, _, _, _, rfl, rfl, rfl, fun _ _ _ _ => ⟨_, rfl⟩⟩
theorem xtS : XNS PQ K mg (He.ga K "NoState") (He.ma K (He.ga K "NoState") "__init__") :=
  xt_of (e := xS) Exm.xbK (ex_parts c (List.mem_cons_of_mem _ (List.mem_cons_of_mem _ List.mem_cons_self))).1 (ex_parts c List.mem_cons_self).2 (He.free_ok X G (c.d.fact 73 rfl)) (He.glo_ok X G (c.d.fact 55 rfl)) (He.keep_ok (c.d.fact 116 rfl)) (ex_ini c 2 rfl) ⟨_, _, _, _, _, _, _, _, _, _, _, _, _, _, rfl, rfl, rfl, fun _ _ _ _ => ⟨_, rfl⟩⟩
end
end Hq
/-! HdE: all promises, then the law's. -/
namespace Hq
open PySem PySem.Spec PyProof.Rows L2 Mc Ly Hb
theorem le_of {K : PySem.W.Frag} {h : Heap} {mg : Str → Option Value} (X : K.In h) (G : h.Ns mainGlobals mg) (c : SaysY h K) (wd : World) (base : Heap) :
    LE PQ wd K mg base (He.ga K "Machine") (He.ga K "Web") (He.ga K "Net") (He.ga K "BadSteps") (He.ga K "NoHouse") (He.ga K "NoState") ∧ ∃ fd, Df K mg "law" s81 (He.ga K "law") fd := by
  have B := blt_of X G c.d
  have gc := gc_of X G c.d
  have T := machineK X G c.d
  have W := webK X G c.d
  have NN := netK X G c.d
  have BB := bookK X G c.d
  have xB := xtB X G c
  have xH := xtH X G c
  have xS := xtS X G c
  obtain ⟨fd19, F19⟩ := df_of X G c.d 0 0 (x := "is_integer") (st := top 19) rfl rfl
  obtain ⟨fd20, F20⟩ := df_of X G c.d 1 1 (x := "is_number") (st := top 20) rfl rfl
  obtain ⟨fd21, F21⟩ := df_of X G c.d 2 2 (x := "is_below") (st := top 21) rfl rfl
  obtain ⟨fd22, F22⟩ := df_of X G c.d 3 3 (x := "is_within") (st := top 22) rfl rfl
  obtain ⟨fd23, F23⟩ := df_of X G c.d 4 4 (x := "is_sequence") (st := top 23) rfl rfl
  obtain ⟨fd24, F24⟩ := df_of X G c.d 5 5 (x := "is_text") (st := top 24) rfl rfl
  obtain ⟨fd26, F26⟩ := df_of X G c.d 6 6 (x := "is_table") (st := top 26) rfl rfl
  obtain ⟨fd27, F27⟩ := df_of X G c.d 7 7 (x := "check_tables") (st := top 27) rfl rfl
  obtain ⟨fd29, F29⟩ := df_of X G c.d 8 8 (x := "need_state") (st := top 29) rfl rfl
  obtain ⟨fd30, F30⟩ := df_of X G c.d 9 9 (x := "need_deed") (st := top 30) rfl rfl
  obtain ⟨fd31, F31⟩ := df_of X G c.d 10 10 (x := "check_row") (st := top 31) rfl rfl
  obtain ⟨fd32, F32⟩ := df_of X G c.d 11 11 (x := "run_on") (st := top 32) rfl rfl
  obtain ⟨fd34, F34⟩ := df_of X G c.d 12 12 (x := "pair_rows") (st := top 34) rfl rfl
  obtain ⟨fd35, F35⟩ := df_of X G c.d 13 13 (x := "ends_of") (st := top 35) rfl rfl
  obtain ⟨fd36, F36⟩ := df_of X G c.d 14 14 (x := "join") (st := top 36) rfl rfl
  obtain ⟨fd38, F38⟩ := df_of X G c.d 15 15 (x := "is_pair") (st := top 38) rfl rfl
  obtain ⟨fd39, F39⟩ := df_of X G c.d 16 16 (x := "check_ties") (st := top 39) rfl rfl
  obtain ⟨fd41, F41⟩ := df_of X G c.d 17 17 (x := "need_house") (st := top 41) rfl rfl
  obtain ⟨fd42, F42⟩ := df_of X G c.d 18 18 (x := "need_tie") (st := top 42) rfl rfl
  obtain ⟨fd47, F47⟩ := df_of X G c.d 19 19 (x := "is_step") (st := top 47) rfl rfl
  obtain ⟨fd48, F48⟩ := df_of X G c.d 20 20 (x := "looked_steps") (st := top 48) rfl rfl
  obtain ⟨fd49, F49⟩ := df_of X G c.d 21 21 (x := "put_at") (st := top 49) rfl rfl
  obtain ⟨fd52, F52⟩ := df_of X G c.d 22 22 (x := "power_of") (st := top 52) rfl rfl
  obtain ⟨fd54, F54⟩ := df_of X G c.d 23 23 (x := "web_steps") (st := top 54) rfl rfl
  obtain ⟨fd55, F55⟩ := df_of X G c.d 24 24 (x := "act_deeds") (st := top 55) rfl rfl
  obtain ⟨fd57, F57⟩ := df_of X G c.d 25 25 (x := "book_after") (st := top 57) rfl rfl
  obtain ⟨fd58, F58⟩ := df_of X G c.d 26 26 (x := "counts_after") (st := top 58) rfl rfl
  obtain ⟨fd59, F59⟩ := df_of X G c.d 27 27 (x := "counted_acts") (st := top 59) rfl rfl
  obtain ⟨fd60, F60⟩ := df_of X G c.d 28 28 (x := "heard_after") (st := top 60) rfl rfl
  obtain ⟨fd61, F61⟩ := df_of X G c.d 29 29 (x := "led_times") (st := top 61) rfl rfl
  obtain ⟨fd62, F62⟩ := df_of X G c.d 30 30 (x := "led_counts") (st := top 62) rfl rfl
  obtain ⟨fd63, F63⟩ := df_of X G c.d 31 31 (x := "plain_state") (st := top 63) rfl rfl
  obtain ⟨fd65, F65⟩ := df_of X G c.d 32 32 (x := "_law_dealt") (st := top 65) rfl rfl
  obtain ⟨fd66, F66⟩ := df_of X G c.d 33 33 (x := "_law_any") (st := top 66) rfl rfl
  obtain ⟨fd67, F67⟩ := df_of X G c.d 34 34 (x := "_law_of") (st := top 67) rfl rfl
  obtain ⟨fd68, F68⟩ := df_of X G c.d 35 35 (x := "_law_turned") (st := top 68) rfl rfl
  obtain ⟨fd69, F69⟩ := df_of X G c.d 36 36 (x := "_law_machine") (st := top 69) rfl rfl
  obtain ⟨fd70, F70⟩ := df_of X G c.d 37 37 (x := "_law_web") (st := top 70) rfl rfl
  obtain ⟨fd71, F71⟩ := df_of X G c.d 38 38 (x := "_law_steps") (st := top 71) rfl rfl
  obtain ⟨fd72, F72⟩ := df_of X G c.d 39 39 (x := "_law_led") (st := top 72) rfl rfl
  obtain ⟨fd73, F73⟩ := df_of X G c.d 40 40 (x := "_law_joined") (st := top 73) rfl rfl
  obtain ⟨fd74, F74⟩ := df_of X G c.d 41 41 (x := "_law_are_booked") (st := top 74) rfl rfl
  obtain ⟨fd75, F75⟩ := df_of X G c.d 42 42 (x := "_law_are_above") (st := top 75) rfl rfl
  obtain ⟨fd76, F76⟩ := df_of X G c.d 43 43 (x := "_law_follow") (st := top 76) rfl rfl
  obtain ⟨fd77, F77⟩ := df_of X G c.d 44 44 (x := "_law_far_right") (st := top 77) rfl rfl
  obtain ⟨fd78, F78⟩ := df_of X G c.d 45 45 (x := "_law_bad_steps") (st := top 78) rfl rfl
  obtain ⟨fd79, F79⟩ := df_of X G c.d 46 46 (x := "_law_is_heard") (st := top 79) rfl rfl
  obtain ⟨fd80, F80⟩ := df_of X G c.d 47 47 (x := "_law_is_shown") (st := top 80) rfl rfl
  obtain ⟨fd81, F81⟩ := df_of X G c.d 48 48 (x := "law") (st := top 81) rfl rfl
  obtain ⟨fms28, Ms28⟩ := mf_of c.d 49 (cl := "Machine") (x := "__init__") (q := "Machine.__init__") (st := s28) rfl
  obtain ⟨fms40, Ms40⟩ := mf_of c.d 50 (cl := "Web") (x := "__init__") (q := "Web.__init__") (st := s40) rfl
  obtain ⟨fms50, Ms50⟩ := mf_of c.d 51 (cl := "Net") (x := "__init__") (q := "Net.__init__") (st := s50) rfl
  obtain ⟨fms50d, Ms50d⟩ := mf_of c.d 52 (cl := "Net") (x := "do") (q := "Net.do") (st := s50d) rfl
  obtain ⟨fms50m, Ms50m⟩ := mf_of c.d 53 (cl := "Net") (x := "meet") (q := "Net.meet") (st := s50m) rfl
  obtain ⟨fms56, Ms56⟩ := mf_of c.d 54 (cl := "Book") (x := "__init__") (q := "Book.__init__") (st := s56) rfl
  obtain ⟨fms56h, Ms56h⟩ := mf_of c.d 55 (cl := "Book") (x := "hear") (q := "Book.hear") (st := s56h) rfl
  have C19 := ok19 (P := PQ) (wd := wd) (base := base) B F19
  have C20 := ok20 (P := PQ) (wd := wd) (base := base) F20 C19
  have C21 := ok21 (P := PQ) (wd := wd) (base := base) F21 C20
  have C22 := ok22 (P := PQ) (wd := wd) (base := base) F22 C19
  have C23 := ok23 (P := PQ) (wd := wd) (base := base) B F23
  have C24 := ok24 (P := PQ) (wd := wd) (base := base) B F24
  have C26 := ok26 (P := PQ) (wd := wd) (base := base) B F26 C23 C21
  have C27 := ok27 (P := PQ) (wd := wd) (base := base) B gc F27 C23 C26
  have I28 := ok28 (P := PQ) (wd := wd) (base := base) B T Ms28 C27
  have C29 := ok29 (P := PQ) (wd := wd) (base := base) T F29 C21
  have C30 := ok30 (P := PQ) (wd := wd) (base := base) T F30 C21
  have C31 := ok31 (P := PQ) (wd := wd) (base := base) B gc T F31 C23 C21
  have C32 := ok32 (P := PQ) (wd := wd) (base := base) F32
  have C38 := ok38 (P := PQ) (wd := wd) (base := base) B F38 C23 C21
  have C39 := ok39 (P := PQ) (wd := wd) (base := base) B gc F39 C22 C23 C38
  have I40 := ok40 (P := PQ) (wd := wd) (base := base) W Ms40 C39
  have C41 := ok41 (P := PQ) (wd := wd) (base := base) W F41 C21
  have C42 := ok42 (P := PQ) (wd := wd) (base := base) B W F42 C21
  have C47 := ok47 (P := PQ) (wd := wd) (base := base) B gc W F47 C23 C24 C21
  have C48 := ok48 (P := PQ) (wd := wd) (base := base) B gc F48 C23 C47
  have C34 := ok34 (P := PQ) (wd := wd) (base := base) B T F34
  have C35 := ok35 (P := PQ) (wd := wd) (base := base) B T F35 C34
  have C36 := ok36 (P := PQ) (wd := wd) (base := base) B F36 C29 C35
  have C49 := ok49 (P := PQ) (wd := wd) (base := base) F49
  have I50 := ok50 (P := PQ) (wd := wd) (base := base) B W NN Ms50 C29
  have D50 := ok50d (P := PQ) (wd := wd) (base := base) B gc T NN Ms50d C41 C30 C49
  have E50 := ok50m (P := PQ) (wd := wd) (base := base) B gc T W NN Ms50m C42 C36 C49
  have C52 := ok52 (P := PQ) (wd := wd) (base := base) B T F52 C29 C31 C32
  have C54 := ok54 (P := PQ) (wd := wd) (base := base) gc F54 C48
  have C55 := ok55 (P := PQ) (wd := wd) (base := base) B gc F55 C54
  have C59 := ok59 (P := PQ) (wd := wd) (base := base) B F59
  have C61 := ok61 (P := PQ) (wd := wd) (base := base) B T F61 C29 C31 C32 C20 C52
  have C62 := ok62 (P := PQ) (wd := wd) (base := base) B T F62 C29 C31 C23 C20 C61
  have I56 := ok56 (P := PQ) (wd := wd) (base := base) B W BB Ms56
  have H56 := ok56h (P := PQ) (wd := wd) (base := base) B gc W BB Ms56h
  have CI : CalI PQ wd K mg base (He.ga K "Book") 1 ["self", "web", "acts"] _ := ⟨_, _, I56, He.mkr_ok (c.d.fact 100 rfl), Ms56.binds fun _ _ _ _ _ _ us hl => match us, hl with | [_, _, _], _ => rfl⟩
  have CH : CalM PQ wd K mg base (He.ga K "Book") "hear" 1 ["self", "one"] _ := ⟨_, _, H56, He.meth_ok (c.d.fact 107 rfl), Ms56h.binds fun _ _ _ _ _ _ us hl => match us, hl with | [_, _], _ => rfl⟩
  have C57 := ok57 (P := PQ) (wd := wd) (base := base) B gc BB F57 CI CH
  have C58 := ok58 (P := PQ) (wd := wd) (base := base) B BB F58 C54 C57
  have C60 := ok60 (P := PQ) (wd := wd) (base := base) B F60 C58.cal C59
  have C63 := ok63 (P := PQ) (wd := wd) (base := base) B T W F63 C29 C48 C41 C55.cal C32 C60.cal
  have Z29 := ex29 (P := PQ) (wd := wd) (base := base) T xS F29 C21
  have Z41 := ex41 (P := PQ) (wd := wd) (base := base) W xH F41 C21
  have Z48 := ex48 (P := PQ) (wd := wd) (base := base) B gc xB F48 C23 C47
  have Z54 := ex54 (P := PQ) (wd := wd) (base := base) gc F54 Z48
  have Z55 := ex55 (P := PQ) (wd := wd) (base := base) B F55 Z54
  have Z58 := ex58 (P := PQ) (wd := wd) (base := base) F58 Z54 C57
  have Z60 := ex60 (P := PQ) (wd := wd) (base := base) F60 Z58
  have Z63 := ex63 (P := PQ) (wd := wd) (base := base) T W F63 C29 Z29 C48 Z48 Z41
  have C65 := ok65 (P := PQ) (wd := wd) (base := base) B F65
  have C66 := ok66 (P := PQ) (wd := wd) (base := base) B F66
  have C67 := ok67 (P := PQ) (wd := wd) (base := base) B F67 C66
  have C71 := ok71 (P := PQ) (wd := wd) (base := base) B gc F71 C66
  have C70 := ok70 (P := PQ) (wd := wd) (base := base) B F70 C66 C67
  have C68 := ok68 (P := PQ) (wd := wd) (base := base) B F68 C66
  have C69 := ok69 (P := PQ) (wd := wd) (base := base) B F69 C66 C68
  have C72 := ok72 (P := PQ) (wd := wd) (base := base) B F72
  have C73 := ok73 (P := PQ) (wd := wd) (base := base) B F73
  have C74 := ok74 (P := PQ) (wd := wd) (base := base) B F74 C73
  have C75 := ok75 (P := PQ) (wd := wd) (base := base) B F75
  have C76 := ok76 (P := PQ) (wd := wd) (base := base) B F76
  have C79 := ok79 (P := PQ) (wd := wd) (base := base) B F79
  have MW : CWeb PQ wd K mg base (He.ga K "Web") := ⟨_, _, I40, He.mkr_ok (c.d.fact 88 rfl), Ms40.binds fun _ _ _ _ _ _ us hl => match us, hl with | [_, _, _], _ => rfl⟩
  have C77 := ok77 (P := PQ) (wd := wd) (base := base) B W F77 C66 C67 C71 MW C58.cal C55.cal C60.cal C79
  have C80 := ok80 (P := PQ) (wd := wd) (base := base) B T W NN F80 C72 C62 C63.cal
  exact ⟨{ B := B, T := T, W := W, N := NN, dealt := C65, any := C66, of_ := C67, mach := C69, web := C70, stps := C71, far := C77, mkM := ⟨_, _, I28, He.mkr_ok (c.d.fact 83 rfl), Ms28.binds fun _ _ _ _ _ _ us hl => match us, hl with | [_, _], _ => rfl⟩, mkW := MW, mkN := ⟨_, _, I50, He.mkr_ok (c.d.fact 92 rfl), Ms50.binds fun _ _ _ _ _ _ us hl => match us, hl with | [_, _, _, _], _ => rfl⟩, do_ := ⟨_, _, D50, He.meth_ok (c.d.fact 105 rfl), Ms50d.binds fun _ _ _ _ _ _ us hl => match us, hl with | [_, _, _], _ => rfl⟩, meet := ⟨_, _, E50, He.meth_ok (c.d.fact 106 rfl), Ms50m.binds fun _ _ _ _ _ _ us hl => match us, hl with | [_, _], _ => rfl⟩, k58 := ⟨_, _, F58, C58⟩, k55 := ⟨_, _, F55, C55⟩, k60 := ⟨_, _, F60, C60⟩, k63 := ⟨_, _, F63, C63⟩, follow := C76, booked := C74, above := C75, heard := C79, shown := C80, z58 := Z58, z55 := Z55, z60 := Z60, z63 := Z63, bad := ⟨⟨_, xB⟩, ⟨_, xH⟩, ⟨_, xS⟩, apart_of c.d⟩, f78 := ⟨_, _, F78⟩ }, _, F81⟩
end Hq
/-! HdF: the end. -/
namespace Hq
open PySem PySem.Spec PyProof.Rows L2 Mc Ly Hb
theorem code_of {K : PySem.W.Frag} {mg : Str → Option Value} {fd : FuncData} (F : Df K mg "law" s81 (He.ga K "law") fd) : fd.code = .ref (cLaw K) ∧ ∀ (s : Shared) (u : Value), BindsTo s fd ⟨[u], []⟩ [("_law_script", u)] := by
  obtain ⟨oc, od, kV, doc, pm, an, cdv, ct, osl, e, lk, hcd⟩ := F.F.ex
  obtain ⟨c, hc⟩ := He.codeIn_ref hcd
  subst e hc
  refine ⟨?_, fun s u => .of_eq rfl⟩
  have z : He.codeOf K ("law", none) = c := He.codeOf_eq lk rfl
  show Value.ref c = .ref (He.codeOf K ("law", none))
  rw [z]
theorem law_told {w : World} {s1 : Shared} {mg mb : Str → Option Value} {fa a : Addr} {vs : List Value} {ns : List Int} (g1 : s1.heap.Ns mainGlobals mg) (g2 : s1.heap.Ns builtinsNs mb) (g3 : ∀ x : Str, x ≠ "__name__" → mb x = bootBuiltins x) (g4 : s1.heap.NoLimit) (gs : s1.gens = #[])
    (bm : ∃ (m : Addr) (ob : Obj), mg "__builtins__" = some (.ref m) ∧ m ≠ builtinsNs ∧ s1.heap.get? m = some ob ∧ ob.cls = .type "module" ∧ ob.dict = some builtinsNs ∧ ob.data = .plain) (scr : s1.heap.get? a = some { cls := .type "list", data := .seq vs.toArray }) (hi : IntsAre vs ns) (hl : ns.length ≤ 63) (hmg : mg "law" = some (.ref fa)) (Y : hookY.says w s1.heap) :
    codeAny (model PQ w) callerA (.call (.ref fa) ⟨[.ref a], []⟩) (fun r s' => r = .ok (.ret (.bool true)) ∧ OldK s1.heap s'.heap ∧ s'.os = s1.os ∧ AllBare s'.gens) s1 := by
  obtain ⟨K, X, c⟩ := Y
  obtain ⟨fd, F⟩ := (le_of X g1 c w s1.heap).2
  have e : Value.ref fa = .ref (He.ga K "law") := Option.some.inj (hmg.symm.trans F.g)
  injection e with e
  subst e
  obtain ⟨hc, hb⟩ := code_of F
  have E : En K mg mb a (cLaw K) (tLaw K) s1 vs ns := { kin := X, glob := g1, blt := g2, bltIs := g3, lim := g4, gens := gs, tab := c.empty, out := c.out, code := PySem.W.codeHd_of_K X c.head, bm := bm, scr := scr, whole := hi, len := Nat.le_trans hl (by decide) }
  exact E.call ⟨rfl, by decide, by decide⟩ (fun base _ _ TB => law_ok (le_of X g1 c w base).1 TB F hc) hb
theorem walk : PySem.W.WalkO (PySem.W.view R.prog [81]) nms (PySem.W.XL (PySem.W.view R.prog [81]) []) hookY.says R.toRowW (HandSHeadRun.topDef R.prog 81) [] (fun f vs => PySem.call f vs) := by
  refine Att.attach_callB (l := PySem.Challenge.rw_houseslessties_k16_whole_books_at_every) (n := 63) rfl (by kernel_rfl) fun w s0 s1 mg mb fa o pm cd doc a vs ns G Y ho hd hcd hmg hobj hints hlen hbits hg => ?_
  have e : (HandSHeadRun.topDef R.prog 81).name = ("law" : PySem.Str) := by kernel_rfl
  rw [e] at hmg
  exact law_told G.T.g G.T.b G.T.builtins G.T.nolimit hg G.T.bmain hobj hints hlen hmg Y
end Hq
theorem PySem.Challenge.cw_houseslessties_k16_whole_books_at_every_holds : PySem.Challenge.rw_houseslessties_k16_whole_books_at_every.Holds := by
  exact Hq.holds_of Hq.walk
